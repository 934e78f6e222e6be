import PyProof.Rows.All
import Wide.All
import OpenK.AllK
import Wide.FinOn
import HandS.ForMost
import HandS.Exc
import HandS.Wide
import HandS.EndBits
import HandS.Lambda
import HandS.IsInst
import HandS.Style
import HandS.TupAny
import HandS.TupMul
import HandS.Gcd
import HandS.Flow
import HandS.Zip
import KE.GoesNew
import HandS.WordsExc
import HandS.Star
import HandS.Dict
import HandS.RaiseMore
import PyProof.ReprRoads
import PyProof.Rows.RegStrFacts
import PySem.Challenge.RW_ringstream_k58_whole_normal_vectors
set_option Elab.async false
set_option linter.all false
set_option maxRecDepth 100000
set_option maxHeartbeats 2000000
namespace Dv
open PySem PySem.Spec PyProof.Rows L2

/-- a value as a tree, no address in it; drw: the draw -/
inductive D where
  | non | bl (b : Bool) | int (i : Int) | str (x : Str)
  | tup (ds : List D) | lst (ds : List D) | ro (ds : List D)
  | obj (C : Str) (fs : List (Str × D))
  | fn (x : Str)
  | typ (n : String)
  | drw
  | opq (n : Nat)
  | dct
  | flt (x : UInt64)

/-- what is fixed through a law's run -/
structure Cn (K : PySem.W.Frag) where
  ca : Str → Addr
  dd : Addr
  mu : Addr → Prop
  inv : Hp → Prop
  loc : ∀ H H' : Hp, (∀ a o, mu a → H a = some o → H' a = some o) → inv H → inv H'
  dm : ∀ H a, inv H → mu a → H a ≠ none

/-- what is known of an own class -/
structure OwnC (K : PySem.W.Frag) (C : Addr) (fs : List Str) : Prop where
  cl : Cls K C
  ha : PySem.W.findIn K (.ref C) "__class__" = some (some (.builtin "object.__class__"))
  hn : PySem.W.specialIn K (.builtin "object.__class__") "__get__" = some (some (.builtin "getset_descriptor.__get__"))
  htk : PySem.W.takesIn K (.builtin "object.__class__") = some true
  hm : PySem.W.mroIn K C (.type "object") = some true
  na : ∀ f ∈ fs, NoAttr K C f
section
variable {K : PySem.W.Frag} (c : Cn K) (B : Hp)
mutual
inductive Is : V → D → Prop
  | non : Is .non .non
  | bl (b : Bool) : Is (.bl b) (.bl b)
  | int (i : Int) : Is (.int i) (.int i)
  | str (x : Str) : Is (.str x) (.str x)
  | tup {a : Addr} {vs : List V} {ds : List D} : B a = some (.tup vs) → IsL vs ds → Is (.ref a) (.tup ds)
  | lst {a : Addr} {vs : List V} {ds : List D} : B a = some (.lst vs) → IsL vs ds → Is (.ref a) (.lst ds)
  | ro {a : Addr} {vs : List V} {ds : List D} : SqL K B a vs → IsL vs ds → Is (.ref a) (.ro ds)
  | obj {a dx : Addr} {C : Str} {fs : List (Str × V)} {gs : List (Str × D)} : B a = some (.ins (c.ca C) dx fs) → OwnC K (c.ca C) (gs.map (·.1)) → IsF fs gs → Is (.ref a) (.obj C gs)
  | fn (x : Str) : Is (.ref (c.ca x)) (.fn x)
  | typ (n : String) : Is (.ty n) (.typ n)
  | drw : Is (.ref c.dd) .drw
  | opq (n : Nat) : Is (.ref n) (.opq n)
  | dct {a : Addr} : B a = some (.dK []) → Is (.ref a) .dct
  | flt (x : UInt64) : Is (.flt x) (.flt x)
inductive IsL : List V → List D → Prop
  | nil : IsL [] []
  | cons {v : V} {d : D} {vs : List V} {ds : List D} : Is v d → IsL vs ds → IsL (v :: vs) (d :: ds)
inductive IsF : List (Str × V) → List (Str × D) → Prop
  | nil : IsF [] []
  | cons {x : Str} {v : V} {d : D} {vs : List (Str × V)} {ds : List (Str × D)} : Is v d → IsF vs ds → IsF ((x, v) :: vs) ((x, d) :: ds)
end
end

theorem Same.rd {H H' : Hp} (e : Same H H') {a : Addr} {u : HO} (h : Rd H a u) : Rd H' a u := by
  rcases h with h | ⟨o, h⟩
  · exact .inl (e _ _ h)
  · exact .inr ⟨o, e _ _ h⟩
theorem Same.l {K : PySem.W.Frag} {H H' : Hp} {a : Addr} {xs : List V} (e : Same H H') (h : SqL K H a xs) : SqL K H' a xs := h.elim (fun h => .inl (Same.rd e h)) .inr
theorem Same.t {K : PySem.W.Frag} {H H' : Hp} {a : Addr} {xs : List V} (e : Same H H') (h : SqT K H a xs) : SqT K H' a xs := h.elim (fun h => .inl (Same.rd e h)) .inr
theorem Same.new {H : Hp} {p : Addr} {o : HO} (h : H p = none) : Same H (upd H p o) := fun a u e => by
  rw [upd_ne (ne_of_none e h)]
  exact e

section
variable {K : PySem.W.Frag} {c : Cn K} {B B' : Hp}
mutual
theorem Is.mono (e : Same B B') : ∀ {v : V} {d : D}, Is c B v d → Is c B' v d
  | _, _, .non => .non
  | _, _, .bl b => .bl b
  | _, _, .int i => .int i
  | _, _, .str x => .str x
  | _, _, .tup h r => .tup (e _ _ h) (IsL.mono e r)
  | _, _, .lst h r => .lst (e _ _ h) (IsL.mono e r)
  | _, _, .ro h r => .ro (Same.l e h) (IsL.mono e r)
  | _, _, .obj h o r => .obj (e _ _ h) o (IsF.mono e r)
  | _, _, .fn x => .fn x
  | _, _, .typ n => .typ n
  | _, _, .drw => .drw
  | _, _, .opq n => .opq n
  | _, _, .dct h => .dct (e _ _ h)
  | _, _, .flt x => .flt x
theorem IsL.mono (e : Same B B') : ∀ {vs : List V} {ds : List D}, IsL c B vs ds → IsL c B' vs ds
  | _, _, .nil => .nil
  | _, _, .cons r t => .cons (Is.mono e r) (IsL.mono e t)
theorem IsF.mono (e : Same B B') : ∀ {vs : List (Str × V)} {ds : List (Str × D)}, IsF c B vs ds → IsF c B' vs ds
  | _, _, .nil => .nil
  | _, _, .cons r t => .cons (Is.mono e r) (IsF.mono e t)
end
theorem IsL.length : ∀ {vs : List V} {ds : List D}, IsL c B vs ds → vs.length = ds.length
  | _, _, .nil => rfl
  | _, _, .cons _ t => congrArg (· + 1) (IsL.length t)
theorem IsL.get : ∀ {vs : List V} {ds : List D} {i : Nat} {d : D}, IsL c B vs ds → ds[i]? = some d → ∃ v, vs[i]? = some v ∧ Is c B v d
  | _, _, 0, _, .cons r _, e => ⟨_, rfl, (Option.some.inj e) ▸ r⟩
  | _, _, i + 1, d, .cons _ t, e => IsL.get (i := i) (d := d) t e
theorem IsL.get' : ∀ {vs : List V} {ds : List D} {i : Nat} {v : V}, IsL c B vs ds → vs[i]? = some v → ∃ d, ds[i]? = some d ∧ Is c B v d
  | _, _, 0, _, .cons r _, e => ⟨_, rfl, (Option.some.inj e) ▸ r⟩
  | _, _, i + 1, v, .cons _ t, e => IsL.get' (i := i) (v := v) t e
theorem IsL.append : ∀ {vs ws : List V} {ds es : List D}, IsL c B vs ds → IsL c B ws es → IsL c B (vs ++ ws) (ds ++ es)
  | _, _, _, _, .nil, s => s
  | _, _, _, _, .cons r t, s => .cons r (IsL.append t s)
theorem IsL.take : ∀ {vs : List V} {ds : List D} (n : Nat), IsL c B vs ds → IsL c B (vs.take n) (ds.take n)
  | _, _, 0, _ => .nil
  | _, _, _ + 1, .nil => .nil
  | _, _, n + 1, .cons r t => .cons r (IsL.take n t)
theorem IsL.drop : ∀ {vs : List V} {ds : List D} (n : Nat), IsL c B vs ds → IsL c B (vs.drop n) (ds.drop n)
  | _, _, 0, r => r
  | _, _, _ + 1, .nil => .nil
  | _, _, n + 1, .cons _ t => IsL.drop n t
theorem IsL.reverse {vs : List V} {ds : List D} (h : IsL c B vs ds) : IsL c B vs.reverse ds.reverse := by
  induction vs generalizing ds with
  | nil => cases h; exact .nil
  | cons v vs ih =>
    cases h with
    | cons r t =>
      rw [List.reverse_cons, List.reverse_cons]
      exact (ih t).append (.cons r .nil)
theorem IsL.erase : ∀ {vs : List V} {ds : List D} (n : Nat), IsL c B vs ds → IsL c B (vs.eraseIdx n) (ds.eraseIdx n)
  | _, _, _, .nil => by simpa using IsL.nil
  | _, _, 0, .cons _ t => t
  | _, _, n + 1, .cons r t => .cons r (IsL.erase n t)
theorem IsL.set {x : V} {d : D} (q : Is c B x d) : ∀ {vs : List V} {ds : List D} (n : Nat), IsL c B vs ds → IsL c B (vs.set n x) (ds.set n d)
  | _, _, _, .nil => by simpa using IsL.nil
  | _, _, 0, .cons _ t => .cons q t
  | _, _, n + 1, .cons r t => .cons r (IsL.set q n t)
theorem IsF.lookup {x : Str} : ∀ {fs : List (Str × V)} {gs : List (Str × D)} {d : D}, IsF c B fs gs → gs.lookup x = some d → ∃ v, fs.lookup x = some v ∧ Is c B v d
  | _, _, _, .nil, e => by cases e
  | _, _, d, .cons (x := y) r t, e => by
    by_cases h : (x == y) = true
    · rw [List.lookup_cons] at e ⊢
      rw [h] at e ⊢
      exact ⟨_, rfl, Option.some.inj e ▸ r⟩
    · have h' : (x == y) = false := by simpa using h
      rw [List.lookup_cons] at e ⊢
      rw [h'] at e ⊢
      exact IsF.lookup t e
end

/-- no list in it: what it is told by does not lean on a list's address -/
def D.lf : D → Bool
  | .tup ds => lfL ds
  | .lst _ => false
  | .ro _ => false
  | .obj _ fs => lfF fs
  | _ => true
where
  lfL : List D → Bool
    | [] => true
    | d :: ds => D.lf d && lfL ds
  lfF : List (Str × D) → Bool
    | [] => true
    | (_, d) :: ds => D.lf d && lfF ds

section
variable {K : PySem.W.Frag} {c : Cn K} {B B' : Hp}
theorem Rd.but {a : Addr} {xs : List V} (e : ∀ a o, B a = some o → (∀ xs, o ≠ .lst xs) → B' a = some o) (h : Rd B a (.tup xs)) : Rd B' a (.tup xs) := by
  rcases h with h | ⟨o, h⟩
  · exact .inl (e _ _ h fun _ z => nomatch z)
  · exact .inr ⟨o, e _ _ h fun _ z => nomatch z⟩
mutual
theorem Is.but (e : ∀ a o, B a = some o → (∀ xs, o ≠ .lst xs) → B' a = some o) : ∀ {v : V} {d : D}, Is c B v d → d.lf = true → Is c B' v d
  | _, _, .non, _ => .non
  | _, _, .bl b, _ => .bl b
  | _, _, .int i, _ => .int i
  | _, _, .str x, _ => .str x
  | _, _, .tup h r, f => .tup (e _ _ h fun _ z => nomatch z) (IsL.but e r (by simpa [D.lf] using f))
  | _, _, .lst h r, f => by simp [D.lf] at f
  | _, _, .ro h r, f => by simp [D.lf] at f
  | _, _, .obj h o r, f => .obj (e _ _ h fun _ z => nomatch z) o (IsF.but e r (by simpa [D.lf] using f))
  | _, _, .fn x, _ => .fn x
  | _, _, .typ n, _ => .typ n
  | _, _, .drw, _ => .drw
  | _, _, .opq n, _ => .opq n
  | _, _, .dct h, _ => .dct (e _ _ h fun _ z => nomatch z)
  | _, _, .flt x, _ => .flt x
theorem IsL.but (e : ∀ a o, B a = some o → (∀ xs, o ≠ .lst xs) → B' a = some o) : ∀ {vs : List V} {ds : List D}, IsL c B vs ds → D.lf.lfL ds = true → IsL c B' vs ds
  | _, _, .nil, _ => .nil
  | _, _, .cons r t, f => by
    simp [D.lf.lfL] at f
    exact .cons (Is.but e r f.1) (IsL.but e t f.2)
theorem IsF.but (e : ∀ a o, B a = some o → (∀ xs, o ≠ .lst xs) → B' a = some o) : ∀ {vs : List (Str × V)} {ds : List (Str × D)}, IsF c B vs ds → D.lf.lfF ds = true → IsF c B' vs ds
  | _, _, .nil, _ => .nil
  | _, _, .cons r t, f => by
    simp [D.lf.lfF] at f
    exact .cons (Is.but e r f.1) (IsF.but e t f.2)
end
end

/-- B: what stands for good; H: all that is tracked -/
structure Pre {K : PySem.W.Frag} (c : Cn K) (B H : Hp) : Prop where
  bh : Same B H
  inv : c.inv H
  av : ∀ a, c.mu a → B a = none
structure Step {K : PySem.W.Frag} (c : Cn K) (B H B' H' : Hp) : Prop where
  b : Same B B'
  bh : Same B' H'
  dom : ∀ a, H a ≠ none → B' a = B a
  out : ∀ a o, H a = some o → ¬ c.mu a → (∀ ps, o ≠ .tbl ps) → H' a = some o
  th : ∀ a, H a ≠ none → H' a ≠ none
  inv : c.inv H'
  av : ∀ a, c.mu a → B' a = none
section
variable {K : PySem.W.Frag} {c : Cn K} {B H B1 H1 B2 H2 : Hp}
theorem Step.pre (s : Step c B H B1 H1) : Pre c B1 H1 := ⟨s.bh, s.inv, s.av⟩
theorem Step.refl (p : Pre c B H) : Step c B H B H := ⟨fun _ _ h => h, p.bh, fun _ _ => rfl, fun _ _ h _ _ => h, fun _ h => h, p.inv, p.av⟩
theorem Step.trans (s : Step c B H B1 H1) (t : Step c B1 H1 B2 H2) : Step c B H B2 H2 :=
  ⟨fun a o h => t.b a o (s.b a o h), t.bh, fun a h => (t.dom a (s.th a h)).trans (s.dom a h), fun a o h n z => t.out a o (s.out a o h n z) n z, fun a h => t.th a (s.th a h), t.inv, t.av⟩
theorem Pre.nmu (p : Pre c B H) {a : Addr} (h : H a = none) : ¬ c.mu a := fun m => c.dm H a p.inv m h
theorem Pre.bnone (p : Pre c B H) {a : Addr} (h : H a = none) : B a = none := by
  cases q : B a with
  | none => rfl
  | some o => rw [p.bh a o q] at h; cases h
/-- a new thing is laid, not for good -/
theorem Step.lay (p : Pre c B H) {a : Addr} (h : H a = none) (o : HO) : Step c B H B (upd H a o) :=
  ⟨fun _ _ h => h, fun b u e => Same.new h b u (p.bh b u e), fun _ _ => rfl, fun b u e _ _ => Same.new h b u e, fun b e => by
    by_cases z : b = a
    · rw [z, upd_same]; exact fun q => nomatch q
    · rw [upd_ne z]; exact e, c.loc _ _ (fun b u m e => Same.new h b u e) p.inv, p.av⟩
/-- what was laid behind the start is taken for good -/
theorem Step.keep (s : Step c B H B1 H1) {a : Addr} {o : HO} (h : H a = none) (p : Pre c B H) (h1 : H1 a = some o) (hb : B1 a = none) : Step c B H (upd B1 a o) H1 := by
  refine ⟨fun b u e => ?_, fun b u e => ?_, fun b e => ?_, s.out, s.th, s.inv, fun b m => ?_⟩
  · exact Same.new hb b u (s.b b u e)
  · by_cases z : b = a
    · rw [z, upd_same] at e; rw [z, h1, ← Option.some.inj e]
    · rw [upd_ne z] at e; exact s.bh b u e
  · rw [upd_ne (fun z => e (by rw [z]; exact h))]; exact s.dom b e
  · rw [upd_ne (fun z => p.nmu h (by rw [← z]; exact m))]; exact s.av b m
/-- .. both at once -/
theorem Step.new (p : Pre c B H) {a : Addr} (h : H a = none) (o : HO) : Step c B H (upd B a o) (upd H a o) :=
  (Step.lay p h o).keep h p upd_same (p.bnone h)
end

/-! ### results -/
inductive Rv where
  | val (d : D)
  | new (ds : List D)
def frz : Rv → D
  | .val d => d
  | .new ds => .lst ds
structure Exn where
  C : Str
  fs : List (Str × D)
def RvOk {K : PySem.W.Frag} (c : Cn K) (H B' H' : Hp) (v : V) : Rv → Prop
  | .val d => Is c B' v d
  | .new ds => ∃ a vs, v = .ref a ∧ H' a = some (.lst vs) ∧ IsL c B' vs ds ∧ B' a = none ∧ H a = none
def XOk {K : PySem.W.Frag} (c : Cn K) (B' H' : Hp) (cls : Value) (d : Option Addr) (x : Exn) : Prop :=
  cls = .ref (c.ca x.C) ∧ ((x.fs = [] ∧ d = none) ∨ ∃ dx gs, d = some dx ∧ H' dx = some (.xd gs) ∧ IsF c B' gs x.fs)
theorem RvOk.freeze {K : PySem.W.Frag} {c : Cn K} {B H B' H' : Hp} {v : V} {r : Rv} (p : Pre c B H) (s : Step c B H B' H') (h : RvOk c H B' H' v r) : ∃ B'', Step c B H B'' H' ∧ Same B' B'' ∧ Is c B'' v (frz r) := by
  cases r with
  | val d => exact ⟨B', s, fun _ _ h => h, h⟩
  | new ds =>
    obtain ⟨a, vs, rfl, h1, h2, h3, h4⟩ := h
    exact ⟨_, s.keep h4 p h1 h3, Same.new h3, .lst upd_same (h2.mono (Same.new h3))⟩

theorem rv_val {K : PySem.W.Frag} {c : Cn K} {H B' H' : Hp} {v : V} {d : D} (h : Is c B' v d) : RvOk c H B' H' v (.val d) := h
theorem rv_new {K : PySem.W.Frag} {c : Cn K} {H B' H' : Hp} {a : Addr} {vs : List V} {ds : List D} (h1 : H' a = some (.lst vs)) (h2 : IsL c B' vs ds) (h3 : B' a = none) (h4 : H a = none) : RvOk c H B' H' (.ref a) (.new ds) := ⟨a, vs, rfl, h1, h2, h3, h4⟩
/-! ### expressions -/
abbrev View := List (Option D)
abbrev DV := View → (D → Prop) → (Exn → Prop) → Prop
abbrev DR := View → (Rv → Prop) → (Exn → Prop) → Prop
abbrev DB := View → (Bool → Prop) → (Exn → Prop) → Prop
abbrev DL := View → (List D → Prop) → (Exn → Prop) → Prop
def Mn {α : Type} (f : View → (α → Prop) → (Exn → Prop) → Prop) : Prop := ∀ ρ (k k' : α → Prop) (E E' : Exn → Prop), (∀ d, k d → k' d) → (∀ x, E x → E' x) → f ρ k E → f ρ k' E'
def RepV {K : PySem.W.Frag} (c : Cn K) (B : Hp) (σ : L2.St) (ρ : View) : Prop := ρ.length = σ.length ∧ ∀ (i : Nat) (d : D), ρ[i]? = some (some d) → ∃ v, σ[i]? = some (some v) ∧ Is c B v d
theorem RepV.mono {K : PySem.W.Frag} {c : Cn K} {B B' : Hp} {σ : L2.St} {ρ : View} (e : Same B B') (r : RepV c B σ ρ) : RepV c B' σ ρ := ⟨r.1, fun i d h => let ⟨v, h1, h2⟩ := r.2 i d h; ⟨v, h1, h2.mono e⟩⟩
def XK {K : PySem.W.Frag} (c : Cn K) (W : WX) (B H : Hp) : Exn → Prop := fun x => ∀ cls d σ' B' H', Step c B H B' H' → XOk c B' H' cls d x → W cls d σ' H'
theorem XK.step {K : PySem.W.Frag} {c : Cn K} {W : WX} {B H B1 H1 : Hp} (s : Step c B H B1 H1) {x : Exn} (h : XK c W B H x) : XK c W B1 H1 x := fun cls d σ' B' H' t xo => h cls d σ' B' H' (s.trans t) xo
def tV {K : PySem.W.Frag} (c : Cn K) (W : WX) (f : DV) : TE := fun σ H Q => ∃ B ρ, Pre c B H ∧ RepV c B σ ρ ∧ f ρ (fun d => ∀ v B' H', Step c B H B' H' → Is c B' v d → Q v H') (XK c W B H)
def tR {K : PySem.W.Frag} (c : Cn K) (W : WX) (f : DR) : TE := fun σ H Q => ∃ B ρ, Pre c B H ∧ RepV c B σ ρ ∧ f ρ (fun r => ∀ v B' H', Step c B H B' H' → RvOk c H B' H' v r → Q v H') (XK c W B H)
def tT {K : PySem.W.Frag} (c : Cn K) (W : WX) (f : DB) : TT := fun σ H Q => ∃ B ρ, Pre c B H ∧ RepV c B σ ρ ∧ f ρ (fun b => ∀ B' H', Step c B H B' H' → Q b H') (XK c W B H)
def tL {K : PySem.W.Frag} (c : Cn K) (W : WX) (f : DL) : TA := fun σ H Q => ∃ B ρ, Pre c B H ∧ RepV c B σ ρ ∧ f ρ (fun ds => ∀ vs B' H', Step c B H B' H' → IsL c B' vs ds → Q vs H') (XK c W B H)
structure EV (X : Cx) (c : Cn X.K) (W : WX) (e : Expr) (f : DV) : Prop where
  mn : Mn f
  pe : PE X e (tV c W f)
structure ER (X : Cx) (c : Cn X.K) (W : WX) (e : Expr) (f : DR) : Prop where
  mn : Mn f
  pe : PE X e (tR c W f)
structure EB (X : Cx) (c : Cn X.K) (W : WX) (e : Expr) (f : DB) : Prop where
  mn : Mn f
  pt : PT X e (tT c W f)
structure EW (X : Cx) (c : Cn X.K) (W : WX) (e : Expr) (f : DB) : Prop where
  mn : Mn f
  pw : PW X e (tT c W f)
structure EA (X : Cx) (c : Cn X.K) (W : WX) (es : List Expr) (f : DL) : Prop where
  mn : Mn f
  len : ∀ ρ k E, f ρ k E → f ρ (fun ds => ds.length = es.length ∧ k ds) E
  pa : PA X es (tL c W f)
theorem wkE {X : Cx} {e : Expr} {t t' : TE} (p : PE X e t) (w : ∀ σ H Q, t' σ H Q → t σ H Q) : PE X e t' := ⟨fun pins s σ H Q I h => p.run pins s σ H Q I (w _ _ _ h)⟩
theorem wkT {X : Cx} {e : Expr} {t t' : TT} (p : PT X e t) (w : ∀ σ H Q, t' σ H Q → t σ H Q) : PT X e t' := ⟨fun pins s σ H Q I h => p.run pins s σ H Q I (w _ _ _ h)⟩
theorem wkW {X : Cx} {e : Expr} {t t' : TT} (p : PW X e t) (w : ∀ σ H Q, t' σ H Q → t σ H Q) : PW X e t' := ⟨fun wh pins s σ H Q I h => p.run wh pins s σ H Q I (w _ _ _ h)⟩
theorem wkA {X : Cx} {e : List Expr} {t t' : TA} (p : PA X e t) (w : ∀ σ H Q, t' σ H Q → t σ H Q) : PA X e t' := ⟨fun pos pins s σ H Q I h => p.run pos pins s σ H Q I (w _ _ _ h)⟩
theorem wkS {X : Cx} {e : Stmt} {t t' : TS} (p : PS X e t) (w : ∀ D σ H, t' D σ H → t D σ H) : PS X e t' := ⟨fun pins s σ H D I h => p.run pins s σ H D I (w _ _ _ h)⟩
theorem wkSs {X : Cx} {e : List Stmt} {t t' : TS} (p : PSs X e t) (w : ∀ D σ H, t' D σ H → t D σ H) : PSs X e t' := ⟨fun pins s σ H D I h => p.run pins s σ H D I (w _ _ _ h)⟩

section
variable {X : Cx} {c : Cn X.K} {W : WX} {e a b : Expr} {es : List Expr} {pos : Pos} {f g : DV}
def vR (f : DR) : DV := fun ρ k E => f ρ (fun r => k (frz r)) E
def rV (f : DV) : DR := fun ρ k E => f ρ (fun d => k (.val d)) E
theorem ER.v {f : DR} (h : ER X c W e f) : EV X c W e (vR f) := by
  refine ⟨fun ρ k k' E E' hk hE q => h.mn ρ _ _ E E' (fun r => hk (frz r)) hE q, wkE h.pe ?_⟩
  rintro σ H Q ⟨B, ρ, p, r, q⟩
  refine ⟨B, ρ, p, r, h.mn _ _ _ _ _ (fun d hd v B' H' s ro => ?_) (fun _ z => z) q⟩
  obtain ⟨B'', s', _, is⟩ := ro.freeze p s
  exact hd v B'' H' s' is
theorem EV.r (h : EV X c W e f) : ER X c W e (rV f) := by
  refine ⟨fun ρ k k' E E' hk hE q => h.mn ρ _ _ E E' (fun d => hk (.val d)) hE q, wkE h.pe ?_⟩
  rintro σ H Q ⟨B, ρ, p, r, q⟩
  exact ⟨B, ρ, p, r, h.mn _ _ _ _ _ (fun d hd v B' H' s is => hd v B' H' s is) (fun _ z => z) q⟩

def dVar (i : Nat) : DV := fun ρ k _ => ∃ d, ρ[i]? = some (some d) ∧ k d
def dC (d : D) : DV := fun _ k _ => k d
theorem ev_var {i : Nat} {x : Str} (hN : X.N[i]? = some x := by rfl) (hv : Vis X.env.scope x := by first | exact Or.inl rfl | exact Or.inr (Or.inl rfl) | exact Or.inr (Or.inr rfl)) (hd : (x == ("__debug__" : Str)) = false := by decide)
    (hcd : (x == ("__classdict__" : Str)) = false := by decide) : EV X c W (.Name x pos) (dVar i) := by
  refine ⟨fun ρ k k' E E' hk hE ⟨d, e, q⟩ => ⟨d, e, hk d q⟩, wkE (pe_var hN hv hd hcd) ?_⟩
  rintro σ H Q ⟨B, ρ, p, r, d, e, q⟩
  obtain ⟨v, h1, h2⟩ := r.2 i d e
  exact ⟨v, h1, q v B H (Step.refl p) h2⟩
theorem ev_const {v : V} {d : D} (h : PE X e (tC v)) (hi : ∀ B, Is c B v d) : EV X c W e (dC d) := by
  refine ⟨fun ρ k k' E E' hk hE q => hk d q, wkE h ?_⟩
  rintro σ H Q ⟨B, ρ, p, r, q⟩
  exact q v B H (Step.refl p) (hi B)
theorem ev_int {i : Int} {j : Nat} : EV X c W (.Constant (.int i) j pos) (dC (.int i)) := ev_const pe_int fun _ => .int i
theorem ev_bl {b : Bool} {j : Nat} : EV X c W (.Constant (.bool b) j pos) (dC (.bl b)) := ev_const pe_bl fun _ => .bl b
theorem ev_non {j : Nat} : EV X c W (.Constant .none j pos) (dC .non) := ev_const pe_non fun _ => .non
theorem ev_str {x : Str} {j : Nat} : EV X c W (.Constant (.str x) j pos) (dC (.str x)) := ev_const pe_str fun _ => .str x
/-- a constant of the module -/
theorem ev_glI {x : Str} {i : Int} (hg : Gl X x) (hm : ∃ t, X.mg x = some (.int i t)) (hd : (x == ("__debug__" : Str)) = false := by decide) : EV X c W (.Name x pos) (dC (.int i)) :=
  let ⟨t, h⟩ := hm
  ev_const (v := .int i) (pe_glob hg h ⟨t, rfl⟩ hd) fun _ => .int i

end
end Dv

set_option Elab.async false
set_option linter.all false
set_option maxRecDepth 100000
set_option maxHeartbeats 2000000
namespace Dv
open PySem PySem.Spec PyProof.Rows L2
open AutoSeq1 (wpAny_loadPart')
section
variable {X : Cx} {c : Cn X.K} {W : WX} {e a b : Expr} {es : List Expr} {pos : Pos} {f g : DV}

/-! ### operators that give results -/
def rBin (f g : DV) (op : D → D → (Rv → Prop) → Prop) : DR := fun ρ k E => f ρ (fun d => g ρ (fun e => op d e k) E) E
def OpN {K : PySem.W.Frag} (c : Cn K) (r : R2) (op : D → D → (Rv → Prop) → Prop) : Prop :=
  (∀ d e (k k' : Rv → Prop), (∀ z, k z → k' z) → op d e k → op d e k') ∧
  ∀ B H x y d e (Q : VK) (k : Rv → Prop), Pre c B H → Is c B x d → Is c B y e → op d e k → (∀ z B' H' u, Step c B H B' H' → RvOk c H B' H' z u → k u → Q z H') → r x y H Q
theorem RvOk.up {K : PySem.W.Frag} {c : Cn K} {B H B1 H1 B' H' : Hp} {z : V} {u : Rv} (s : Step c B H B1 H1) (h : RvOk c H1 B' H' z u) : RvOk c H B' H' z u := by
  cases u with
  | val d => exact h
  | new ds =>
    obtain ⟨a, vs, h1, h2, h3, h4, h5⟩ := h
    refine ⟨a, vs, h1, h2, h3, h4, ?_⟩
    cases q : H a with
    | none => rfl
    | some o => exact absurd h5 (s.th a (by rw [q]; exact fun z => nomatch z))
theorem rbin_ok {r : R2} {op : D → D → (Rv → Prop) → Prop} (ha : EV X c W a f) (hb : EV X c W b g) (ho : OpN c r op) :
    Mn (rBin f g op) ∧ ∀ σ H Q, tR c W (rBin f g op) σ H Q → tOp r (tV c W f) (tV c W g) σ H Q := by
  refine ⟨fun ρ k k' E E' hk hE q => ha.mn ρ _ _ E E' (fun d q => hb.mn ρ _ _ E E' (fun e q => ho.1 d e k k' hk q) hE q) hE q, ?_⟩
  rintro σ H Q ⟨B, ρ, p, rp, q⟩
  refine ⟨B, ρ, p, rp, ha.mn _ _ _ _ _ (fun d hd x B1 H1 s1 i1 => ?_) (fun _ z => z) q⟩
  refine ⟨B1, ρ, s1.pre, rp.mono s1.b, hb.mn _ _ _ _ _ (fun e he y B2 H2 s2 i2 => ?_) (fun x z => z.step s1) hd⟩
  exact ho.2 B2 H2 x y d e Q _ s2.pre (i1.mono s2.b) i2 he fun z B' H' u s3 i3 hk => hk z B' H' (s1.trans (s2.trans s3)) (i3.up (s1.trans s2))
theorem er_bin {op : Operator} {r : R2} {od : D → D → (Rv → Prop) → Prop} (ho : OpR X (binaryOp op) r) (hd : OpN c r od) (ha : EV X c W a f) (hb : EV X c W b g) : ER X c W (.BinOp a op b pos) (rBin f g od) :=
  ⟨(rbin_ok ha hb hd).1, wkE (pe_op ho ha.pe hb.pe) (rbin_ok ha hb hd).2⟩
theorem OpN.or {r r' : R2} {od od' oq : D → D → (Rv → Prop) → Prop} (h : OpN c r od) (h' : OpN c r' od') (hq : ∀ d e k, oq d e k → od d e k ∨ od' d e k) (hm : ∀ d e (k k' : Rv → Prop), (∀ z, k z → k' z) → oq d e k → oq d e k') : OpN c (fun x y H Q => r x y H Q ∨ r' x y H Q) oq := by
  refine ⟨hm, ?_⟩
  intro B H x y d e Q k p hx hy q K
  rcases hq d e k q with q | q
  · exact .inl (h.2 B H x y d e Q k p hx hy q K)
  · exact .inr (h'.2 B H x y d e Q k p hx hy q K)
/-- two whole numbers -/
def iI (C : Int → Int → Prop) (g : Int → Int → Int) : D → D → (Rv → Prop) → Prop
  | .int i, .int j, k => C i j ∧ k (.val (.int (g i j)))
  | _, _, _ => False
theorem opn_I {C : Int → Int → Prop} {g : Int → Int → Int} : OpN c (rI C fun i j => .int (g i j)) (iI C g) := by
  refine ⟨fun d e k k' hk q => ?_, ?_⟩
  · unfold iI at q ⊢
    split at q
    · exact ⟨q.1, hk _ q.2⟩
    · exact q
  · intro B H x y d e Q k p hx hy q K
    unfold iI at q
    split at q
    · cases hx; cases hy
      exact ⟨_, _, rfl, rfl, q.1, K _ B H _ (Step.refl p) (rv_val (.int _)) q.2⟩
    · exact q.elim
theorem opI0n {f : Value → Value → Sem Value} {g : Int → Int → Int} (h : OpR X f (rI0 fun i j => .int (g i j))) : OpR X f (rI (fun _ _ => True) fun i j => .int (g i j)) := by
  intro pins s σ H x y v u Q I rx ry q
  obtain ⟨i, j, h1, h2, _, q⟩ := q
  exact h pins s σ H x y v u Q I rx ry ⟨i, j, h1, h2, q⟩
def dSub : D → D → (Rv → Prop) → Prop := iI (fun _ _ => True) (fun i j => i - j)
theorem er_sub (ha : EV X c W a f) (hb : EV X c W b g) : ER X c W (.BinOp a .Sub b pos) (rBin f g dSub) := er_bin (opI0n op_sub) opn_I ha hb
/-- a divisor of any size and sign -/
def CFd (_ j : Int) : Prop := j ≠ 0 ∧ j.natAbs.log2 < 9000
theorem op_fdA : OpR X (binaryOp .FloorDiv) (rI CFd fun i j => .int (i.fdiv j)) := opI fun _ _ _ _ _ _ _ hc q => floordiv_int hc.1 q (.inl (PyProof.noPylong_of_log2 hc.2))
def dFd : D → D → (Rv → Prop) → Prop := iI CFd (fun i j => i.fdiv j)
def dMd : D → D → (Rv → Prop) → Prop := iI (fun _ j => j ≠ 0) (fun i j => i.fmod j)
def dPw : D → D → (Rv → Prop) → Prop := iI CPow (fun i j => i ^ j.toNat)
theorem er_fd (ha : EV X c W a f) (hb : EV X c W b g) : ER X c W (.BinOp a .FloorDiv b pos) (rBin f g dFd) := er_bin op_fdA opn_I ha hb
theorem er_md (ha : EV X c W a f) (hb : EV X c W b g) : ER X c W (.BinOp a .Mod b pos) (rBin f g dMd) := er_bin op_modN opn_I ha hb
theorem er_pw (ha : EV X c W a f) (hb : EV X c W b g) : ER X c W (.BinOp a .Pow b pos) (rBin f g dPw) := er_bin op_pow opn_I ha hb

/-- + of numbers, lists, tuples, texts -/
def dAdd : D → D → (Rv → Prop) → Prop
  | .int i, .int j, k => k (.val (.int (i + j)))
  | .lst xs, .lst ys, k => xs.length + ys.length ≤ sizeLine ∧ k (.new (xs ++ ys))
  | .tup xs, .tup ys, k => xs.length + ys.length ≤ sizeLine ∧ k (.val (.tup (xs ++ ys)))
  | .str x, .str y, k => x.length + y.length ≤ sizeLine ∧ k (.val (.str (x ++ y)))
  | _, _, _ => False
def rAddAll (K : PySem.W.Frag) : R2 := fun x y H Q => (∃ i j, x = .int i ∧ y = .int j ∧ Q (.int (i + j)) H) ∨ (rCat x y H Q ∨ (rCatA K x y H Q ∨ ∃ i j, x = .str i ∧ y = .str j ∧ i.length + j.length ≤ sizeLine ∧ Q (.str (i ++ j)) H))
theorem op_addAll : OpR X (binaryOp .Add) (rAddAll X.K) := OpR.or op_add (OpR.or op_cat (OpR.or op_catA op_add_str))
theorem opn_add : OpN c (rAddAll X.K) dAdd := by
  refine ⟨fun d e k k' hk q => ?_, ?_⟩
  · unfold dAdd at q ⊢
    split at q
    · exact hk _ q
    · exact ⟨q.1, hk _ q.2⟩
    · exact ⟨q.1, hk _ q.2⟩
    · exact ⟨q.1, hk _ q.2⟩
    · exact q
  · intro B H x y d e Q k p hx hy q K
    unfold dAdd at q
    split at q
    · cases hx; cases hy
      exact .inl ⟨_, _, rfl, rfl, K _ B H _ (Step.refl p) (rv_val (.int _)) q⟩
    · cases hx with
      | lst h1 r1 =>
        cases hy with
        | lst h2 r2 =>
          refine .inr (.inl ⟨_, _, _, _, rfl, rfl, p.bh _ _ h1, p.bh _ _ h2, ?_, fun q' hq => ?_⟩)
          · rw [r1.length, r2.length]; exact q.1
          · exact K _ B _ _ (Step.lay p hq _) (rv_new upd_same (r1.append r2) (p.bnone hq) hq) q.2
    · cases hx with
      | tup h1 r1 =>
        cases hy with
        | tup h2 r2 =>
          refine .inr (.inr (.inl ⟨_, _, _, _, rfl, rfl, SqT.of (p.bh _ _ h1), SqT.of (p.bh _ _ h2), ?_, fun ex => ?_, fun ex ey => ?_, fun ex ey q' hq => ?_⟩))
          · rw [r1.length, r2.length]; exact q.1
          · subst ex; cases r1
            exact K _ B H _ (Step.refl p) (rv_val (.tup h2 (by simpa using r2))) q.2
          · subst ey; cases r2
            exact K _ B H _ (Step.refl p) (rv_val (.tup h1 (by simpa using r1))) q.2
          · exact K _ _ _ _ (Step.new p hq _) (rv_val (.tup upd_same ((r1.append r2).mono (Same.new (p.bnone hq))))) q.2
    · cases hx; cases hy
      exact .inr (.inr (.inr ⟨_, _, rfl, rfl, q.1, K _ B H _ (Step.refl p) (rv_val (.str _)) q.2⟩))
    · exact q.elim
theorem er_add (ha : EV X c W a f) (hb : EV X c W b g) : ER X c W (.BinOp a .Add b pos) (rBin f g dAdd) := er_bin op_addAll opn_add ha hb

theorem tuple_mul1 (l : Addr) (items : Array Value) (n : Nat) (dd : Option Addr) (sl : Array (Option Value)) (x : Int) (u : Tok) (c0 : (decide (x < -(2 ^ 63)) || decide (x ≥ 2 ^ 63)) = false) (c1 : (items.isEmpty || x == 1) = true) :
    Meets (Builtin.«tuple.__mul__» ⟨[.ref l, .int x u], []⟩) (fun _ R s => s.heap.get? l = some { cls := .type "tuple", dict := dd, data := .seq items n, slots := sl } ∧ R (.ok (.ret (Value.ref l))) s) :=
  .of_wp fun prog w A R s h => by
    obtain ⟨hp, g, d, tk, os⟩ := s
    obtain ⟨hl, h⟩ := h
    have f1 := AutoSeq1.idx_int
    have hT : Shared.TypeIs ⟨hp, g, d, tk, os⟩ (.ref l) "tuple" := ⟨_, hl, rfl⟩
    wp_walk using wpAny_loadPart' hl
    repeat (first
      | (refine wpAny_ite_false (decide_eq_false (by rw [c0]; exact Bool.false_ne_true)) ?_; wp_walk using wpAny_loadPart' hl)
      | (refine wpAny_ite_true (decide_eq_true c1) ?_; wp_walk using wpAny_loadPart' hl))
    exact ⟨_, rfl, h⟩
def rRepT1 (K : PySem.W.Frag) : R2 := fun x y H Q => ∃ l k xs, x = .ref l ∧ y = .int k ∧ SqT K H l xs ∧ (xs = [] ∨ k = 1) ∧ -(2 ^ 63) ≤ k ∧ k < 2 ^ 63 ∧ Q (.ref l) H
theorem op_repT1 : OpR X (binaryOp .Mult) (rRepT1 X.K) := by
  intro pins s σ H x y v u Q I rx ry h
  obtain ⟨l, k, xs, rfl, rfl, hT, h1, b1, b2, q⟩ := h
  cases rx
  obtain ⟨t, rfl⟩ := ry
  obtain ⟨its, r, ⟨⟨cls, dd, data, sl⟩, ho, hc, n, hd⟩, _⟩ := I.tuple hT
  simp only at hc hd
  subst hc hd
  have hle := r.length
  have c0 : (decide (k < -(2 ^ 63)) || decide (k ≥ 2 ^ 63)) = false := by
    rw [decide_eq_false (by omega), decide_eq_false (by omega)]; rfl
  have c1 : (its.toArray.isEmpty || k == 1) = true := by
    rcases h1 with e | e
    · subst e
      cases its with
      | nil => rfl
      | cons a b => simp at hle
    · subst e
      cases its.toArray.isEmpty <;> rfl
  have tI : s.TypeIs (.ref l) "tuple" := ⟨_, ho, rfl⟩
  have run := call_meets (prog := X.prog) (w := X.w) (A := X.A) (E := X.xe) (s := s) (Q := EP X pins σ Q) F.slot_tuple_mul tI F.entry_tuple_mul (F.args_tuple_mul_2 _ _) (tuple_mul1 l its.toArray n dd sl k t c0 c1) ⟨ho, ⟨.ref l, H, I, rfl, q⟩⟩
  exact wpAny_binaryOp_repeat_ref (T := "tuple") (U := "int") (by decide) tI (fun s' => typeIs_int s' k t) noFill_tuple_mul F.fills_int_mul F.slot_int_rmul repeat_tuple F.slot_int_index.lookup
    (call_meets F.slot_int_rmul (typeIs_int s k t) F.entry_int_rmul (F.args_int_rmul_2 _ _) (int_rmul_tuple k t l its.toArray n dd sl) ⟨ho, rfl, tI, run⟩)
/-- * of numbers, of a list and a number -/
def dMul : D → D → (Rv → Prop) → Prop
  | .int i, .int j, k => IntMulOk i j ∧ k (.val (.int (i * j)))
  | .lst xs, .int j, k => (-(2 ^ 63) ≤ j ∧ j < 2 ^ 63 ∧ xs.length * j.toNat ≤ sizeLine) ∧ k (.new (List.replicate j.toNat xs).flatten)
  | .tup xs, .int j, k => ((xs = [] ∨ j = 1) ∧ -(2 ^ 63) ≤ j ∧ j < 2 ^ 63 ∨ xs ≠ [] ∧ 2 ≤ j ∧ j ≤ 1000 ∧ xs.length ≤ 1000) ∧ k (.val (.tup (List.replicate j.toNat xs).flatten))
  | _, _, _ => False
theorem IsL.rep {K : PySem.W.Frag} {c : Cn K} {B : Hp} {vs : List V} {ds : List D} (h : IsL c B vs ds) : ∀ n : Nat, IsL c B (List.replicate n vs).flatten (List.replicate n ds).flatten
  | 0 => .nil
  | n + 1 => by
    rw [List.replicate_succ, List.replicate_succ, List.flatten_cons, List.flatten_cons]
    exact h.append (IsL.rep h n)
theorem rep1 {xs : List D} {j : Int} (h : xs = [] ∨ j = 1) : (List.replicate j.toNat xs).flatten = xs := by
  rcases h with h | h
  · subst h; simp
  · subst h; simp
def rMulAll (K : PySem.W.Frag) : R2 := fun x y H Q => rI IntMulOk (fun i j => .int (i * j)) x y H Q ∨ (rRep x y H Q ∨ (rRepT K x y H Q ∨ rRepT1 K x y H Q))
theorem op_mulA : OpR X (binaryOp .Mult) (rI IntMulOk fun i j => .int (i * j)) := opI fun _ _ _ _ _ _ _ hc q => PyProof.Rows.mul_int q hc
theorem op_mulAll : OpR X (binaryOp .Mult) (rMulAll X.K) := OpR.or op_mulA (OpR.or op_rep (OpR.or op_repT op_repT1))
theorem opn_mul : OpN c (rMulAll X.K) dMul := by
  refine ⟨fun d e k k' hk q => ?_, ?_⟩
  · unfold dMul at q ⊢
    split at q
    · exact ⟨q.1, hk _ q.2⟩
    · exact ⟨q.1, hk _ q.2⟩
    · exact ⟨q.1, hk _ q.2⟩
    · exact q
  · intro B H x y d e Q k p hx hy q K
    unfold dMul at q
    split at q
    · cases hx; cases hy
      exact .inl ⟨_, _, rfl, rfl, q.1, K _ B H _ (Step.refl p) (rv_val (.int _)) q.2⟩
    · cases hx with
      | lst h1 r1 =>
        cases hy
        refine .inr (.inl ⟨_, _, _, rfl, rfl, p.bh _ _ h1, q.1.1, q.1.2.1, ?_, fun q' hq => ?_⟩)
        · rw [r1.length]; exact q.1.2.2
        · exact K _ B _ _ (Step.lay p hq _) (rv_new upd_same (r1.rep _) (p.bnone hq) hq) q.2
    · cases hx with
      | tup h1 r1 =>
        cases hy
        obtain ⟨q0, q4⟩ := q
        rcases q0 with ⟨q1, q2, q3⟩ | ⟨n0, q1, q2, q3⟩
        · have e : (List.replicate (Int.toNat _) _).flatten = _ := rep1 q1
          rw [e] at q4
          refine .inr (.inr (.inr ⟨_, _, _, rfl, rfl, SqT.of (p.bh _ _ h1), ?_, q2, q3, K _ B H _ (Step.refl p) (rv_val (.tup h1 r1)) q4⟩))
          rcases q1 with z | z
          · subst z; cases r1; exact .inl rfl
          · exact .inr z
        · refine .inr (.inr (.inl ⟨_, _, _, rfl, rfl, SqT.of (p.bh _ _ h1), ?_, q1, q2, ?_, fun q' hq => ?_⟩))
          · rintro rfl; cases r1; exact n0 rfl
          · rw [r1.length]; exact q3
          · exact K _ _ _ _ (Step.new p hq _) (rv_val (.tup upd_same ((r1.rep _).mono (Same.new (p.bnone hq))))) q4
    · exact q.elim
theorem er_mul (ha : EV X c W a f) (hb : EV X c W b g) : ER X c W (.BinOp a .Mult b pos) (rBin f g dMul) := er_bin op_mulAll opn_mul ha hb
/-- -a -/
def dNeg (f : DV) : DV := fun ρ k E => f ρ (fun d => ∃ i, d = .int i ∧ k (.int (-i))) E
theorem ev_neg (ha : EV X c W a f) : EV X c W (.UnaryOp .USub a pos) (dNeg f) := by
  refine ⟨fun ρ k k' E E' hk hE q => ha.mn ρ _ _ E E' (fun d ⟨i, h1, h2⟩ => ⟨i, h1, hk _ h2⟩) hE q, wkE (pe_un un_neg ha.pe) ?_⟩
  rintro σ H Q ⟨B, ρ, p, rp, q⟩
  refine ⟨B, ρ, p, rp, ha.mn _ _ _ _ _ (fun d ⟨i, h1, h2⟩ x B1 H1 s1 i1 => ?_) (fun _ z => z) q⟩
  subst h1; cases i1
  exact ⟨i, rfl, h2 _ B1 H1 s1 (.int _)⟩

/-! ### comparisons -/
def cBin (f g : DV) (op : D → D → (Bool → Prop) → Prop) : DB := fun ρ k E => f ρ (fun d => g ρ (fun e => op d e k) E) E
def bV (f : DB) : DV := fun ρ k E => f ρ (fun b => k (.bl b)) E
def OpC {K : PySem.W.Frag} (c : Cn K) (r : R2) (op : D → D → (Bool → Prop) → Prop) : Prop :=
  (∀ d e (k k' : Bool → Prop), (∀ z, k z → k' z) → op d e k → op d e k') ∧
  ∀ B H x y d e (Q : VK) (k : Bool → Prop), Pre c B H → Is c B x d → Is c B y e → op d e k → (∀ b, k b → Q (.bl b) H) → r x y H Q
theorem cbin_mn {op : D → D → (Bool → Prop) → Prop} (ha : EV X c W a f) (hb : EV X c W b g) (hm : ∀ d e (k k' : Bool → Prop), (∀ z, k z → k' z) → op d e k → op d e k') : Mn (cBin f g op) :=
  fun ρ k k' E E' hk hE q => ha.mn ρ _ _ E E' (fun d q => hb.mn ρ _ _ E E' (fun e q => hm d e k k' hk q) hE q) hE q
theorem bV_mn {f : DB} (h : Mn f) : Mn (bV f) := fun ρ k k' E E' hk hE q => h ρ _ _ E E' (fun b => hk _) hE q
theorem ev_cmp {op : CmpOp} {r : R2} {od : D → D → (Bool → Prop) → Prop} (ho : OpR X (compareOp op) r) (hd : OpC c r od) (ha : EV X c W a f) (hb : EV X c W b g) (hm : behindInMarks op b = false) : EV X c W (.Compare a [op] [b] pos) (bV (cBin f g od)) := by
  refine ⟨bV_mn (cbin_mn ha hb hd.1), wkE (pe_cmpR ho ha.pe hb.pe hm) ?_⟩
  rintro σ H Q ⟨B, ρ, p, rp, q⟩
  refine ⟨B, ρ, p, rp, ha.mn _ _ _ _ _ (fun d hd' x B1 H1 s1 i1 => ?_) (fun _ z => z) q⟩
  refine ⟨B1, ρ, s1.pre, rp.mono s1.b, hb.mn _ _ _ _ _ (fun e he y B2 H2 s2 i2 => ?_) (fun x z => z.step s1) hd'⟩
  exact hd.2 B2 H2 x y d e Q _ s2.pre (i1.mono s2.b) i2 he fun b hk => hk _ B2 H2 (s1.trans s2) (.bl b)
theorem eb_cmp {op : CmpOp} {r : R2} {od : D → D → (Bool → Prop) → Prop} (ho : OpR X (compareOp op) r) (hd : OpC c r od) (ha : EV X c W a f) (hb : EV X c W b g) (hm : behindInMarks op b = false) : EB X c W (.Compare a [op] [b] pos) (cBin f g od) := by
  refine ⟨cbin_mn ha hb hd.1, wkT (pt_cmpR ho ha.pe hb.pe hm) ?_⟩
  rintro σ H Q ⟨B, ρ, p, rp, q⟩
  refine ⟨B, ρ, p, rp, ha.mn _ _ _ _ _ (fun d hd' x B1 H1 s1 i1 => ?_) (fun _ z => z) q⟩
  refine ⟨B1, ρ, s1.pre, rp.mono s1.b, hb.mn _ _ _ _ _ (fun e he y B2 H2 s2 i2 => ?_) (fun x z => z.step s1) hd'⟩
  exact hd.2 B2 H2 x y d e _ _ s2.pre (i1.mono s2.b) i2 he fun b hk => ⟨b, rfl, hk B2 H2 (s1.trans s2)⟩
/-- of two whole numbers -/
def iC (g : Int → Int → Bool) : D → D → (Bool → Prop) → Prop
  | .int i, .int j, k => k (g i j)
  | _, _, _ => False
theorem opc_I {g : Int → Int → Bool} : OpC c (rI0 fun i j => .bl (g i j)) (iC g) := by
  refine ⟨fun d e k k' hk q => ?_, ?_⟩
  · unfold iC at q ⊢
    split at q
    · exact hk _ q
    · exact q
  · intro B H x y d e Q k p hx hy q K
    unfold iC at q
    split at q
    · cases hx; cases hy
      exact ⟨_, _, rfl, rfl, K _ q⟩
    · exact q.elim
abbrev dLt := iC fun i j => decide (i < j)
abbrev dLe := iC fun i j => decide (i ≤ j)
abbrev dGt := iC fun i j => decide (j < i)
abbrev dGe := iC fun i j => decide (j ≤ i)
theorem ev_lt (ha : EV X c W a f) (hb : EV X c W b g) : EV X c W (.Compare a [.Lt] [b] pos) (bV (cBin f g dLt)) := ev_cmp op_lt opc_I ha hb (nomark _)
theorem eb_lt (ha : EV X c W a f) (hb : EV X c W b g) : EB X c W (.Compare a [.Lt] [b] pos) (cBin f g dLt) := eb_cmp op_lt opc_I ha hb (nomark _)
theorem ev_le (ha : EV X c W a f) (hb : EV X c W b g) : EV X c W (.Compare a [.LtE] [b] pos) (bV (cBin f g dLe)) := ev_cmp op_le opc_I ha hb (nomark _)
theorem eb_le (ha : EV X c W a f) (hb : EV X c W b g) : EB X c W (.Compare a [.LtE] [b] pos) (cBin f g dLe) := eb_cmp op_le opc_I ha hb (nomark _)
theorem ev_gt (ha : EV X c W a f) (hb : EV X c W b g) : EV X c W (.Compare a [.Gt] [b] pos) (bV (cBin f g dGt)) := ev_cmp op_gt opc_I ha hb (nomark _)
theorem eb_gt (ha : EV X c W a f) (hb : EV X c W b g) : EB X c W (.Compare a [.Gt] [b] pos) (cBin f g dGt) := eb_cmp op_gt opc_I ha hb (nomark _)
theorem ev_ge (ha : EV X c W a f) (hb : EV X c W b g) : EV X c W (.Compare a [.GtE] [b] pos) (bV (cBin f g dGe)) := ev_cmp op_ge opc_I ha hb (nomark _)
theorem eb_ge (ha : EV X c W a f) (hb : EV X c W b g) : EB X c W (.Compare a [.GtE] [b] pos) (cBin f g dGe) := eb_cmp op_ge opc_I ha hb (nomark _)
/-- a op b op' c -/
def cChain (f g h : DV) (o1 o2 : D → D → (Bool → Prop) → Prop) : DB := fun ρ k E => f ρ (fun d => g ρ (fun e => o1 d e (fun b => (b = false → k false) ∧ (b = true → h ρ (fun u => o2 e u k) E))) E) E
theorem chain_mn {h : DV} {x : Expr} {o1 o2 : D → D → (Bool → Prop) → Prop} (ha : EV X c W a f) (hb : EV X c W b g) (hc : EV X c W x h) (h1 : ∀ d e (k k' : Bool → Prop), (∀ z, k z → k' z) → o1 d e k → o1 d e k') (h2 : ∀ d e (k k' : Bool → Prop), (∀ z, k z → k' z) → o2 d e k → o2 d e k') : Mn (cChain f g h o1 o2) :=
  fun ρ k k' E E' hk hE q => ha.mn ρ _ _ E E' (fun d q => hb.mn ρ _ _ E E' (fun e q => h1 d e _ _ (fun b ⟨p1, p2⟩ => ⟨fun z => hk _ (p1 z), fun z => hc.mn ρ _ _ E E' (fun u q => h2 e u k k' hk q) hE (p2 z)⟩) q) hE q) hE q
theorem eb_chain {h : DV} {x : Expr} {op op' : CmpOp} {r r' : R2} {o1 o2 : D → D → (Bool → Prop) → Prop} (ho : OpR X (compareOp op) r) (ho' : OpR X (compareOp op') r') (h1 : OpC c r o1) (h2 : OpC c r' o2) (ha : EV X c W a f) (hb : EV X c W b g) (hc : EV X c W x h)
    (pt : PT X (.Compare a [op, op'] [b, x] pos) (tTest (tChain r r' (tV c W f) (tV c W g) (tV c W h)))) : EB X c W (.Compare a [op, op'] [b, x] pos) (cChain f g h o1 o2) := by
  refine ⟨chain_mn ha hb hc h1.1 h2.1, wkT pt ?_⟩
  rintro σ H Q ⟨B, ρ, p, rp, q⟩
  refine ⟨B, ρ, p, rp, ha.mn _ _ _ _ _ (fun d hd' x B1 H1 s1 i1 => ?_) (fun _ z => z) q⟩
  refine ⟨B1, ρ, s1.pre, rp.mono s1.b, hb.mn _ _ _ _ _ (fun e he y B2 H2 s2 i2 => ?_) (fun x z => z.step s1) hd'⟩
  refine h1.2 B2 H2 x y d e _ _ s2.pre (i1.mono s2.b) i2 he fun b hk => ⟨b, rfl, ?_⟩
  cases b with
  | false =>
    rw [if_neg Bool.false_ne_true]
    exact ⟨false, rfl, hk.1 rfl B2 H2 (s1.trans s2)⟩
  | true =>
    rw [if_pos rfl]
    refine ⟨B2, ρ, s2.pre, (rp.mono s1.b).mono s2.b, hc.mn _ _ _ _ _ (fun u hu z B3 H3 s3 i3 => ?_) (fun x z => z.step (s1.trans s2)) (hk.2 rfl)⟩
    exact h2.2 B3 H3 y z e u _ _ s3.pre (i2.mono s3.b) i3 hu fun b' hk' => ⟨b', rfl, hk' B3 H3 (s1.trans (s2.trans s3))⟩
theorem ev_chain {h : DV} {x : Expr} {op op' : CmpOp} {r r' : R2} {o1 o2 : D → D → (Bool → Prop) → Prop} (h1 : OpC c r o1) (h2 : OpC c r' o2) (ha : EV X c W a f) (hb : EV X c W b g) (hc : EV X c W x h)
    (pe : PE X (.Compare a [op, op'] [b, x] pos) (tChain r r' (tV c W f) (tV c W g) (tV c W h))) : EV X c W (.Compare a [op, op'] [b, x] pos) (bV (cChain f g h o1 o2)) := by
  refine ⟨bV_mn (chain_mn ha hb hc h1.1 h2.1), wkE pe ?_⟩
  rintro σ H Q ⟨B, ρ, p, rp, q⟩
  refine ⟨B, ρ, p, rp, ha.mn _ _ _ _ _ (fun d hd' x B1 H1 s1 i1 => ?_) (fun _ z => z) q⟩
  refine ⟨B1, ρ, s1.pre, rp.mono s1.b, hb.mn _ _ _ _ _ (fun e he y B2 H2 s2 i2 => ?_) (fun x z => z.step s1) hd'⟩
  refine h1.2 B2 H2 x y d e _ _ s2.pre (i1.mono s2.b) i2 he fun b hk => ⟨b, rfl, ?_⟩
  cases b with
  | false =>
    rw [if_neg Bool.false_ne_true]
    exact hk.1 rfl _ B2 H2 (s1.trans s2) (.bl _)
  | true =>
    rw [if_pos rfl]
    refine ⟨B2, ρ, s2.pre, (rp.mono s1.b).mono s2.b, hc.mn _ _ _ _ _ (fun u hu z B3 H3 s3 i3 => ?_) (fun x z => z.step (s1.trans s2)) (hk.2 rfl)⟩
    exact h2.2 B3 H3 y z e u _ _ s3.pre (i2.mono s3.b) i3 hu fun b' hk' => hk' _ B3 H3 (s1.trans (s2.trans s3)) (.bl _)

/-! ### == of data -/
mutual
def D.py : D → PyData
  | .non => .none
  | .bl b => .bool b
  | .int i => .int i
  | .str x => .str x
  | .tup ds => .tuple (pyL ds)
  | .lst ds => .list (pyL ds)
  | .ro ds => .list (pyL ds)
  | .obj _ _ => .dict []
  | .fn _ => .dict []
  | .typ _ => .dict []
  | .drw => .dict []
  | .opq _ => .dict []
  | .dct => .dict []
  | .flt _ => .dict []
def pyL : List D → List PyData
  | [] => []
  | d :: ds => d.py :: pyL ds
end
/-! data of a depth of at most n -/
mutual
def D.okd : Nat → D → Bool
  | _, .non => true
  | _, .bl _ => true
  | _, .int _ => true
  | _, .str x => PyData.canLay0 (.str x)
  | n + 1, .tup ds => okdL n ds
  | n + 1, .lst ds => okdL n ds
  | n + 1, .ro ds => okdL n ds
  | _, _ => false
def okdL : Nat → List D → Bool
  | _, [] => true
  | n, d :: ds => D.okd n d && okdL n ds
end
mutual
theorem okd_lay : ∀ (n : Nat) (d : D), d.okd n = true → d.py.canLay0 = true ∧ d.py.depth ≤ n
  | _, .non, _ => by simp [D.py, PyData.canLay0, PyData.depth]
  | _, .bl _, _ => by simp [D.py, PyData.canLay0, PyData.depth]
  | _, .int _, _ => by simp [D.py, PyData.canLay0, PyData.depth]
  | _, .str x, h => by
    refine ⟨by simpa [D.py, D.okd] using h, by simp [D.py, PyData.depth]⟩
  | n + 1, .tup ds, h => by
    have q := okdL_lay n ds (by simpa [D.okd] using h)
    simp only [D.py, PyData.canLay0, PyData.depth]
    exact ⟨q.1, by omega⟩
  | n + 1, .lst ds, h => by
    have q := okdL_lay n ds (by simpa [D.okd] using h)
    simp only [D.py, PyData.canLay0, PyData.depth]
    exact ⟨q.1, by omega⟩
  | n + 1, .ro ds, h => by
    have q := okdL_lay n ds (by simpa [D.okd] using h)
    simp only [D.py, PyData.canLay0, PyData.depth]
    exact ⟨q.1, by omega⟩
  | 0, .tup ds, h => by simp [D.okd] at h
  | 0, .lst ds, h => by simp [D.okd] at h
  | 0, .ro ds, h => by simp [D.okd] at h
  | _, .obj _ _, h => by simp [D.okd] at h
  | _, .fn _, h => by simp [D.okd] at h
  | _, .typ _, h => by simp [D.okd] at h
  | _, .drw, h => by simp [D.okd] at h
  | _, .opq _, h => by simp [D.okd] at h
theorem okdL_lay : ∀ (n : Nat) (ds : List D), okdL n ds = true → PyData.canLayAll0 (pyL ds) = true ∧ PyData.depthAll (pyL ds) ≤ n
  | _, [], _ => by simp [pyL, PyData.canLayAll0, PyData.depthAll]
  | n, d :: ds, h => by
    simp only [okdL, Bool.and_eq_true] at h
    have q1 := okd_lay n d h.1
    have q2 := okdL_lay n ds h.2
    simp only [pyL, PyData.canLayAll0, PyData.depthAll, Bool.and_eq_true]
    exact ⟨⟨q1.1, q2.1⟩, by omega⟩
end
theorem okd_shaped {d : D} (h : d.okd 60 = true) : SeqAt.shaped d.py = true := by
  have q := okd_lay 60 d h
  unfold SeqAt.shaped
  rw [q.1, Bool.true_and]
  exact decide_eq_true (by omega)
section
variable {K : PySem.W.Frag} {c : Cn K} {B H : Hp}
mutual
theorem Is.dp (s : Same B H) : ∀ {n : Nat} {v : V} {d : D}, Is c B v d → d.okd n = true → Dp K H v d.py
  | _, _, _, .non, _ => .non
  | _, _, _, .bl b, _ => .bl b
  | _, _, _, .int i, _ => .int i
  | _, _, _, .str x, _ => .str x
  | n + 1, _, _, .tup h r, f => .tup (SqT.of (s _ _ h)) (IsL.dp (n := n) s r (by simpa [D.okd] using f))
  | n + 1, _, _, .lst h r, f => .lst (SqL.of (s _ _ h)) (IsL.dp (n := n) s r (by simpa [D.okd] using f))
  | n + 1, _, _, .ro h r, f => .lst (Same.l s h) (IsL.dp (n := n) s r (by simpa [D.okd] using f))
  | 0, _, _, .tup h r, f => by simp [D.okd] at f
  | 0, _, _, .lst h r, f => by simp [D.okd] at f
  | 0, _, _, .ro h r, f => by simp [D.okd] at f
  | _, _, _, .obj h o r, f => by simp [D.okd] at f
  | _, _, _, .fn x, f => by simp [D.okd] at f
  | _, _, _, .typ n, f => by simp [D.okd] at f
  | _, _, _, .drw, f => by simp [D.okd] at f
theorem IsL.dp (s : Same B H) : ∀ {n : Nat} {vs : List V} {ds : List D}, IsL c B vs ds → okdL n ds = true → DpAll K H vs (pyL ds)
  | _, _, _, .nil, _ => .nil
  | n, _, _, .cons r t, f => by
    simp only [okdL, Bool.and_eq_true] at f
    exact .cons (Is.dp s r f.1) (IsL.dp s t f.2)
end
end
def D.eqb (d e : D) : Bool := PyData.eqv d.py e.py
def dEq : D → D → (Bool → Prop) → Prop := fun d e k => (d.okd 60 = true ∧ e.okd 60 = true) ∧ k (d.eqb e)
def dNe : D → D → (Bool → Prop) → Prop := fun d e k => (d.okd 60 = true ∧ e.okd 60 = true) ∧ k (!d.eqb e)
theorem opc_eq : OpC c (rEqD X.K) dEq := by
  refine ⟨fun d e k k' hk q => ⟨q.1, hk _ q.2⟩, ?_⟩
  intro B H x y d e Q k p hx hy q K
  exact ⟨_, _, hx.dp p.bh q.1.1, hy.dp p.bh q.1.2, okd_shaped q.1.1, okd_shaped q.1.2, K _ q.2⟩
theorem opc_ne : OpC c (rNeD X.K) dNe := by
  refine ⟨fun d e k k' hk q => ⟨q.1, hk _ q.2⟩, ?_⟩
  intro B H x y d e Q k p hx hy q K
  exact ⟨_, _, hx.dp p.bh q.1.1, hy.dp p.bh q.1.2, okd_shaped q.1.1, okd_shaped q.1.2, K _ q.2⟩
theorem ev_eq (hu : X.A.units + 64 < cLine) (ha : EV X c W a f) (hb : EV X c W b g) : EV X c W (.Compare a [.Eq] [b] pos) (bV (cBin f g dEq)) := ev_cmp (op_eqD hu) opc_eq ha hb (nomark _)
theorem eb_eq (hu : X.A.units + 64 < cLine) (ha : EV X c W a f) (hb : EV X c W b g) : EB X c W (.Compare a [.Eq] [b] pos) (cBin f g dEq) := eb_cmp (op_eqD hu) opc_eq ha hb (nomark _)
theorem ev_ne (hu : X.A.units + 64 < cLine) (ha : EV X c W a f) (hb : EV X c W b g) : EV X c W (.Compare a [.NotEq] [b] pos) (bV (cBin f g dNe)) := ev_cmp (op_neD hu) opc_ne ha hb (nomark _)
theorem eb_ne (hu : X.A.units + 64 < cLine) (ha : EV X c W a f) (hb : EV X c W b g) : EB X c W (.Compare a [.NotEq] [b] pos) (cBin f g dNe) := eb_cmp (op_neD hu) opc_ne ha hb (nomark _)
/-- is None -/
def D.isNon : D → Bool
  | .non => true
  | _ => false
theorem Is.isNon {K : PySem.W.Frag} {c : Cn K} {B : Hp} {v : V} {d : D} (h : Is c B v d) : decide (v = .non) = d.isNon := by cases h <;> rfl
def dIsN : D → D → (Bool → Prop) → Prop := fun d e k => e = .non ∧ k d.isNon
def dNotN : D → D → (Bool → Prop) → Prop := fun d e k => e = .non ∧ k (!d.isNon)
theorem opc_isN : OpC c (fun x y H Q => y = .non ∧ Q (.bl (decide (x = .non))) H) dIsN := by
  refine ⟨fun d e k k' hk q => ⟨q.1, hk _ q.2⟩, ?_⟩
  rintro B H x y d e Q k p hx hy ⟨rfl, q⟩ K
  cases hy
  exact ⟨rfl, by rw [hx.isNon]; exact K _ q⟩
theorem opc_notN : OpC c (fun x y H Q => y = .non ∧ Q (.bl (!decide (x = .non))) H) dNotN := by
  refine ⟨fun d e k k' hk q => ⟨q.1, hk _ q.2⟩, ?_⟩
  rintro B H x y d e Q k p hx hy ⟨rfl, q⟩ K
  cases hy
  exact ⟨rfl, by rw [hx.isNon]; exact K _ q⟩
theorem ev_isN (ha : EV X c W a f) (hb : EV X c W b g) : EV X c W (.Compare a [.Is] [b] pos) (bV (cBin f g dIsN)) := ev_cmp op_isN opc_isN ha hb (nomark _)
theorem eb_isN (ha : EV X c W a f) (hb : EV X c W b g) : EB X c W (.Compare a [.Is] [b] pos) (cBin f g dIsN) := eb_cmp op_isN opc_isN ha hb (nomark _)
theorem ev_notN (ha : EV X c W a f) (hb : EV X c W b g) : EV X c W (.Compare a [.IsNot] [b] pos) (bV (cBin f g dNotN)) := ev_cmp op_notN opc_notN ha hb (nomark _)
theorem eb_notN (ha : EV X c W a f) (hb : EV X c W b g) : EB X c W (.Compare a [.IsNot] [b] pos) (cBin f g dNotN) := eb_cmp op_notN opc_notN ha hb (nomark _)
/-- is True, is False: of truths -/
def dIsB : D → D → (Bool → Prop) → Prop
  | .bl x, .bl y, k => k (decide (x = y))
  | _, _, _ => False
def dNotB : D → D → (Bool → Prop) → Prop
  | .bl x, .bl y, k => k (!decide (x = y))
  | _, _, _ => False
theorem opc_isB : OpC c rIsB dIsB := by
  refine ⟨fun d e k k' hk q => ?_, ?_⟩
  · unfold dIsB at q ⊢
    split at q
    · exact hk _ q
    · exact q
  · intro B H x y d e Q k p hx hy q K
    unfold dIsB at q
    split at q
    · cases hx; cases hy
      exact ⟨_, _, rfl, rfl, K _ q⟩
    · exact q.elim
theorem opc_notB : OpC c rNotB dNotB := by
  refine ⟨fun d e k k' hk q => ?_, ?_⟩
  · unfold dNotB at q ⊢
    split at q
    · exact hk _ q
    · exact q
  · intro B H x y d e Q k p hx hy q K
    unfold dNotB at q
    split at q
    · cases hx; cases hy
      exact ⟨_, _, rfl, rfl, K _ q⟩
    · exact q.elim
theorem ev_isB (ha : EV X c W a f) (hb : EV X c W b g) : EV X c W (.Compare a [.Is] [b] pos) (bV (cBin f g dIsB)) := ev_cmp op_isBl opc_isB ha hb (nomark _)
theorem eb_isB (ha : EV X c W a f) (hb : EV X c W b g) : EB X c W (.Compare a [.Is] [b] pos) (cBin f g dIsB) := eb_cmp op_isBl opc_isB ha hb (nomark _)
theorem ev_notB (ha : EV X c W a f) (hb : EV X c W b g) : EV X c W (.Compare a [.IsNot] [b] pos) (bV (cBin f g dNotB)) := ev_cmp op_notBl opc_notB ha hb (nomark _)
theorem eb_notB (ha : EV X c W a f) (hb : EV X c W b g) : EB X c W (.Compare a [.IsNot] [b] pos) (cBin f g dNotB) := eb_cmp op_notBl opc_notB ha hb (nomark _)
end
end Dv

set_option Elab.async false
set_option linter.all false
set_option maxRecDepth 100000
set_option maxHeartbeats 2000000
namespace Dv
open PySem PySem.Spec PyProof.Rows L2
section
variable {X : Cx} {c : Cn X.K} {W : WX} {e a b : Expr} {es : List Expr} {pos : Pos} {f g : DV}

/-! ### argument lists, displays -/
def aNil : DL := fun _ k _ => k []
def aCons (f : DV) (g : DL) : DL := fun ρ k E => f ρ (fun d => g ρ (fun ds => k (d :: ds)) E) E
theorem ea_nil : EA X c W [] aNil :=
  ⟨fun ρ k k' E E' hk hE q => hk _ q, fun ρ k E q => ⟨rfl, q⟩, wkA pa_nil fun σ H Q ⟨B, ρ, p, rp, q⟩ => q [] B H (Step.refl p) .nil⟩
theorem ea_cons {g : DL} (he : EV X c W e f) (hr : EA X c W es g) (hs : starEach (e :: es) X.env = (false, eval e X.env) :: starEach es X.env := by rfl) : EA X c W (e :: es) (aCons f g) := by
  refine ⟨fun ρ k k' E E' hk hE q => he.mn ρ _ _ E E' (fun d q => hr.mn ρ _ _ E E' (fun ds q => hk _ q) hE q) hE q, fun ρ k E q => ?_, wkA (pa_cons he.pe hr.pa hs) ?_⟩
  · refine he.mn ρ _ _ E E (fun d q => ?_) (fun _ z => z) q
    refine hr.mn ρ _ _ E E (fun ds q => ⟨?_, q.2⟩) (fun _ z => z) (hr.len ρ _ E q)
    rw [List.length_cons, List.length_cons, q.1]
  · rintro σ H Q ⟨B, ρ, p, rp, q⟩
    refine ⟨B, ρ, p, rp, he.mn _ _ _ _ _ (fun d hd x B1 H1 s1 i1 => ?_) (fun _ z => z) q⟩
    refine ⟨B1, ρ, s1.pre, rp.mono s1.b, hr.mn _ _ _ _ _ (fun ds hds vs B2 H2 s2 i2 => ?_) (fun x z => z.step s1) hd⟩
    exact hds _ B2 H2 (s1.trans s2) (.cons (i1.mono s2.b) i2)
def dTup (g : DL) : DV := fun ρ k E => g ρ (fun ds => k (.tup ds)) E
def dLst (g : DL) : DR := fun ρ k E => g ρ (fun ds => k (.new ds)) E
theorem ev_tup {g : DL} {x1 : Nat} (h : EA X c W es g) (hl : es.length ≤ sizeLine := by decide) : EV X c W (.Tuple es x1 pos) (dTup g) := by
  refine ⟨fun ρ k k' E E' hk hE q => h.mn ρ _ _ E E' (fun ds => hk _) hE q, wkE (pe_tup h.pa) ?_⟩
  rintro σ H Q ⟨B, ρ, p, rp, q⟩
  refine ⟨B, ρ, p, rp, h.mn _ _ _ _ _ (fun ds hd vs B1 H1 s1 i1 => ⟨?_, fun q' hq => ?_⟩) (fun _ z => z) (h.len _ _ _ q)⟩
  · rw [i1.length, hd.1]; exact hl
  · have s2 := Step.new s1.pre hq (.tup vs)
    exact hd.2 _ _ _ (s1.trans s2) (.tup upd_same (i1.mono s2.b))
theorem er_lst {g : DL} (h : EA X c W es g) (hl : es.length ≤ sizeLine := by decide) : ER X c W (.List es pos) (dLst g) := by
  refine ⟨fun ρ k k' E E' hk hE q => h.mn ρ _ _ E E' (fun ds => hk _) hE q, wkE (pe_lst h.pa) ?_⟩
  rintro σ H Q ⟨B, ρ, p, rp, q⟩
  refine ⟨B, ρ, p, rp, h.mn _ _ _ _ _ (fun ds hd vs B1 H1 s1 i1 => ⟨?_, fun q' hq => ?_⟩) (fun _ z => z) (h.len _ _ _ q)⟩
  · rw [i1.length, hd.1]; exact hl
  · exact hd.2 _ _ _ (s1.trans (Step.lay s1.pre hq (.lst vs))) (RvOk.up s1 (rv_new upd_same i1 (s1.pre.bnone hq) hq))

/-! ### tests -/
/-- a value's truth -/
def dTru : D → (Bool → Prop) → Prop
  | .non, k => k false
  | .bl b, k => k b
  | .int i, k => k (i != 0)
  | .str y, k => y.length ≤ sizeLine ∧ k ((y.length : Int) != 0)
  | .tup ds, k => k (!ds.isEmpty)
  | .lst ds, k => k (!ds.isEmpty)
  | .ro ds, k => k (!ds.isEmpty)
  | _, _ => False
theorem dTru_mn {d : D} {k k' : Bool → Prop} (h : ∀ b, k b → k' b) (q : dTru d k) : dTru d k' := by
  cases d <;> simp only [dTru] at q ⊢ <;> first | exact h _ q | exact ⟨q.1, h _ q.2⟩ | exact q
theorem IsL.emp {K : PySem.W.Frag} {c : Cn K} {B : Hp} {vs : List V} {ds : List D} (h : IsL c B vs ds) : ds.isEmpty = vs.isEmpty := by cases h <;> rfl
theorem Is.tru {K : PySem.W.Frag} {c : Cn K} {B H : Hp} {v : V} {d : D} {k : Bool → Prop} (h : Is c B v d) (s : Same B H) (q : dTru d k) : ∃ b, TruV K v H b ∧ k b := by
  cases h with
  | non => exact ⟨_, rfl, q⟩
  | bl b => exact ⟨_, rfl, q⟩
  | int i => exact ⟨_, rfl, q⟩
  | str x => exact ⟨_, ⟨q.1, rfl⟩, q.2⟩
  | tup h r => exact ⟨_, .inr (.inl ⟨_, SqT.of (s _ _ h), by rw [r.emp]⟩), q⟩
  | lst h r => exact ⟨_, .inl ⟨_, SqL.of (s _ _ h), by rw [r.emp]⟩, q⟩
  | ro h r => exact ⟨_, .inl ⟨_, Same.l s h, by rw [r.emp]⟩, q⟩
  | obj h o r => exact q.elim
  | fn x => exact q.elim
  | typ n => exact q.elim
  | drw => exact q.elim
  | opq n => exact q.elim
  | dct h => exact q.elim
  | flt x => exact q.elim
def bTru (f : DV) : DB := fun ρ k E => f ρ (fun d => dTru d k) E
/-- an expression of any kind as a test -/
theorem eb_tru (ha : EV X c W a f) (he : ∀ whole, isTrue a X.env whole = (do let v ← whole; standAt a.pos; holding [v] (truthy v)) := by intro _; rfl) : EB X c W a (bTru f) := by
  refine ⟨fun ρ k k' E E' hk hE q => ha.mn ρ _ _ E E' (fun d => dTru_mn hk) hE q, wkT (pt_truth ha.pe he) ?_⟩
  rintro σ H Q ⟨B, ρ, p, rp, q⟩
  refine ⟨B, ρ, p, rp, ha.mn _ _ _ _ _ (fun d hd v B1 H1 s1 i1 => ?_) (fun _ z => z) q⟩
  obtain ⟨b, h1, h2⟩ := i1.tru s1.bh hd
  exact ⟨b, h1, h2 B1 H1 s1⟩
def bNot (f : DB) : DB := fun ρ k E => f ρ (fun b => k (!b)) E
theorem eb_not {f : DB} (h : EB X c W a f) : EB X c W (.UnaryOp .Not a pos) (bNot f) := by
  refine ⟨fun ρ k k' E E' hk hE q => h.mn ρ _ _ E E' (fun b => hk _) hE q, wkT (pt_not h.pt) ?_⟩
  rintro σ H Q ⟨B, ρ, p, rp, q⟩
  exact ⟨B, ρ, p, rp, q⟩
theorem ew_and1 {f : DB} (h : EB X c W a f) : EW X c W (.BoolOp .And [a] pos) f := ⟨h.mn, pw_and1 h.pt⟩
theorem ew_or1 {f : DB} (h : EB X c W a f) : EW X c W (.BoolOp .Or [a] pos) f := ⟨h.mn, pw_or1 h.pt⟩
def bAnd (f g : DB) : DB := fun ρ k E => f ρ (fun b => (b = true → g ρ k E) ∧ (b = false → k false)) E
def bOr (f g : DB) : DB := fun ρ k E => f ρ (fun b => (b = true → k true) ∧ (b = false → g ρ k E)) E
theorem bAnd_mn {f g : DB} (hf : Mn f) (hg : Mn g) : Mn (bAnd f g) := fun ρ k k' E E' hk hE q => hf ρ _ _ E E' (fun b ⟨q1, q2⟩ => ⟨fun z => hg ρ _ _ E E' hk hE (q1 z), fun z => hk _ (q2 z)⟩) hE q
theorem bOr_mn {f g : DB} (hf : Mn f) (hg : Mn g) : Mn (bOr f g) := fun ρ k k' E E' hk hE q => hf ρ _ _ E E' (fun b ⟨q1, q2⟩ => ⟨fun z => hk _ (q1 z), fun z => hg ρ _ _ E E' hk hE (q2 z)⟩) hE q
theorem ew_and {f g : DB} {rest : List Expr} (ha : EB X c W a f) (hb : EW X c W (.BoolOp .And (b :: rest) pos) g) : EW X c W (.BoolOp .And (a :: b :: rest) pos) (bAnd f g) := by
  refine ⟨bAnd_mn ha.mn hb.mn, wkW (pw_and ha.pt hb.pw) ?_⟩
  rintro σ H Q ⟨B, ρ, p, rp, q⟩
  refine ⟨B, ρ, p, rp, ha.mn _ _ _ _ _ (fun t ht B1 H1 s1 => ?_) (fun _ z => z) q⟩
  cases t with
  | true =>
    rw [if_pos rfl]
    exact ⟨B1, ρ, s1.pre, rp.mono s1.b, hb.mn _ _ _ _ _ (fun u hu B2 H2 s2 => hu B2 H2 (s1.trans s2)) (fun x z => z.step s1) (ht.1 rfl)⟩
  | false =>
    rw [if_neg Bool.false_ne_true]
    exact ht.2 rfl B1 H1 s1
theorem ew_or {f g : DB} {rest : List Expr} (ha : EB X c W a f) (hb : EW X c W (.BoolOp .Or (b :: rest) pos) g) : EW X c W (.BoolOp .Or (a :: b :: rest) pos) (bOr f g) := by
  refine ⟨bOr_mn ha.mn hb.mn, wkW (pw_or ha.pt hb.pw) ?_⟩
  rintro σ H Q ⟨B, ρ, p, rp, q⟩
  refine ⟨B, ρ, p, rp, ha.mn _ _ _ _ _ (fun t ht B1 H1 s1 => ?_) (fun _ z => z) q⟩
  cases t with
  | true =>
    rw [if_pos rfl]
    exact ht.1 rfl B1 H1 s1
  | false =>
    rw [if_neg Bool.false_ne_true]
    exact ⟨B1, ρ, s1.pre, rp.mono s1.b, hb.mn _ _ _ _ _ (fun u hu B2 H2 s2 => hu B2 H2 (s1.trans s2)) (fun x z => z.step s1) (ht.2 rfl)⟩
theorem eb_w {f : DB} (h : EW X c W e f) : EB X c W e f := ⟨h.mn, h.pw.pt⟩
/-- and, or, not as values -/
theorem ev_one {op : BoolOp} (h : EV X c W a f) : EV X c W (.BoolOp op [a] pos) f := ⟨h.mn, pe_one h.pe⟩
def vAnd (f g : DV) : DV := fun ρ k E => f ρ (fun d => dTru d (fun b => (b = true → g ρ k E) ∧ (b = false → k d))) E
def vOr (f g : DV) : DV := fun ρ k E => f ρ (fun d => dTru d (fun b => (b = true → k d) ∧ (b = false → g ρ k E))) E
theorem ev_and {rest : List Expr} (ha : EV X c W a f) (hb : EV X c W (.BoolOp .And (b :: rest) pos) g) : EV X c W (.BoolOp .And (a :: b :: rest) pos) (vAnd f g) := by
  refine ⟨fun ρ k k' E E' hk hE q => ha.mn ρ _ _ E E' (fun d => dTru_mn fun t ⟨q1, q2⟩ => ⟨fun z => hb.mn ρ _ _ E E' hk hE (q1 z), fun z => hk _ (q2 z)⟩) hE q, wkE (pe_andT ha.pe hb.pe) ?_⟩
  rintro σ H Q ⟨B, ρ, p, rp, q⟩
  refine ⟨B, ρ, p, rp, ha.mn _ _ _ _ _ (fun d hd v B1 H1 s1 i1 => ?_) (fun _ z => z) q⟩
  obtain ⟨t, h1, h2⟩ := i1.tru s1.bh hd
  refine ⟨t, h1, ?_⟩
  cases t with
  | true =>
    rw [if_pos rfl]
    exact ⟨B1, ρ, s1.pre, rp.mono s1.b, hb.mn _ _ _ _ _ (fun u hu y B2 H2 s2 i2 => hu y B2 H2 (s1.trans s2) i2) (fun x z => z.step s1) (h2.1 rfl)⟩
  | false =>
    rw [if_neg Bool.false_ne_true]
    exact h2.2 rfl _ B1 H1 s1 i1
theorem ev_or {rest : List Expr} (ha : EV X c W a f) (hb : EV X c W (.BoolOp .Or (b :: rest) pos) g) : EV X c W (.BoolOp .Or (a :: b :: rest) pos) (vOr f g) := by
  refine ⟨fun ρ k k' E E' hk hE q => ha.mn ρ _ _ E E' (fun d => dTru_mn fun t ⟨q1, q2⟩ => ⟨fun z => hk _ (q1 z), fun z => hb.mn ρ _ _ E E' hk hE (q2 z)⟩) hE q, wkE (pe_orT ha.pe hb.pe) ?_⟩
  rintro σ H Q ⟨B, ρ, p, rp, q⟩
  refine ⟨B, ρ, p, rp, ha.mn _ _ _ _ _ (fun d hd v B1 H1 s1 i1 => ?_) (fun _ z => z) q⟩
  obtain ⟨t, h1, h2⟩ := i1.tru s1.bh hd
  refine ⟨t, h1, ?_⟩
  cases t with
  | true =>
    rw [if_pos rfl]
    exact h2.1 rfl _ B1 H1 s1 i1
  | false =>
    rw [if_neg Bool.false_ne_true]
    exact ⟨B1, ρ, s1.pre, rp.mono s1.b, hb.mn _ _ _ _ _ (fun u hu y B2 H2 s2 i2 => hu y B2 H2 (s1.trans s2) i2) (fun x z => z.step s1) (h2.2 rfl)⟩
def vNot (f : DV) : DV := fun ρ k E => f ρ (fun d => dTru d (fun b => k (.bl (!b)))) E
theorem ev_not (ha : EV X c W a f) : EV X c W (.UnaryOp .Not a pos) (vNot f) := by
  refine ⟨fun ρ k k' E E' hk hE q => ha.mn ρ _ _ E E' (fun d => dTru_mn fun t => hk _) hE q, wkE (pe_notT ha.pe) ?_⟩
  rintro σ H Q ⟨B, ρ, p, rp, q⟩
  refine ⟨B, ρ, p, rp, ha.mn _ _ _ _ _ (fun d hd v B1 H1 s1 i1 => ?_) (fun _ z => z) q⟩
  obtain ⟨t, h1, h2⟩ := i1.tru s1.bh hd
  exact ⟨t, h1, h2 _ B1 H1 s1 (.bl _)⟩
/-- a if t else b -/
def rIf (t : DB) (f g : DR) : DR := fun ρ k E => t ρ (fun b => (b = true → f ρ k E) ∧ (b = false → g ρ k E)) E
theorem er_if {t : DB} {f g : DR} {x : Expr} (ht : EB X c W x t) (ha : ER X c W a f) (hb : ER X c W b g) : ER X c W (.IfExp x a b pos) (rIf t f g) := by
  refine ⟨fun ρ k k' E E' hk hE q => ht.mn ρ _ _ E E' (fun b ⟨q1, q2⟩ => ⟨fun z => ha.mn ρ _ _ E E' hk hE (q1 z), fun z => hb.mn ρ _ _ E E' hk hE (q2 z)⟩) hE q, wkE (pe_ifExp ht.pt ha.pe hb.pe) ?_⟩
  rintro σ H Q ⟨B, ρ, p, rp, q⟩
  refine ⟨B, ρ, p, rp, ht.mn _ _ _ _ _ (fun t' hd B1 H1 s1 => ?_) (fun _ z => z) q⟩
  cases t' with
  | true =>
    rw [if_pos rfl]
    exact ⟨B1, ρ, s1.pre, rp.mono s1.b, ha.mn _ _ _ _ _ (fun u hu y B2 H2 s2 i2 => hu y B2 H2 (s1.trans s2) (i2.up s1)) (fun x z => z.step s1) (hd.1 rfl)⟩
  | false =>
    rw [if_neg Bool.false_ne_true]
    exact ⟨B1, ρ, s1.pre, rp.mono s1.b, hb.mn _ _ _ _ _ (fun u hu y B2 H2 s2 i2 => hu y B2 H2 (s1.trans s2) (i2.up s1)) (fun x z => z.step s1) (hd.2 rfl)⟩
def vIf (t : DB) (f g : DV) : DV := fun ρ k E => t ρ (fun b => (b = true → f ρ k E) ∧ (b = false → g ρ k E)) E
theorem ev_if {t : DB} {x : Expr} (ht : EB X c W x t) (ha : EV X c W a f) (hb : EV X c W b g) : EV X c W (.IfExp x a b pos) (vIf t f g) := by
  refine ⟨fun ρ k k' E E' hk hE q => ht.mn ρ _ _ E E' (fun b ⟨q1, q2⟩ => ⟨fun z => ha.mn ρ _ _ E E' hk hE (q1 z), fun z => hb.mn ρ _ _ E E' hk hE (q2 z)⟩) hE q, wkE (pe_ifExp ht.pt ha.pe hb.pe) ?_⟩
  rintro σ H Q ⟨B, ρ, p, rp, q⟩
  refine ⟨B, ρ, p, rp, ht.mn _ _ _ _ _ (fun t' hd B1 H1 s1 => ?_) (fun _ z => z) q⟩
  cases t' with
  | true =>
    rw [if_pos rfl]
    exact ⟨B1, ρ, s1.pre, rp.mono s1.b, ha.mn _ _ _ _ _ (fun u hu y B2 H2 s2 i2 => hu y B2 H2 (s1.trans s2) i2) (fun x z => z.step s1) (hd.1 rfl)⟩
  | false =>
    rw [if_neg Bool.false_ne_true]
    exact ⟨B1, ρ, s1.pre, rp.mono s1.b, hb.mn _ _ _ _ _ (fun u hu y B2 H2 s2 i2 => hu y B2 H2 (s1.trans s2) i2) (fun x z => z.step s1) (hd.2 rfl)⟩

/-! ### subscripts -/
theorem atI_is {K : PySem.W.Frag} {c : Cn K} {B : Hp} {vs : List V} {ds : List D} {i : Int} {z : D} (h : IsL c B vs ds) (e : atI ds i = some z) : ∃ v, atI vs i = some v ∧ Is c B v z := by
  unfold atI at e ⊢
  rw [h.length]
  cases q : ixN ds.length i with
  | none => rw [q] at e; cases e
  | some j =>
    rw [q] at e
    exact h.get (i := j) e
def dIx : D → D → (Rv → Prop) → Prop
  | .tup ds, .int i, k => ∃ z, atI ds i = some z ∧ k (.val z)
  | .lst ds, .int i, k => ∃ z, atI ds i = some z ∧ k (.val z)
  | .ro ds, .int i, k => ∃ z, atI ds i = some z ∧ k (.val z)
  | .str y, .int i, k => ∃ z, y.length ≤ sizeLine ∧ atI y.cps.toList i = some z ∧ k (.val (.str ⟨#[z]⟩))
  | _, _, _ => False
theorem opn_ix : OpN c (rIx X.K) dIx := by
  refine ⟨fun d e k k' hk q => ?_, ?_⟩
  · unfold dIx at q ⊢
    split at q
    · exact let ⟨z, h1, h2⟩ := q; ⟨z, h1, hk _ h2⟩
    · exact let ⟨z, h1, h2⟩ := q; ⟨z, h1, hk _ h2⟩
    · exact let ⟨z, h1, h2⟩ := q; ⟨z, h1, hk _ h2⟩
    · exact let ⟨z, h0, h1, h2⟩ := q; ⟨z, h0, h1, hk _ h2⟩
    · exact q
  · intro B H x y d e Q k p hx hy q K
    unfold dIx at q
    split at q
    · obtain ⟨z, h1, h2⟩ := q
      cases hy
      cases hx with
      | tup h r =>
        obtain ⟨v, h3, h4⟩ := atI_is r h1
        exact .inr (.inl ⟨_, _, _, v, rfl, rfl, SqT.of (p.bh _ _ h), h3, K _ B H _ (Step.refl p) (rv_val h4) h2⟩)
    · obtain ⟨z, h1, h2⟩ := q
      cases hy
      cases hx with
      | lst h r =>
        obtain ⟨v, h3, h4⟩ := atI_is r h1
        exact .inl ⟨_, _, _, v, rfl, rfl, SqL.of (p.bh _ _ h), h3, K _ B H _ (Step.refl p) (rv_val h4) h2⟩
    · obtain ⟨z, h1, h2⟩ := q
      cases hy
      cases hx with
      | ro h r =>
        obtain ⟨v, h3, h4⟩ := atI_is r h1
        exact .inl ⟨_, _, _, v, rfl, rfl, Same.l p.bh h, h3, K _ B H _ (Step.refl p) (rv_val h4) h2⟩
    · obtain ⟨z, h0, h1, h2⟩ := q
      cases hy; cases hx
      exact .inr (.inr ⟨_, _, z, rfl, rfl, h0, h1, K _ B H _ (Step.refl p) (rv_val (.str _)) h2⟩)
    · exact q.elim
theorem er_ix (ha : EV X c W a f) (hb : EV X c W b g) (hs : PlainIx b := by exact fun _ _ => rfl) : ER X c W (.Subscript a b pos) (rBin f g dIx) :=
  ⟨(rbin_ok ha hb opn_ix).1, wkE (pe_ix ix_seq ha.pe hb.pe hs) (rbin_ok ha hb opn_ix).2⟩
theorem ev_ix (ha : EV X c W a f) (hb : EV X c W b g) (hs : PlainIx b := by exact fun _ _ => rfl) : EV X c W (.Subscript a b pos) (vR (rBin f g dIx)) := (er_ix ha hb hs).v
/-- a part of a slice -/
abbrev DO := View → (Option Int → Prop) → (Exn → Prop) → Prop
def tO {K : PySem.W.Frag} (c : Cn K) (W : WX) (f : DO) : TO := fun σ H Q => ∃ B ρ, Pre c B H ∧ RepV c B σ ρ ∧ f ρ (fun o => ∀ B' H', Step c B H B' H' → Q o H') (XK c W B H)
structure EO (X : Cx) (c : Cn X.K) (W : WX) (e : Option Expr) (f : DO) : Prop where
  mn : Mn f
  po : PO X e (tO c W f)
theorem wkO {X : Cx} {e : Option Expr} {t t' : TO} (p : PO X e t) (w : ∀ σ H Q, t' σ H Q → t σ H Q) : PO X e t' := ⟨fun pins s σ H Q I h => p.run pins s σ H Q I (w _ _ _ h)⟩
def oNone : DO := fun _ k _ => k none
def oSome (f : DV) : DO := fun ρ k E => f ρ (fun d => ∃ i, d = .int i ∧ k (some i)) E
theorem eo_none : EO X c W none oNone := ⟨fun ρ k k' E E' hk hE q => hk _ q, wkO po_none fun σ H Q ⟨B, ρ, p, rp, q⟩ => q B H (Step.refl p)⟩
theorem eo_some (h : EV X c W e f) : EO X c W (some e) (oSome f) := by
  refine ⟨fun ρ k k' E E' hk hE q => h.mn ρ _ _ E E' (fun d ⟨i, h1, h2⟩ => ⟨i, h1, hk _ h2⟩) hE q, wkO (po_some h.pe) ?_⟩
  rintro σ H Q ⟨B, ρ, p, rp, q⟩
  refine ⟨B, ρ, p, rp, h.mn _ _ _ _ _ (fun d ⟨i, h1, h2⟩ v B1 H1 s1 i1 => ?_) (fun _ z => z) q⟩
  subst h1; cases i1
  exact ⟨i, rfl, h2 B1 H1 s1⟩
/-- xs[lo:hi] -/
def cutD (xs : List D) (lo hi : Option Int) : List D := (xs.drop (HT.sIx xs.length 0 lo)).take (HT.sIx xs.length xs.length hi - HT.sIx xs.length 0 lo)
theorem IsL.cut {K : PySem.W.Frag} {c : Cn K} {B : Hp} {vs : List V} {ds : List D} (h : IsL c B vs ds) (lo hi : Option Int) : IsL c B (cutV vs lo hi) (cutD ds lo hi) := by
  unfold cutV cutD
  rw [h.length]
  exact (h.drop _).take _
def dCut (d : D) (lo hi : Option Int) (k : Rv → Prop) : Prop :=
  match d with
  | .lst ds => k (.new (cutD ds lo hi))
  | .ro ds => k (.new (cutD ds lo hi))
  | .tup ds => k (.val (.tup (cutD ds lo hi)))
  | _ => False
def rCut (f : DV) (g h : DO) : DR := fun ρ k E => f ρ (fun d => g ρ (fun lo => h ρ (fun hi => dCut d lo hi k) E) E) E
theorem cut_whole {α : Type} (xs : List α) {a b : Nat} (h1 : a = 0) (h2 : b = xs.length) : (xs.drop a).take (b - a) = xs := by subst h1; subst h2; simp
theorem er_cut {g h : DO} {lo hi : Option Expr} {p2 : Pos} (ha : EV X c W a f) (hl : EO X c W lo g) (hh : EO X c W hi h) : ER X c W (.Subscript a (.Slice lo hi none p2) pos) (rCut f g h) := by
  have dm : ∀ (d : D) lo hi (k k' : Rv → Prop), (∀ z, k z → k' z) → dCut d lo hi k → dCut d lo hi k' := fun d lo hi k k' hk q => by
    unfold dCut at q ⊢
    split at q <;> first | exact hk _ q | exact q
  refine ⟨fun ρ k k' E E' hk hE q => ha.mn ρ _ _ E E' (fun d q => hl.mn ρ _ _ E E' (fun l q => hh.mn ρ _ _ E E' (fun u q => dm d l u k k' hk q) hE q) hE q) hE q, wkE (pe_slice (SlR.or sl_list sl_tupA) ha.pe hl.po hh.po) ?_⟩
  rintro σ H Q ⟨B, ρ, p, rp, q⟩
  refine ⟨B, ρ, p, rp, ha.mn _ _ _ _ _ (fun d hd v B1 H1 s1 i1 => ?_) (fun _ z => z) q⟩
  refine ⟨B1, ρ, s1.pre, rp.mono s1.b, hl.mn _ _ _ _ _ (fun l hl' B2 H2 s2 => ?_) (fun x z => z.step s1) hd⟩
  refine ⟨B2, ρ, s2.pre, (rp.mono s1.b).mono s2.b, hh.mn _ _ _ _ _ (fun u hu B3 H3 s3 => ?_) (fun x z => z.step (s1.trans s2)) hl'⟩
  have i3 := i1.mono (fun a o e => s3.b a o (s2.b a o e))
  have st := s1.trans (s2.trans s3)
  unfold dCut at hu
  split at hu
  · cases i3 with
    | lst h r => exact .inl ⟨_, _, rfl, SqL.of (s3.bh _ _ h), fun q' hq => hu _ _ _ (st.trans (Step.lay s3.pre hq _)) (RvOk.up st (rv_new upd_same (r.cut l u) (s3.pre.bnone hq) hq))⟩
  · cases i3 with
    | ro h r => exact .inl ⟨_, _, rfl, Same.l s3.bh h, fun q' hq => hu _ _ _ (st.trans (Step.lay s3.pre hq _)) (RvOk.up st (rv_new upd_same (r.cut l u) (s3.pre.bnone hq) hq))⟩
  · cases i3 with
    | tup h r =>
      refine .inr ⟨_, _, rfl, SqT.of (s3.bh _ _ h), fun ⟨h1, h2⟩ => ?_, fun _ q' hq => ?_⟩
      · refine hu _ _ _ st (rv_val (.tup h ?_))
        have e : cutD _ l u = _ := cut_whole _ (by rw [← r.length]; exact h1) (by rw [← r.length]; exact h2)
        rw [e]; exact r
      · exact hu _ _ _ (st.trans (Step.new s3.pre hq _)) (rv_val (.tup upd_same ((r.cut l u).mono (Same.new (s3.pre.bnone hq)))))
  · exact hu.elim

/-! ### calls of built-ins -/
def CallD {K : PySem.W.Frag} (c : Cn K) (r : List V → Hp → VK → Prop) (od : List D → (Rv → Prop) → Prop) : Prop :=
  (∀ ds (k k' : Rv → Prop), (∀ z, k z → k' z) → od ds k → od ds k') ∧
  ∀ B H vs ds (Q : VK) (k : Rv → Prop), Pre c B H → IsL c B vs ds → od ds k → (∀ z B' H' u, Step c B H B' H' → RvOk c H B' H' z u → k u → Q z H') → r vs H Q
def rCall (g : DL) (od : List D → (Rv → Prop) → Prop) : DR := fun ρ k E => g ρ (fun ds => od ds k) E
theorem rcall_ok {g : DL} {r : List V → Hp → VK → Prop} {od : List D → (Rv → Prop) → Prop} (hd : CallD c r od) (ha : EA X c W es g) : Mn (rCall g od) ∧ ∀ σ H Q, tR c W (rCall g od) σ H Q → tCB r (tL c W g) σ H Q := by
  refine ⟨fun ρ k k' E E' hk hE q => ha.mn ρ _ _ E E' (fun ds => hd.1 ds k k' hk) hE q, ?_⟩
  rintro σ H Q ⟨B, ρ, p, rp, q⟩
  refine ⟨B, ρ, p, rp, ha.mn _ _ _ _ _ (fun ds hds vs B1 H1 s1 i1 => ?_) (fun _ z => z) q⟩
  exact hd.2 B1 H1 vs ds Q _ s1.pre i1 hds fun z B' H' u s2 i2 hk => hk z B' H' (s1.trans s2) (i2.up s1)
theorem er_callB {g : DL} {id : String} {r : List V → Hp → VK → Prop} {od : List D → (Rv → Prop) → Prop} {x : Str} {p : Pos} (hc : CallR X (.builtin id) r) (hd : CallD c r od) (hg : Gl X x) (hm : X.mg x = none) (hv : bootBuiltins x = some (.builtin id))
    (ha : EA X c W (e :: es) g) (hn : x ≠ "__name__" := by decide) (hdb : (x == ("__debug__" : Str)) = false := by decide) (he : starEach (e :: es) X.env = (false, eval e X.env) :: starEach es X.env := by rfl) (hpl : (backTo pos (starEach es X.env)).any (·.1) = false := by rfl) :
    ER X c W (.Call (.Name x p) (e :: es) [] pos) (rCall g od) :=
  ⟨(rcall_ok hd ha).1, wkE (pe_callB hc hg hm hv ha.pa hn hdb he hpl) (rcall_ok hd ha).2⟩
theorem er_callTy {g : DL} {T : String} {r : List V → Hp → VK → Prop} {od : List D → (Rv → Prop) → Prop} {x : Str} {p : Pos} (hc : CallR X (.type T) r) (hd : CallD c r od) (hg : Gl X x) (hm : X.mg x = none) (hv : bootBuiltins x = some (.type T))
    (ha : EA X c W (e :: es) g) (hn : x ≠ "__name__" := by decide) (hdb : (x == ("__debug__" : Str)) = false := by decide) (he : starEach (e :: es) X.env = (false, eval e X.env) :: starEach es X.env := by rfl) (hpl : (backTo pos (starEach es X.env)).any (·.1) = false := by rfl) :
    ER X c W (.Call (.Name x p) (e :: es) [] pos) (rCall g od) :=
  ⟨(rcall_ok hd ha).1, wkE (pe_callTy hc hg hm hv ha.pa hn hdb he hpl) (rcall_ok hd ha).2⟩
theorem er_callM {g : DL} {id : String} {r : List V → Hp → VK → Prop} {od : List D → (Rv → Prop) → Prop} {x : Str} {p : Pos} (hc : CallR X (.builtin id) r) (hd : CallD c r od) (hg : Gl X x) (hm : X.mg x = some (.builtin id))
    (ha : EA X c W (e :: es) g) (hdb : (x == ("__debug__" : Str)) = false := by decide) (he : starEach (e :: es) X.env = (false, eval e X.env) :: starEach es X.env := by rfl) (hpl : (backTo pos (starEach es X.env)).any (·.1) = false := by rfl) :
    ER X c W (.Call (.Name x p) (e :: es) [] pos) (rCall g od) :=
  ⟨(rcall_ok hd ha).1, wkE (pe_callBfun hc hg hm ha.pa hdb he hpl) (rcall_ok hd ha).2⟩
theorem Is1 {K : PySem.W.Frag} {c : Cn K} {B : Hp} {vs : List V} {d : D} (h : IsL c B vs [d]) : ∃ v, vs = [v] ∧ Is c B v d := by
  cases h with
  | cons r t => cases t; exact ⟨_, rfl, r⟩
theorem Is2 {K : PySem.W.Frag} {c : Cn K} {B : Hp} {vs : List V} {d e : D} (h : IsL c B vs [d, e]) : ∃ v w, vs = [v, w] ∧ Is c B v d ∧ Is c B w e := by
  cases h with
  | cons r t =>
    obtain ⟨w, rfl, r2⟩ := Is1 t
    exact ⟨_, w, rfl, r, r2⟩
/-- of one argument -/
def on1 (o : D → (Rv → Prop) → Prop) : List D → (Rv → Prop) → Prop
  | [d], k => o d k
  | _, _ => False
def on2 (o : D → D → (Rv → Prop) → Prop) : List D → (Rv → Prop) → Prop
  | [d, e], k => o d e k
  | _, _ => False
theorem calld1 {r : List V → Hp → VK → Prop} {o : D → (Rv → Prop) → Prop} (hm : ∀ d (k k' : Rv → Prop), (∀ z, k z → k' z) → o d k → o d k')
    (h : ∀ B H v d (Q : VK) (k : Rv → Prop), Pre c B H → Is c B v d → o d k → (∀ z B' H' u, Step c B H B' H' → RvOk c H B' H' z u → k u → Q z H') → r [v] H Q) : CallD c r (on1 o) := by
  refine ⟨fun ds k k' hk q => ?_, fun B H vs ds Q k p i q K => ?_⟩
  · unfold on1 at q ⊢
    split at q
    · exact hm _ k k' hk q
    · exact q
  · unfold on1 at q
    split at q
    · obtain ⟨v, rfl, i1⟩ := Is1 i
      exact h B H v _ Q k p i1 q K
    · exact q.elim
theorem calld2 {r : List V → Hp → VK → Prop} {o : D → D → (Rv → Prop) → Prop} (hm : ∀ d e (k k' : Rv → Prop), (∀ z, k z → k' z) → o d e k → o d e k')
    (h : ∀ B H v w d e (Q : VK) (k : Rv → Prop), Pre c B H → Is c B v d → Is c B w e → o d e k → (∀ z B' H' u, Step c B H B' H' → RvOk c H B' H' z u → k u → Q z H') → r [v, w] H Q) : CallD c r (on2 o) := by
  refine ⟨fun ds k k' hk q => ?_, fun B H vs ds Q k p i q K => ?_⟩
  · unfold on2 at q ⊢
    split at q
    · exact hm _ _ k k' hk q
    · exact q
  · unfold on2 at q
    split at q
    · obtain ⟨v, w, rfl, i1, i2⟩ := Is2 i
      exact h B H v w _ _ Q k p i1 i2 q K
    · exact q.elim
def dLen : D → (Rv → Prop) → Prop
  | .tup ds, k => k (.val (.int ds.length))
  | .lst ds, k => k (.val (.int ds.length))
  | .ro ds, k => k (.val (.int ds.length))
  | .str y, k => y.length ≤ sizeLine ∧ k (.val (.int y.length))
  | _, _ => False
theorem cd_len : CallD c (fun xs H Q => ∃ x n, xs = [x] ∧ LenV X.K x H n ∧ Q (.int n) H) (on1 dLen) := by
  refine calld1 (fun d k k' hk q => ?_) fun B H v d Q k p i q K => ?_
  · cases d <;> simp only [dLen] at q ⊢ <;> first | exact hk _ q | exact ⟨q.1, hk _ q.2⟩ | exact q
  · cases i with
    | tup h r => exact ⟨_, _, rfl, .inr ⟨_, SqT.of (p.bh _ _ h), rfl⟩, K _ B H _ (Step.refl p) (rv_val (.int _)) (by rw [r.length]; exact q)⟩
    | lst h r => exact ⟨_, _, rfl, .inl ⟨_, SqL.of (p.bh _ _ h), rfl⟩, K _ B H _ (Step.refl p) (rv_val (.int _)) (by rw [r.length]; exact q)⟩
    | ro h r => exact ⟨_, _, rfl, .inl ⟨_, Same.l p.bh h, rfl⟩, K _ B H _ (Step.refl p) (rv_val (.int _)) (by rw [r.length]; exact q)⟩
    | str x => exact ⟨_, _, rfl, ⟨q.1, rfl⟩, K _ B H _ (Step.refl p) (rv_val (.int _)) q.2⟩
    | _ => exact q.elim
theorem er_len {g : DL} {p : Pos} (hg : Gl X "len") (hm : X.mg "len" = none) (ha : EA X c W [e] g) (hs : starEach [e] X.env = (false, eval e X.env) :: starEach [] X.env := by rfl) : ER X c W (.Call (.Name "len" p) [e] [] pos) (rCall g (on1 dLen)) :=
  er_callB call_len cd_len hg hm PySem.boot_len ha (by decide) (by decide) hs (by rfl)
/-- one whole number to one -/
def i1 (g : Int → Int) : D → (Rv → Prop) → Prop
  | .int i, k => k (.val (.int (g i)))
  | _, _ => False
theorem i1_mn {g : Int → Int} : ∀ d (k k' : Rv → Prop), (∀ z, k z → k' z) → i1 g d k → i1 g d k' := fun d k k' hk q => by
  cases d <;> simp only [i1] at q ⊢ <;> first | exact hk _ q | exact q
def iAbs (i : Int) : Int := if i < 0 then -i else i
theorem cd_abs : CallD c (fun xs H Q => ∃ i, xs = [.int i] ∧ Q (.int (if i < 0 then -i else i)) H) (on1 (i1 iAbs)) := by
  refine calld1 i1_mn fun B H v d Q k p i q K => ?_
  cases i with
  | int i => exact ⟨i, rfl, K _ B H _ (Step.refl p) (rv_val (.int _)) q⟩
  | _ => exact q.elim
def dInt : D → (Rv → Prop) → Prop
  | .int i, k => k (.val (.int i))
  | .bl b, k => k (.val (.int (if b then 1 else 0)))
  | _, _ => False
theorem cd_int : CallD c (fun xs H Q => (∃ i, xs = [.int i] ∧ Q (.int i) H) ∨ ∃ k, xs = [.bl k] ∧ Q (.int (if k then 1 else 0)) H) (on1 dInt) := by
  refine calld1 (fun d k k' hk q => ?_) fun B H v d Q k p i q K => ?_
  · cases d <;> simp only [dInt] at q ⊢ <;> first | exact hk _ q | exact q
  · cases i with
    | int i => exact .inl ⟨i, rfl, K _ B H _ (Step.refl p) (rv_val (.int _)) q⟩
    | bl b => exact .inr ⟨b, rfl, K _ B H _ (Step.refl p) (rv_val (.int _)) q⟩
    | _ => exact q.elim
def i2 (g : Int → Int → Int) : D → D → (Rv → Prop) → Prop
  | .int i, .int j, k => k (.val (.int (g i j)))
  | _, _, _ => False
theorem i2_mn {g : Int → Int → Int} : ∀ d e (k k' : Rv → Prop), (∀ z, k z → k' z) → i2 g d e k → i2 g d e k' := fun d e k k' hk q => by
  unfold i2 at q ⊢
  split at q
  · exact hk _ q
  · exact q
theorem cd_i2 {g : Int → Int → Int} : CallD c (fun xs H Q => ∃ i j, xs = [.int i, .int j] ∧ Q (.int (g i j)) H) (on2 (i2 g)) := by
  refine calld2 i2_mn fun B H v w d e Q k p i j q K => ?_
  unfold i2 at q
  split at q
  · cases i; cases j
    exact ⟨_, _, rfl, K _ B H _ (Step.refl p) (rv_val (.int _)) q⟩
  · exact q.elim
def iMax (i j : Int) : Int := if j > i then j else i
def iMin (i j : Int) : Int := if j < i then j else i
def iGcd (i j : Int) : Int := ((Nat.gcd i.natAbs j.natAbs : Nat) : Int)
/-- a list of whole numbers -/
def D.ints : List D → Option (List Int)
  | [] => some []
  | .int i :: r => (D.ints r).map (i :: ·)
  | _ => none
theorem ints_vals {K : PySem.W.Frag} {c : Cn K} {B : Hp} : ∀ {vs : List V} {ds : List D} {ns : List Int}, IsL c B vs ds → D.ints ds = some ns → vs = ns.map V.int
  | _, _, ns, .nil, e => by
    simp only [D.ints, Option.some.injEq] at e
    subst e; rfl
  | _, d :: ds, ns, .cons r t, e => by
    cases r with
    | int i =>
      simp only [D.ints, Option.map_eq_some_iff] at e
      obtain ⟨ms, e1, rfl⟩ := e
      rw [ints_vals t e1]; rfl
    | _ => simp [D.ints] at e
def D.bls : List D → Option (List Bool)
  | [] => some []
  | .bl i :: r => (D.bls r).map (i :: ·)
  | _ => none
theorem bls_vals {K : PySem.W.Frag} {c : Cn K} {B : Hp} : ∀ {vs : List V} {ds : List D} {ns : List Bool}, IsL c B vs ds → D.bls ds = some ns → vs = ns.map V.bl
  | _, _, ns, .nil, e => by
    simp only [D.bls, Option.some.injEq] at e
    subst e; rfl
  | _, d :: ds, ns, .cons r t, e => by
    cases r with
    | bl i =>
      simp only [D.bls, Option.map_eq_some_iff] at e
      obtain ⟨ms, e1, rfl⟩ := e
      rw [bls_vals t e1]; rfl
    | _ => simp [D.bls] at e
def dSum : D → (Rv → Prop) → Prop
  | .lst ds, k => ∃ ns, D.ints ds = some ns ∧ k (.val (.int ns.sum))
  | _, _ => False
theorem cd_sum : CallD c (rSum X.K) (on1 dSum) := by
  refine calld1 (fun d k k' hk q => ?_) fun B H v d Q k p i q K => ?_
  · cases d <;> simp only [dSum] at q ⊢ <;> first | exact (let ⟨ns, h1, h2⟩ := q; ⟨ns, h1, hk _ h2⟩) | exact q
  · cases i with
    | lst h r =>
      obtain ⟨ns, h1, h2⟩ := q
      have e := ints_vals r h1
      subst e
      exact ⟨_, ns, rfl, SqL.of (p.bh _ _ h), K _ B H _ (Step.refl p) (rv_val (.int _)) h2⟩
    | _ => exact q.elim
def dAll : D → (Rv → Prop) → Prop
  | .lst ds, k => ∃ bs, D.bls ds = some bs ∧ k (.val (.bl (bs.all id)))
  | _, _ => False
def dAny : D → (Rv → Prop) → Prop
  | .lst ds, k => ∃ bs, D.bls ds = some bs ∧ k (.val (.bl (bs.any id)))
  | _, _ => False
theorem cd_all : CallD c (rAll X.K) (on1 dAll) := by
  refine calld1 (fun d k k' hk q => ?_) fun B H v d Q k p i q K => ?_
  · cases d <;> simp only [dAll] at q ⊢ <;> first | exact (let ⟨ns, h1, h2⟩ := q; ⟨ns, h1, hk _ h2⟩) | exact q
  · cases i with
    | lst h r =>
      obtain ⟨ns, h1, h2⟩ := q
      have e := bls_vals r h1
      subst e
      exact ⟨_, ns, rfl, SqL.of (p.bh _ _ h), K _ B H _ (Step.refl p) (rv_val (.bl _)) h2⟩
    | _ => exact q.elim
theorem cd_any : CallD c (rAny X.K) (on1 dAny) := by
  refine calld1 (fun d k k' hk q => ?_) fun B H v d Q k p i q K => ?_
  · cases d <;> simp only [dAny] at q ⊢ <;> first | exact (let ⟨ns, h1, h2⟩ := q; ⟨ns, h1, hk _ h2⟩) | exact q
  · cases i with
    | lst h r =>
      obtain ⟨ns, h1, h2⟩ := q
      have e := bls_vals r h1
      subst e
      exact ⟨_, ns, rfl, SqL.of (p.bh _ _ h), K _ B H _ (Step.refl p) (rv_val (.bl _)) h2⟩
    | _ => exact q.elim
/-- the greatest, the least of a list -/
def dMaxL : D → (Rv → Prop) → Prop
  | .lst ds, k => ∃ ns, D.ints ds = some ns ∧ 0 < ns.length ∧ ∀ m, m ∈ ns → (∀ y, y ∈ ns → y ≤ m) → k (.val (.int m))
  | _, _ => False
def dMinL : D → (Rv → Prop) → Prop
  | .lst ds, k => ∃ ns, D.ints ds = some ns ∧ 0 < ns.length ∧ ∀ m, m ∈ ns → (∀ y, y ∈ ns → m ≤ y) → k (.val (.int m))
  | _, _ => False
theorem cd_maxL : CallD c (rMax X.K) (on1 dMaxL) := by
  refine calld1 (fun d k k' hk q => ?_) fun B H v d Q k p i q K => ?_
  · cases d <;> simp only [dMaxL] at q ⊢ <;> first | exact (let ⟨ns, h1, h2, h3⟩ := q; ⟨ns, h1, h2, fun m a b => hk _ (h3 m a b)⟩) | exact q
  · cases i with
    | lst h r =>
      obtain ⟨ns, h1, h2, h3⟩ := q
      have e := ints_vals r h1
      subst e
      exact ⟨_, ns, rfl, SqL.of (p.bh _ _ h), h2, fun m a b => K _ B H _ (Step.refl p) (rv_val (.int _)) (h3 m a b)⟩
    | _ => exact q.elim
theorem cd_minL : CallD c (rMin X.K) (on1 dMinL) := by
  refine calld1 (fun d k k' hk q => ?_) fun B H v d Q k p i q K => ?_
  · cases d <;> simp only [dMinL] at q ⊢ <;> first | exact (let ⟨ns, h1, h2, h3⟩ := q; ⟨ns, h1, h2, fun m a b => hk _ (h3 m a b)⟩) | exact q
  · cases i with
    | lst h r =>
      obtain ⟨ns, h1, h2, h3⟩ := q
      have e := ints_vals r h1
      subst e
      exact ⟨_, ns, rfl, SqL.of (p.bh _ _ h), h2, fun m a b => K _ B H _ (Step.refl p) (rv_val (.int _)) (h3 m a b)⟩
    | _ => exact q.elim
/-- list(xs), tuple(xs) -/
def dList : D → (Rv → Prop) → Prop
  | .lst ds, k => k (.new ds)
  | .ro ds, k => k (.new ds)
  | .tup ds, k => k (.new ds)
  | _, _ => False
theorem cd_list : CallD c (fun xs H Q => ∃ p ys, xs = [.ref p] ∧ (SqL X.K H p ys ∨ SqT X.K H p ys) ∧ ∀ l, H l = none → Q (.ref l) (upd H l (.lst ys))) (on1 dList) := by
  refine calld1 (fun d k k' hk q => ?_) fun B H v d Q k p i q K => ?_
  · cases d <;> simp only [dList] at q ⊢ <;> first | exact hk _ q | exact q
  · cases i with
    | tup h r => exact ⟨_, _, rfl, .inr (SqT.of (p.bh _ _ h)), fun l hl => K _ _ _ _ (Step.lay p hl _) (rv_new upd_same r (p.bnone hl) hl) q⟩
    | lst h r => exact ⟨_, _, rfl, .inl (SqL.of (p.bh _ _ h)), fun l hl => K _ _ _ _ (Step.lay p hl _) (rv_new upd_same r (p.bnone hl) hl) q⟩
    | ro h r => exact ⟨_, _, rfl, .inl (Same.l p.bh h), fun l hl => K _ _ _ _ (Step.lay p hl _) (rv_new upd_same r (p.bnone hl) hl) q⟩
    | _ => exact q.elim
def dTuple : D → (Rv → Prop) → Prop
  | .lst ds, k => k (.val (.tup ds))
  | .ro ds, k => k (.val (.tup ds))
  | .tup ds, k => k (.val (.tup ds))
  | _, _ => False
theorem cd_tuple : CallD c (fun xs H Q => ∃ p ys, xs = [.ref p] ∧ ((SqL X.K H p ys ∧ ∀ l, H l = none → Q (.ref l) (upd H l (.tup ys))) ∨ (SqT X.K H p ys ∧ Q (.ref p) H))) (on1 dTuple) := by
  refine calld1 (fun d k k' hk q => ?_) fun B H v d Q k p i q K => ?_
  · cases d <;> simp only [dTuple] at q ⊢ <;> first | exact hk _ q | exact q
  · cases i with
    | tup h r => exact ⟨_, _, rfl, .inr ⟨SqT.of (p.bh _ _ h), K _ B H _ (Step.refl p) (rv_val (.tup h r)) q⟩⟩
    | lst h r => exact ⟨_, _, rfl, .inl ⟨SqL.of (p.bh _ _ h), fun l hl => K _ _ _ _ (Step.new p hl _) (rv_val (.tup upd_same (r.mono (Same.new (p.bnone hl))))) q⟩⟩
    | ro h r => exact ⟨_, _, rfl, .inl ⟨Same.l p.bh h, fun l hl => K _ _ _ _ (Step.new p hl _) (rv_val (.tup upd_same (r.mono (Same.new (p.bnone hl))))) q⟩⟩
    | _ => exact q.elim

/-! ### isinstance -/
def D.ty {K : PySem.W.Frag} (c : Cn K) : D → Option Value
  | .non => some (.type "NoneType")
  | .bl _ => some (.type "bool")
  | .int _ => some (.type "int")
  | .str _ => some (.type "str")
  | .tup _ => some (.type "tuple")
  | .lst _ => some (.type "list")
  | .ro _ => some (.type "list")
  | .obj C _ => some (.ref (c.ca C))
  | .dct => some (.type "dict")
  | .flt _ => some (.type "float")
  | _ => none
theorem Is.tyx {K : PySem.W.Frag} {c : Cn K} {B H : Hp} {v : V} {d : D} {t : Value} (h : Is c B v d) (s : Same B H) (e : d.ty c = some t) : TyX K H v t := by
  cases h with
  | non => cases e; exact .base .non
  | bl b => cases e; exact .base (.bl b)
  | int i => cases e; exact .base (.int i)
  | str x => cases e; exact .base (.str x)
  | tup h r =>
    cases e
    exact .base (.tup (s _ _ h))
  | lst h r => cases e; exact .base (.lst (s _ _ h))
  | ro h r =>
    cases e
    rcases h with (h | ⟨o, h⟩) | ⟨o, its, n, h1, h2, _⟩
    · exact .base (.lst (s _ _ h))
    · exact .base (.frz (s _ _ h))
    · exact .kList h1 h2
  | obj h o r => cases e; exact .base (.ins (s _ _ h) o.cl o.ha o.hn o.htk o.hm)
  | fn x => cases e
  | typ n => cases e
  | drw => cases e
  | opq n => cases e
  | dct h => cases e; exact .base (.dK (s _ _ h))
  | flt x => cases e; exact .base (.flt x)
/-- isinstance(x, T): a built-in type, an own class, a tuple of built-in types; kt: which answers are known -/
def dIsi (kt : D → D → Option Bool) : D → D → (Rv → Prop) → Prop := fun d e k => ∃ b, kt d e = some b ∧ k (.val (.bl b))
def KtOk {K : PySem.W.Frag} (c : Cn K) (kt : D → D → Option Bool) : Prop := ∀ d e b, kt d e = some b → ∃ t, d.ty c = some t ∧
  ((∃ T, e = .typ T ∧ PySem.W.kitOne K t (.type T) = some b) ∨ (∃ C, e = .fn C ∧ PySem.W.kitOne K t (.ref (c.ca C)) = some b) ∨ ∃ Ts : List String, e = .tup (Ts.map D.typ) ∧ PySem.W.kitAny K t (Ts.map Value.type) = some b)
theorem typs_vals {K : PySem.W.Frag} {c : Cn K} {B : Hp} : ∀ {vs : List V} {Ts : List String}, IsL c B vs (Ts.map D.typ) → vs = Ts.map V.ty
  | _, [], h => by cases h; rfl
  | _, T :: Ts, h => by
    cases h with
    | cons r t =>
      cases r
      rw [typs_vals t]; rfl
theorem cls_typs : ∀ Ts : List String, Paired ClsV (Ts.map V.ty) (Ts.map Value.type)
  | [] => .nil
  | T :: Ts => .cons (.ty T) (cls_typs Ts)
theorem cd_isi {kt : D → D → Option Bool} (hk : KtOk c kt) : CallD c (fun xs H Q => rIsi X.K xs H Q ∨ rIsiT X.K xs H Q) (on2 (dIsi kt)) := by
  refine calld2 (fun d e k k' hk ⟨b, h1, h2⟩ => ⟨b, h1, hk _ h2⟩) fun B H v w d e Q k p i j q K => ?_
  obtain ⟨b, h1, h2⟩ := q
  obtain ⟨t, h3, h4⟩ := hk d e b h1
  have ty := i.tyx p.bh h3
  have fin : Q (.bl b) H := K _ B H _ (Step.refl p) (rv_val (.bl b)) h2
  rcases h4 with ⟨T, rfl, h4⟩ | ⟨C, rfl, h4⟩ | ⟨Ts, rfl, h4⟩
  · cases j
    exact .inl ⟨_, _, t, _, b, rfl, .ty T, ty, h4, fin⟩
  · cases j
    exact .inl ⟨_, _, t, _, b, rfl, .own _, ty, h4, fin⟩
  · cases j with
    | tup h r =>
      have e := typs_vals r
      subst e
      exact .inr ⟨_, _, _, t, _, b, rfl, p.bh _ _ h, cls_typs Ts, ty, h4, fin⟩
/-- o.f -/
def dFld (f : DV) (C : Str) (x : Str) : DV := fun ρ k E => f ρ (fun d => ∃ fs z, d = .obj C fs ∧ fs.lookup x = some z ∧ k z) E
theorem mem_keys {α : Type} {x : Str} : ∀ {l : List (Str × α)} {z : α}, l.lookup x = some z → x ∈ l.map (·.1)
  | [], _, h => by cases h
  | (y, w) :: r, z, h => by
    rw [List.lookup_cons] at h
    by_cases q : (x == y) = true
    · have e : x = y := by simpa using q
      rw [e]; exact List.mem_cons_self
    · have q' : (x == y) = false := by simpa using q
      rw [q'] at h
      exact List.mem_cons_of_mem _ (mem_keys h)
theorem ev_fld {C x : Str} (ha : EV X c W e f) (hb : attributeBase e x X.env (eval e X.env) = eval e X.env := by rfl) : EV X c W (.Attribute e x pos) (dFld f C x) := by
  refine ⟨fun ρ k k' E E' hk hE q => ha.mn ρ _ _ E E' (fun d ⟨fs, z, h1, h2, h3⟩ => ⟨fs, z, h1, h2, hk _ h3⟩) hE q, wkE (pe_fld ha.pe hb) ?_⟩
  rintro σ H Q ⟨B, ρ, p, rp, q⟩
  refine ⟨B, ρ, p, rp, ha.mn _ _ _ _ _ (fun d hd v B1 H1 s1 i1 => ?_) (fun _ z => z) q⟩
  obtain ⟨fs, z, rfl, h2, h3⟩ := hd
  cases i1 with
  | obj h o r =>
    obtain ⟨y, h4, h5⟩ := r.lookup h2
    exact ⟨_, _, _, _, y, rfl, s1.bh _ _ h, o.cl, o.na x (mem_keys h2), h4, h3 y B1 H1 s1 h5⟩
end
end Dv

set_option Elab.async false
set_option linter.all false
set_option maxRecDepth 100000
set_option maxHeartbeats 2000000
namespace Dv
open PySem PySem.Spec PyProof.Rows L2

/-- what holds of a frame -/
structure Fm (X : Cx) (W : WX) (j : Nat) : Prop where
  nd : X.N.Nodup
  calm : X.calm = true
  room : Room j X.A
  gd : X.A.guards = some []
  tk : Takes X W
  po : PassesOwn (model X.prog X.w) X.A X.env X.xe

/-! ### functions -/
/-- a def's promise, of calls that are made while nothing is being shown -/
structure FnD (P : Program) (w : World) (K : PySem.W.Frag) (mg : Str → Option Value) (base : Heap) (k : Nat) (f : Addr) (fd : FuncData) (ps : List Str) (sp : Sp) : Prop where
  len : ∀ vs H Q E, sp vs H Q E → vs.length = ps.length
  run : ∀ (A : Around) (outer : List Env) (s : Shared) (H : Hp) (args : Args) (us : List Value) (vs : List V) (Q : VK) (E : L2.XK),
    A.guards = some [] → Room k A → Env0 P w K mg base A outer s H → BindsTo s fd args (ps.zip us) → Vals vs us → sp vs H Q E →
      codeAny (model P w) A (.call (.ref f) args) (CR (L2.CX P w) outer P w H s Q E) s
theorem FnD.mono {P : Program} {w : World} {K : PySem.W.Frag} {mg : Str → Option Value} {base : Heap} {j k : Nat} {f : Addr} {fd : FuncData} {ps : List Str} {sp : Sp} (F : FnD P w K mg base j f fd ps sp) (h : j ≤ k) : FnD P w K mg base k f fd ps sp :=
  ⟨F.len, fun A outer s H args us vs Q E hg hr => F.run A outer s H args us vs Q E hg (hr.mono h)⟩
abbrev DF := List D → (Rv → Prop) → (Exn → Prop) → Prop
def MnF (F : DF) : Prop := ∀ ds (k k' : Rv → Prop) (E E' : Exn → Prop), (∀ d, k d → k' d) → (∀ x, E x → E' x) → F ds k E → F ds k' E'
def spD {K : PySem.W.Frag} (c : Cn K) (n : Nat) (F : DF) : Sp := fun vs H Q E => ∃ B ds, Pre c B H ∧ IsL c B vs ds ∧ ds.length = n ∧
  F ds (fun r => ∀ v B' H', Step c B H B' H' → RvOk c H B' H' v r → Q v H') (fun x => ∀ cls d B' H', Step c B H B' H' → XOk c B' H' cls d x → E cls d H')
/-- a def of the text, as it stands behind the top, and what it does -/
structure Df (P : Program) (w : World) (K : PySem.W.Frag) (mg : Str → Option Value) (base : Heap) (c : Cn K) (j : Nat) (x : Str) (st : Stmt) (ps : List Str) (F : DF) : Prop where
  g : mg x = some (.ref (c.ca x))
  kp : PySem.W.keepIn K (.ref (c.ca x)) = true
  mn : MnF F
  ok : ∃ (kV doc pm : Value) (an : Option Addr) (cdv ct : Value), FnD P w K mg base j (c.ca x) (PySem.W.fnOf x x (defArgs st) (defBody st) (defScope st) .none kV doc pm an cdv ct) ps (spD c ps.length F)
/-- how a def's parameters are bound -/
def BindP (x : Str) (st : Stmt) (ps ks : List Str) (n : Nat) (g : List Value → List Value) : Prop :=
  ∀ (kV doc pm : Value) (an : Option Addr) (cdv ct : Value) (us ws : List Value), us.length = n → ws.length = ks.length →
    bindArgs (PySem.W.fnOf x x (defArgs st) (defBody st) (defScope st) .none kV doc pm an cdv ct) ⟨us, ks.zip ws⟩ = pure (ps.zip (g (us ++ ws)))
/-- the items at the places -/
def pick {α : Type} (perm : List Nat) (l : List α) : List α := perm.filterMap fun i => l[i]?
theorem pick_vals {vs : List V} {us : List Value} (r : Vals vs us) : ∀ perm : List Nat, Vals (pick perm vs) (pick perm us)
  | [] => .nil
  | i :: p => by
    have t := pick_vals r p
    unfold pick at t ⊢
    rw [List.filterMap_cons, List.filterMap_cons]
    cases e : vs[i]? with
    | none => rw [r.none_of e]; exact t
    | some v =>
      obtain ⟨u, e2, rv⟩ := r.get e
      rw [e2]; exact .cons rv t
theorem pick_is {K : PySem.W.Frag} {c : Cn K} {B : Hp} {vs : List V} {ds : List D} (r : IsL c B vs ds) : ∀ perm : List Nat, IsL c B (pick perm vs) (pick perm ds)
  | [] => .nil
  | i :: p => by
    have t := pick_is r p
    unfold pick at t ⊢
    rw [List.filterMap_cons, List.filterMap_cons]
    cases e : vs[i]? with
    | none =>
      cases e2 : ds[i]? with
      | none => exact t
      | some d =>
        obtain ⟨v, e3, _⟩ := r.get e2
        rw [e] at e3; cases e3
    | some v =>
      obtain ⟨d, e2, rv⟩ := r.get' e
      rw [e2]; exact .cons rv t
section
variable {X : Cx} {c : Cn X.K} {W : WX} {e a b : Expr} {es : List Expr} {pos : Pos} {f g : DV} {j k : Nat}
/-- the callee runs -/
theorem run_fnD {pins : List (Addr × Obj)} {σ : L2.St} {H : Hp} {s : Shared} {Q : VK} {E : L2.XK} {args : Args} {us : List Value} {vs : List V} {fa : Addr} {fd : FuncData} {ps : List Str} {sp : Sp} (m : Fm X W j) (F : FnD X.prog X.w X.K X.mg X.base k fa fd ps sp) (hk : k ≤ j)
    (hE : ∀ cls d σ H, E cls d H → W cls d σ H) (I : Inv X pins σ H s) (hb : BindsTo s fd args (ps.zip us)) (r : Vals vs us) (h : sp vs H Q E) :
    codeAny (model X.prog X.w) X.A (.call (.ref fa) args) (fun r s' => match r with | .ok (.ret u) => EP X pins σ Q u s' | .ok _ => False | .error e => X.xe e s') s := by
  refine codeAny_mono (F.run X.A X.stack s H args us vs Q E m.gd (m.room.mono hk) I.env0 hb r h) fun r s' hq => ?_
  cases r with
  | error e => exact passes_call m.tk hE pins σ H s e s' I hq
  | ok fl =>
    cases fl with
    | ret u => exact I.after hq
    | next => exact hq
    | brk => exact hq
    | cont => exact hq
def dCall (g : DL) (F : DF) : DR := fun ρ k E => g ρ (fun ds => F ds k E) E
/-- f(e, ..) -/
theorem er_call {g : DL} {x : Str} {st : Stmt} {ps : List Str} {F : DF} {p : Pos} (m : Fm X W j) (d : Df X.prog X.w X.K X.mg X.base c k x st ps F) (hk : k ≤ j) (hg : Gl X x) (hb : BindP x st ps [] ps.length id) (ha : EA X c W (e :: es) g)
    (hl : (e :: es).length = ps.length := by rfl) (hdb : (x == ("__debug__" : Str)) = false := by decide) (he : starEach (e :: es) X.env = (false, eval e X.env) :: starEach es X.env := by rfl) (hpl : (backTo pos (starEach es X.env)).any (·.1) = false := by rfl) :
    ER X c W (.Call (.Name x p) (e :: es) [] pos) (dCall g F) := by
  refine ⟨fun ρ k k' E E' hk hE q => ha.mn ρ _ _ E E' (fun ds => d.mn ds k k' E E' hk hE) hE q, ⟨fun pins s σ H Q I h => ?_⟩⟩
  obtain ⟨B, ρ, pr, rp, q⟩ := h
  obtain ⟨kV, doc, pm, an, cdv, ct, F1⟩ := d.ok
  refine wpAny_Call_Name_kw (ld_glob I hg d.g ?_ hdb)
  have ht : tL c W g σ H fun vs H1 => spD c ps.length F vs H1 Q fun cls d H' => ∀ σ', W cls d σ' H' := by
    refine ⟨B, ρ, pr, rp, ha.mn _ _ _ _ _ (fun ds hd vs B1 H1 s1 i1 => ?_) (fun _ z => z) (ha.len _ _ _ q)⟩
    refine ⟨B1, ds, s1.pre, i1, hd.1.trans hl, d.mn _ _ _ _ _ (fun r hr v B' H' s2 ro => ?_) (fun x hx cls d B' H' s2 xo σ' => ?_) hd.2⟩
    · exact hr v B' H' (s1.trans s2) (ro.up s1)
    · exact hx cls d σ' B' H' (s1.trans s2) xo
  refine PySem.W.callWith_K (h₀ := X.base) I.ok.mod.kin d.kp (thn (ha.pa.run pos pins s σ H _ I ht) fun us s1 ⟨vs, H1, I1, r, q⟩ => ⟨I1.kIn, ?_⟩) he hpl
  have lv : us.length = ps.length := by rw [← r.length]; exact F1.len _ _ _ _ q
  have hbt : BindsTo s1 (PySem.W.fnOf x x (defArgs st) (defBody st) (defScope st) .none kV doc pm an cdv ct) ⟨us, []⟩ (ps.zip us) := .of_eq (by
    have z := hb kV doc pm an cdv ct us [] lv rfl
    simpa using z)
  refine wpAny_call (codeAny_mono (run_fnD m F1 hk (fun cls d σ H h => h σ) I1 hbt r q) fun r s' hq => ?_)
  cases r with
  | error e => exact hq
  | ok fl =>
    cases fl with
    | ret u => exact hq
    | next => exact hq.elim
    | brk => exact hq.elim
    | cont => exact hq.elim
/-! keywords -/
structure EK (X : Cx) (c : Cn X.K) (W : WX) (kws : List Keyword) (f : DL) : Prop where
  mn : Mn f
  len : ∀ ρ k E, f ρ k E → f ρ (fun ds => ds.length = kws.length ∧ k ds) E
  pk : PK X kws (tL c W f)
theorem wkK {X : Cx} {e : List Keyword} {t t' : TA} (p : PK X e t) (w : ∀ σ H Q, t' σ H Q → t σ H Q) : PK X e t' := ⟨fun pos pins s σ H Q I h => p.run pos pins s σ H Q I (w _ _ _ h)⟩
theorem ek_nil : EK X c W [] aNil := ⟨fun ρ k k' E E' hk hE q => hk _ q, fun ρ k E q => ⟨rfl, q⟩, wkK pk_nil fun σ H Q ⟨B, ρ, p, rp, q⟩ => q [] B H (Step.refl p) .nil⟩
theorem ek_cons {g : DL} {kws : List Keyword} {nm : Option Str} {kpos : Pos} (he : EV X c W e f) (hr : EK X c W kws g) : EK X c W (⟨nm, e, kpos⟩ :: kws) (aCons f g) := by
  refine ⟨fun ρ k k' E E' hk hE q => he.mn ρ _ _ E E' (fun d q => hr.mn ρ _ _ E E' (fun ds q => hk _ q) hE q) hE q, fun ρ k E q => ?_, wkK (pk_cons he.pe hr.pk) ?_⟩
  · refine he.mn ρ _ _ E E (fun d q => ?_) (fun _ z => z) q
    refine hr.mn ρ _ _ E E (fun ds q => ⟨?_, q.2⟩) (fun _ z => z) (hr.len ρ _ E q)
    rw [List.length_cons, List.length_cons, q.1]
  · rintro σ H Q ⟨B, ρ, p, rp, q⟩
    refine ⟨B, ρ, p, rp, he.mn _ _ _ _ _ (fun d hd x B1 H1 s1 i1 => ?_) (fun _ z => z) q⟩
    refine ⟨B1, ρ, s1.pre, rp.mono s1.b, hr.mn _ _ _ _ _ (fun ds hds vs B2 H2 s2 i2 => ?_) (fun x z => z.step s1) hd⟩
    exact hds _ B2 H2 (s1.trans s2) (.cons (i1.mono s2.b) i2)
def dCallK (g h : DL) (perm : List Nat) (F : DF) : DR := fun ρ k E => g ρ (fun ds => h ρ (fun es => F (pick perm (ds ++ es)) k E) E) E
theorem callk_mn {g h : DL} {perm : List Nat} {F : DF} (hg : Mn g) (hh : Mn h) (hF : MnF F) : Mn (dCallK g h perm F) :=
  fun ρ k k' E E' hk hE q => hg ρ _ _ E E' (fun ds q => hh ρ _ _ E E' (fun es => hF _ k k' E E' hk hE) hE q) hE q
/-- what the arguments of a call with keywords give -/
theorem callk_args {g h : DL} {ks ps : List Str} {kws : List Keyword} {perm : List Nat} {F : DF} {Q : VK} (hF : MnF F) (ha : EA X c W es g) (hw : EK X c W kws h) (hp : ∀ ds es' : List D, ds.length = es.length → es'.length = kws.length → (pick perm (ds ++ es')).length = ps.length) {σ : L2.St} {H : Hp}
    (q : tR c W (dCallK g h perm F) σ H Q) :
    tL c W g σ H fun vs H1 => vs.length = es.length ∧ tL c W h σ H1 fun zs H2 => zs.length = kws.length ∧ spD c ps.length F (pick perm (vs ++ zs)) H2 Q fun cls d H' => ∀ σ', W cls d σ' H' := by
  obtain ⟨B, ρ, pr, rp, q⟩ := q
  refine ⟨B, ρ, pr, rp, ha.mn _ _ _ _ _ (fun ds hd vs B1 H1 s1 i1 => ⟨i1.length.trans hd.1, ?_⟩) (fun _ z => z) (ha.len _ _ _ q)⟩
  refine ⟨B1, ρ, s1.pre, rp.mono s1.b, hw.mn _ _ _ _ _ (fun es' he zs B2 H2 s2 i2 => ⟨i2.length.trans he.1, ?_⟩) (fun x z => z.step s1) (hw.len _ _ _ hd.2)⟩
  refine ⟨B2, _, s2.pre, pick_is ((i1.mono s2.b).append i2) perm, hp ds es' hd.1 he.1, hF _ _ _ _ _ (fun r hr v B' H' s3 ro => ?_) (fun x hx cls d B' H' s3 xo σ' => ?_) he.2⟩
  · exact hr v B' H' (s1.trans (s2.trans s3)) (ro.up (s1.trans s2))
  · exact hx cls d σ' B' H' (s1.trans (s2.trans s3)) xo
theorem er_callK {g h : DL} {x : Str} {st : Stmt} {ps ks : List Str} {kws : List Keyword} {perm : List Nat} {F : DF} {p : Pos} (m : Fm X W j) (d : Df X.prog X.w X.K X.mg X.base c k x st ps F) (hk : k ≤ j) (hg : Gl X x) (hb : BindP x st ps ks (e :: es).length (pick perm))
    (ha : EA X c W (e :: es) g) (hw : EK X c W kws h) (hp : ∀ ds es' : List D, ds.length = (e :: es).length → es'.length = kws.length → (pick perm (ds ++ es')).length = ps.length) (hlk : kws.length = ks.length := by rfl)
    (hall : (backToKw pos (keywordEach kws X.env)).all (·.1.isSome) = true := by rfl) (hks : (backToKw pos (keywordEach kws X.env)).filterMap (·.1) = ks := by rfl)
    (hdb : (x == ("__debug__" : Str)) = false := by decide) (he : starEach (e :: es) X.env = (false, eval e X.env) :: starEach es X.env := by rfl)
    (hpl : ((backTo pos (starEach (e :: es) X.env)).any (·.1) || (backToKw pos (keywordEach kws X.env)).any (·.1.isNone)) = false := by rfl) :
    ER X c W (.Call (.Name x p) (e :: es) kws pos) (dCallK g h perm F) := by
  refine ⟨callk_mn ha.mn hw.mn d.mn, ⟨fun pins s σ H Q I q => ?_⟩⟩
  obtain ⟨kV, doc, pm, an, cdv, ct, F1⟩ := d.ok
  refine wpAny_Call_Name_kw (ld_glob I hg d.g ?_ hdb)
  have ht := callk_args (ks := ks) (ps := ps) d.mn ha hw hp q
  refine PySem.W.callWith_KW (h₀ := X.base) I.ok.mod.kin d.kp hall (thn (ha.pa.run pos pins s σ H _ I ht) fun us s1 ⟨vs, H1, I1, r, l1, q1⟩ => ?_) hpl he
  refine thn (hw.pk.run pos pins s1 σ H1 _ I1 q1) fun ws s2 ⟨zs, H2, I2, rz, l2, q2⟩ => ⟨I2.kIn, ?_⟩
  rw [hks]
  have hbt := hb kV doc pm an cdv ct us ws (r.length.symm.trans l1) ((rz.length.symm.trans l2).trans hlk)
  refine wpAny_call (codeAny_mono (run_fnD m F1 hk (fun cls d σ H h => h σ) I2 (.of_eq hbt) (pick_vals (r.append rz) perm) q2) fun r s' hq => ?_)
  cases r with
  | error e => exact hq
  | ok fl =>
    cases fl with
    | ret u => exact hq
    | next => exact hq.elim
    | brk => exact hq.elim
    | cont => exact hq.elim
theorem er_callK0 {h : DL} {x : Str} {st : Stmt} {ps ks : List Str} {kws : List Keyword} {perm : List Nat} {F : DF} {p : Pos} (m : Fm X W j) (d : Df X.prog X.w X.K X.mg X.base c k x st ps F) (hk : k ≤ j) (hg : Gl X x) (hb : BindP x st ps ks 0 (pick perm))
    (hw : EK X c W kws h) (hp : ∀ ds es' : List D, ds.length = ([] : List Expr).length → es'.length = kws.length → (pick perm (ds ++ es')).length = ps.length) (hlk : kws.length = ks.length := by rfl)
    (hall : (backToKw pos (keywordEach kws X.env)).all (·.1.isSome) = true := by rfl) (hks : (backToKw pos (keywordEach kws X.env)).filterMap (·.1) = ks := by rfl)
    (hdb : (x == ("__debug__" : Str)) = false := by decide)
    (hpl : ((backTo pos (starEach [] X.env)).any (·.1) || (backToKw pos (keywordEach kws X.env)).any (·.1.isNone)) = false := by rfl) :
    ER X c W (.Call (.Name x p) [] kws pos) (dCallK aNil h perm F) := by
  refine ⟨callk_mn (ea_nil (X := X) (c := c) (W := W)).mn hw.mn d.mn, ⟨fun pins s σ H Q I q => ?_⟩⟩
  obtain ⟨kV, doc, pm, an, cdv, ct, F1⟩ := d.ok
  refine wpAny_Call_Name_kw (ld_glob I hg d.g ?_ hdb)
  have ht := callk_args (ks := ks) (ps := ps) d.mn ea_nil hw hp q
  have hk2 : tL c W h σ H fun zs H2 => zs.length = kws.length ∧ spD c ps.length F (pick perm ([] ++ zs)) H2 Q fun cls d H' => ∀ σ', W cls d σ' H' := by
    obtain ⟨B, ρ, pr, rp, q⟩ := ht
    exact (q [] B H (Step.refl pr) .nil).2
  refine PySem.W.callWith_KW0 (h₀ := X.base) I.ok.mod.kin d.kp hall ?_ hpl
  refine thn (hw.pk.run pos pins s σ H _ I hk2) fun ws s2 ⟨zs, H2, I2, rz, l2, q2⟩ => ⟨I2.kIn, ?_⟩
  rw [hks]
  have hbt := hb kV doc pm an cdv ct [] ws rfl ((rz.length.symm.trans l2).trans hlk)
  refine wpAny_call (codeAny_mono (run_fnD m F1 hk (fun cls d σ H h => h σ) I2 (.of_eq hbt) (pick_vals (Vals.append .nil rz) perm) q2) fun r s' hq => ?_)
  cases r with
  | error e => exact hq
  | ok fl =>
    cases fl with
    | ret u => exact hq
    | next => exact hq.elim
    | brk => exact hq.elim
    | cont => exact hq.elim
end
end Dv

set_option Elab.async false
set_option linter.all false
set_option maxRecDepth 100000
set_option maxHeartbeats 2000000
namespace Dv
open PySem PySem.Spec PyProof.Rows L2

/-- what a local name holds: a value, or a list that it alone holds -/
inductive Slot where
  | val (d : D)
  | own (ds : List D)
abbrev Sl := List (Option Slot)
def viewN (ρ : Sl) : View := ρ.map fun o => match o with
  | some (.val d) => some d
  | _ => none
def viewB (ρ : Sl) : View := ρ.map fun o => match o with
  | some (.val d) => some d
  | some (.own ds) => some (.lst ds)
  | none => none
def SlotOk {K : PySem.W.Frag} (c : Cn K) (H0 B H : Hp) (σ : L2.St) (i : Nat) : Slot → Prop
  | .val d => ∃ v, σ[i]? = some (some v) ∧ Is c B v d
  | .own ds => ∃ a vs, σ[i]? = some (some (.ref a)) ∧ H a = some (.lst vs) ∧ IsL c B vs ds ∧ B a = none ∧ H0 a = none
/-- the address of an owned list -/
def OwnAt (ρ : Sl) (σ : L2.St) (a : Addr) : Prop := ∃ (i : Nat) (ds : List D), ρ[i]? = some (some (.own ds)) ∧ σ[i]? = some (some (.ref a))
structure Rep {K : PySem.W.Frag} (c : Cn K) (H0 B0 B H : Hp) (σ : L2.St) (ρ : Sl) : Prop where
  p0 : Pre c B0 H0
  st : Step c B0 H0 B H
  len : ρ.length = σ.length
  sl : ∀ (i : Nat) (s : Slot), ρ[i]? = some (some s) → SlotOk c H0 B H σ i s
  inj : ∀ (i j : Nat) (a : Addr) (ds es : List D), ρ[i]? = some (some (.own ds)) → ρ[j]? = some (some (.own es)) → σ[i]? = some (some (.ref a)) → σ[j]? = some (some (.ref a)) → i = j
section
variable {K : PySem.W.Frag} {c : Cn K} {H0 B0 B H B1 H1 Bp : Hp} {σ : L2.St} {ρ : Sl}
theorem viewN_get {i : Nat} {d : D} (h : (viewN ρ)[i]? = some (some d)) : ρ[i]? = some (some (.val d)) := by
  unfold viewN at h
  rw [List.getElem?_map] at h
  cases q : ρ[i]? with
  | none => rw [q] at h; cases h
  | some o =>
    rw [q] at h
    cases o with
    | none => cases h
    | some s =>
      cases s with
      | val d' => cases h; rfl
      | own ds => cases h
theorem viewB_get {i : Nat} {d : D} (h : (viewB ρ)[i]? = some (some d)) : ρ[i]? = some (some (.val d)) ∨ ∃ ds, ρ[i]? = some (some (.own ds)) ∧ d = .lst ds := by
  unfold viewB at h
  rw [List.getElem?_map] at h
  cases q : ρ[i]? with
  | none => rw [q] at h; cases h
  | some o =>
    rw [q] at h
    cases o with
    | none => cases h
    | some s =>
      cases s with
      | val d' => cases h; exact .inl rfl
      | own ds => cases h; exact .inr ⟨ds, rfl, rfl⟩
theorem Rep.pre (r : Rep c H0 B0 B H σ ρ) : Pre c B H := r.st.pre
theorem Rep.viewN (r : Rep c H0 B0 B H σ ρ) : RepV c B σ (viewN ρ) := ⟨by unfold Dv.viewN; rw [List.length_map]; exact r.len, fun i d h => r.sl i _ (viewN_get h)⟩
theorem Rep.ownH (r : Rep c H0 B0 B H σ ρ) {a : Addr} (h : OwnAt ρ σ a) : (∃ vs, H a = some (.lst vs)) ∧ B a = none ∧ H0 a = none := by
  obtain ⟨i, ds, h1, h2⟩ := h
  obtain ⟨a', vs, h3, h4, _, h5, h6⟩ := r.sl i _ h1
  rw [h2] at h3; cases h3
  exact ⟨⟨vs, h4⟩, h5, h6⟩
/-- what is owned is lent -/
structure Lent (c : Cn K) (B H Bp : Hp) (σ : L2.St) (ρ : Sl) : Prop where
  on : ∀ a, OwnAt ρ σ a → Bp a = H a
  off : ∀ a, ¬ OwnAt ρ σ a → Bp a = B a
theorem Rep.lend (r : Rep c H0 B0 B H σ ρ) : ∃ Bp, Pre c Bp H ∧ Same B Bp ∧ Lent c B H Bp σ ρ ∧ RepV c Bp σ (viewB ρ) := by
  classical
  have sm : Same B fun a => if OwnAt ρ σ a then H a else B a := fun a o h => by
    show (if OwnAt ρ σ a then H a else B a) = some o
    by_cases q : OwnAt ρ σ a
    · rw [if_pos q]; exact r.pre.bh a o h
    · rw [if_neg q]; exact h
  refine ⟨fun a => if OwnAt ρ σ a then H a else B a, ⟨fun a o h => ?_, r.pre.inv, fun a m => ?_⟩, sm, ⟨fun a h => if_pos h, fun a h => if_neg h⟩, by unfold viewB; rw [List.length_map]; exact r.len, fun i d h => ?_⟩
  · have h' : (if OwnAt ρ σ a then H a else B a) = some o := h
    by_cases q : OwnAt ρ σ a
    · rw [if_pos q] at h'; exact h'
    · rw [if_neg q] at h'; exact r.pre.bh a o h'
  · show (if OwnAt ρ σ a then H a else B a) = none
    by_cases q : OwnAt ρ σ a
    · exact absurd m (r.p0.nmu (r.ownH q).2.2)
    · rw [if_neg q]; exact r.pre.av a m
  · rcases viewB_get h with hv | ⟨ds, hv, rfl⟩
    · obtain ⟨v, h1, h2⟩ := r.sl i _ hv
      exact ⟨v, h1, h2.mono sm⟩
    · obtain ⟨a, vs, h1, h2, h3, h4, h5⟩ := r.sl i _ hv
      refine ⟨_, h1, .lst ?_ (h3.mono sm)⟩
      show (if OwnAt ρ σ a then H a else B a) = some (.lst vs)
      rw [if_pos ⟨i, ds, hv, h1⟩]; exact h2
/-- behind an expression that lends nothing -/
theorem Rep.goN (r : Rep c H0 B0 B H σ ρ) (s : Step c B H B1 H1) : Rep c H0 B0 B1 H1 σ ρ := by
  refine ⟨r.p0, r.st.trans s, r.len, fun i sl h => ?_, r.inj⟩
  have q := r.sl i sl h
  cases sl with
  | val d => exact let ⟨v, h1, h2⟩ := q; ⟨v, h1, h2.mono s.b⟩
  | own ds =>
    obtain ⟨a, vs, h1, h2, h3, h4, h5⟩ := q
    refine ⟨a, vs, h1, s.out a _ h2 (r.p0.nmu h5) (fun _ z => nomatch z), h3.mono s.b, ?_, h5⟩
    rw [s.dom a (by rw [h2]; exact fun z => nomatch z)]; exact h4
/-- .. that lends: what is owned is taken back -/
theorem Rep.goB (r : Rep c H0 B0 B H σ ρ) (sm : Same B Bp) (l : Lent c B H Bp σ ρ) (s : Step c Bp H B1 H1) :
    ∃ B', Rep c H0 B0 B' H1 σ ρ ∧ Same B B' ∧ (∀ a, ¬ OwnAt ρ σ a → B' a = B1 a) ∧ ∀ a o, B1 a = some o → (∀ xs, o ≠ .lst xs) → B' a = some o := by
  classical
  have nown : ∀ a, OwnAt ρ σ a → (if OwnAt ρ σ a then none else B1 a) = none := fun a h => if_pos h
  have off : ∀ a, ¬ OwnAt ρ σ a → (if OwnAt ρ σ a then none else B1 a) = B1 a := fun a h => if_neg h
  have own1 : ∀ a, OwnAt ρ σ a → ∃ vs, B1 a = some (.lst vs) := fun a h => by
    obtain ⟨⟨vs, e⟩, _⟩ := r.ownH h
    exact ⟨vs, s.b a _ ((l.on a h).trans e)⟩
  have hb : Same B fun a => if OwnAt ρ σ a then none else B1 a := fun a o h => by
    have n : ¬ OwnAt ρ σ a := fun q => by rw [(r.ownH q).2.1] at h; cases h
    exact (off a n).trans (s.b a o (sm a o h))
  have hth : ∀ a, H0 a ≠ none → H a ≠ none := r.st.th
  refine ⟨fun a => if OwnAt ρ σ a then none else B1 a, ⟨r.p0, ⟨fun a o h => hb a o (r.st.b a o h), fun a o h => ?_, fun a h => ?_, fun a o h n z => s.out a o (r.st.out a o h n z) n z, fun a h => s.th a (hth a h), s.inv, fun a m => ?_⟩, r.len, fun i sl h => ?_, r.inj⟩, hb, off, fun a o h z => ?_⟩
  · have h' : (if OwnAt ρ σ a then none else B1 a) = some o := h
    by_cases q : OwnAt ρ σ a
    · rw [if_pos q] at h'; cases h'
    · rw [if_neg q] at h'; exact s.bh a o h'
  · have n : ¬ OwnAt ρ σ a := fun q => h (r.ownH q).2.2
    show (if OwnAt ρ σ a then none else B1 a) = B0 a
    rw [if_neg n, s.dom a (hth a h), l.off a n]
    exact r.st.dom a h
  · show (if OwnAt ρ σ a then none else B1 a) = none
    by_cases q : OwnAt ρ σ a
    · exact if_pos q
    · rw [if_neg q]; exact s.av a m
  · have q := r.sl i sl h
    cases sl with
    | val d => exact let ⟨v, h1, h2⟩ := q; ⟨v, h1, h2.mono hb⟩
    | own ds =>
      obtain ⟨a, vs, h1, h2, h3, h4, h5⟩ := q
      exact ⟨a, vs, h1, s.out a _ h2 (r.p0.nmu h5) (fun _ z => nomatch z), h3.mono hb, nown a ⟨i, ds, h, h1⟩, h5⟩
  · by_cases q : OwnAt ρ σ a
    · obtain ⟨vs, e⟩ := own1 a q
      rw [h] at e; cases e
      exact absurd rfl (z vs)
    · exact (off a q).trans h
/-- the owned lists at the places S are given away -/
def freeze (S : List Nat) (ρ : Sl) : Sl := ρ.mapIdx fun i o => match o with
  | some (.own ds) => if i ∈ S then some (.val (.lst ds)) else some (.own ds)
  | o => o
theorem freeze_get {S : List Nat} {i : Nat} {s : Slot} (h : (freeze S ρ)[i]? = some (some s)) : (ρ[i]? = some (some s) ∧ ∀ ds, s = .own ds → i ∉ S) ∨ (i ∈ S ∧ ∃ ds, ρ[i]? = some (some (.own ds)) ∧ s = .val (.lst ds)) := by
  unfold freeze at h
  rw [List.getElem?_mapIdx] at h
  cases q : ρ[i]? with
  | none => rw [q] at h; cases h
  | some o =>
    rw [q] at h
    cases o with
    | none => cases h
    | some t =>
      cases t with
      | val d => cases h; exact .inl ⟨rfl, fun _ z => nomatch z⟩
      | own ds =>
        by_cases m : i ∈ S
        · simp only [Option.map_some, if_pos m, Option.some.injEq] at h
          exact .inr ⟨m, ds, rfl, h.symm⟩
        · simp only [Option.map_some, if_neg m, Option.some.injEq] at h
          exact .inl ⟨by rw [← h], fun _ _ => m⟩
theorem Rep.give (r : Rep c H0 B0 B H σ ρ) (S : List Nat) : ∃ B', Rep c H0 B0 B' H σ (freeze S ρ) ∧ Same B B' := by
  classical
  let G : Addr → Prop := fun a => ∃ (i : Nat) (ds : List D), i ∈ S ∧ ρ[i]? = some (some (.own ds)) ∧ σ[i]? = some (some (.ref a))
  have gO : ∀ a, G a → OwnAt ρ σ a := fun a ⟨i, ds, _, h1, h2⟩ => ⟨i, ds, h1, h2⟩
  have on : ∀ a, G a → (if G a then H a else B a) = H a := fun a h => if_pos h
  have off : ∀ a, ¬ G a → (if G a then H a else B a) = B a := fun a h => if_neg h
  have sm : Same B fun a => if G a then H a else B a := fun a o h => by
    by_cases q : G a
    · exact (on a q).trans (r.pre.bh a o h)
    · exact (off a q).trans h
  refine ⟨fun a => if G a then H a else B a, ⟨r.p0, ⟨fun a o h => sm a o (r.st.b a o h), fun a o h => ?_, fun a h => ?_, r.st.out, r.st.th, r.st.inv, fun a m => ?_⟩, by unfold freeze; rw [List.length_mapIdx]; exact r.len, fun i s h => ?_, fun i j a ds es h1 h2 h3 h4 => ?_⟩, sm⟩
  · have h' : (if G a then H a else B a) = some o := h
    by_cases q : G a
    · rw [on a q] at h'; exact h'
    · rw [off a q] at h'; exact r.pre.bh a o h'
  · have n : ¬ G a := fun q => h (r.ownH (gO a q)).2.2
    exact (off a n).trans (r.st.dom a h)
  · by_cases q : G a
    · exact absurd m (r.p0.nmu (r.ownH (gO a q)).2.2)
    · exact (off a q).trans (r.pre.av a m)
  · rcases freeze_get h with ⟨h1, h2⟩ | ⟨h1, ds, h2, h3⟩
    · have q := r.sl i s h1
      cases s with
      | val d => exact let ⟨v, e1, e2⟩ := q; ⟨v, e1, e2.mono sm⟩
      | own ds =>
        obtain ⟨a, vs, e1, e2, e3, e4, e5⟩ := q
        have n : ¬ G a := fun ⟨j, es, m, k1, k2⟩ => h2 ds rfl (by rw [r.inj i j a ds es h1 k1 e1 k2]; exact m)
        exact ⟨a, vs, e1, e2, e3.mono sm, (off a n).trans e4, e5⟩
    · subst h3
      obtain ⟨a, vs, e1, e2, e3, e4, e5⟩ := r.sl i _ h2
      exact ⟨_, e1, .lst ((on a ⟨i, ds, h1, h2, e1⟩).trans e2) (e3.mono sm)⟩
  · rcases freeze_get h1 with ⟨k1, _⟩ | ⟨_, _, _, e⟩
    · rcases freeze_get h2 with ⟨k2, _⟩ | ⟨_, _, _, e⟩
      · exact r.inj i j a ds es k1 k2 h3 h4
      · cases e
    · cases e
/-- what leaves the frame by an exception, while something is lent -/
theorem Rep.outB (r : Rep c H0 B0 B H σ ρ) (sm : Same B Bp) (l : Lent c B H Bp σ ρ) (s : Step c Bp H B1 H1) : Step c B0 H0 B1 H1 := by
  refine ⟨fun a o h => s.b a o (sm a o (r.st.b a o h)), s.bh, fun a h => ?_, fun a o h n z => s.out a o (r.st.out a o h n z) n z, fun a h => s.th a (r.st.th a h), s.inv, s.av⟩
  have n : ¬ OwnAt ρ σ a := fun q => h (r.ownH q).2.2
  rw [s.dom a (r.st.th a h), l.off a n]
  exact r.st.dom a h
theorem set_get {α : Type} {l : List α} {i j : Nat} {x y : α} (h : (l.set i x)[j]? = some y) : (j = i ∧ i < l.length ∧ x = y) ∨ (j ≠ i ∧ l[j]? = some y) := by
  by_cases q : j = i
  · subst q
    have hl : j < l.length := by
      have := (List.getElem?_eq_some_iff.mp h).1
      simpa using this
    rw [List.getElem?_set_self hl] at h
    exact .inl ⟨rfl, hl, Option.some.inj h⟩
  · rw [List.getElem?_set_ne (fun z => q z.symm)] at h
    exact .inr ⟨q, h⟩
/-- a name is stored -/
theorem Rep.setV (r : Rep c H0 B0 B H σ ρ) {i : Nat} {v : V} {d : D} (h : Is c B v d) : Rep c H0 B0 B H (σ.set i (some v)) (ρ.set i (some (.val d))) := by
  refine ⟨r.p0, r.st, by rw [List.length_set, List.length_set]; exact r.len, fun j s hj => ?_, fun j k a ds es h1 h2 h3 h4 => ?_⟩
  · rcases set_get hj with ⟨rfl, hl, e⟩ | ⟨n, hj⟩
    · cases e
      exact ⟨v, List.getElem?_set_self (by rw [← r.len]; exact hl), h⟩
    · have q := r.sl j s hj
      cases s with
      | val d' => exact let ⟨u, h1, h2⟩ := q; ⟨u, by rw [List.getElem?_set_ne (fun z => n z.symm)]; exact h1, h2⟩
      | own ds => exact let ⟨a, vs, h1, h2⟩ := q; ⟨a, vs, by rw [List.getElem?_set_ne (fun z => n z.symm)]; exact h1, h2⟩
  · rcases set_get h1 with ⟨_, _, e⟩ | ⟨n1, h1⟩
    · cases e
    · rcases set_get h2 with ⟨_, _, e⟩ | ⟨n2, h2⟩
      · cases e
      · rw [List.getElem?_set_ne (fun z => n1 z.symm)] at h3
        rw [List.getElem?_set_ne (fun z => n2 z.symm)] at h4
        exact r.inj j k a ds es h1 h2 h3 h4
theorem Rep.setO (r : Rep c H0 B0 B H σ ρ) {i : Nat} {a : Addr} {vs : List V} {ds : List D} (h1 : H a = some (.lst vs)) (h2 : IsL c B vs ds) (h3 : B a = none) (h4 : H0 a = none) (h5 : ∀ j ds', j ≠ i → ρ[j]? = some (some (.own ds')) → σ[j]? ≠ some (some (.ref a))) :
    Rep c H0 B0 B H (σ.set i (some (.ref a))) (ρ.set i (some (.own ds))) := by
  refine ⟨r.p0, r.st, by rw [List.length_set, List.length_set]; exact r.len, fun j s hj => ?_, fun j k a' ds' es' q1 q2 q3 q4 => ?_⟩
  · rcases set_get hj with ⟨rfl, hl, e⟩ | ⟨n, hj⟩
    · cases e
      exact ⟨a, vs, List.getElem?_set_self (by rw [← r.len]; exact hl), h1, h2, h3, h4⟩
    · have q := r.sl j s hj
      cases s with
      | val d' => exact let ⟨u, h1, h2⟩ := q; ⟨u, by rw [List.getElem?_set_ne (fun z => n z.symm)]; exact h1, h2⟩
      | own ds => exact let ⟨a, vs, h1, h2⟩ := q; ⟨a, vs, by rw [List.getElem?_set_ne (fun z => n z.symm)]; exact h1, h2⟩
  · rcases set_get q1 with ⟨e1, l1, _⟩ | ⟨n1, q6⟩
    · rcases set_get q2 with ⟨e2, _, _⟩ | ⟨n2, q5⟩
      · rw [e1, e2]
      · rw [List.getElem?_set_ne (fun z => n2 z.symm)] at q4
        rw [e1, List.getElem?_set_self (by rw [← r.len]; exact l1)] at q3
        cases q3
        exact absurd q4 (h5 k es' n2 q5)
    · rw [List.getElem?_set_ne (fun z => n1 z.symm)] at q3
      rcases set_get q2 with ⟨e2, l2, _⟩ | ⟨n2, q5⟩
      · rw [e2, List.getElem?_set_self (by rw [← r.len]; exact l2)] at q4
        cases q4
        exact absurd q3 (h5 j ds' n1 q6)
      · rw [List.getElem?_set_ne (fun z => n2 z.symm)] at q4
        exact r.inj j k a' ds' es' q6 q5 q3 q4
end

/-! ### statements -/
structure Ks where
  nx : Sl → Prop
  rt : Rv → Prop
  bk : Sl → Prop
  ct : Sl → Prop
abbrev DS := Sl → Ks → (Exn → Prop) → Prop
structure KLe (k k' : Ks) : Prop where
  nx : ∀ ρ, k.nx ρ → k'.nx ρ
  rt : ∀ r, k.rt r → k'.rt r
  bk : ∀ ρ, k.bk ρ → k'.bk ρ
  ct : ∀ ρ, k.ct ρ → k'.ct ρ
theorem KLe.refl (k : Ks) : KLe k k := ⟨fun _ h => h, fun _ h => h, fun _ h => h, fun _ h => h⟩
def MnS (f : DS) : Prop := ∀ ρ (k k' : Ks) (E E' : Exn → Prop), KLe k k' → (∀ x, E x → E' x) → f ρ k E → f ρ k' E'
def KS {K : PySem.W.Frag} (c : Cn K) (H0 B0 Bs : Hp) (D : Ends) : Ks :=
  ⟨fun ρ => ∀ σ B H, Rep c H0 B0 B H σ ρ → Same Bs B → D.nx σ H, fun r => ∀ v B H, Step c B0 H0 B H → RvOk c H0 B H v r → D.rt v H,
   fun ρ => ∀ σ B H, Rep c H0 B0 B H σ ρ → Same Bs B → D.bk σ H, fun ρ => ∀ σ B H, Rep c H0 B0 B H σ ρ → Same Bs B → D.ct σ H⟩
def tS {K : PySem.W.Frag} (c : Cn K) (W : WX) (f : DS) : TS := fun D σ H => ∃ H0 B0 B ρ, Rep c H0 B0 B H σ ρ ∧ f ρ (KS c H0 B0 B D) (XK c W B0 H0)
structure SS (X : Cx) (c : Cn X.K) (W : WX) (st : Stmt) (f : DS) : Prop where
  mn : MnS f
  ps : PS X st (tS c W f)
structure SB (X : Cx) (c : Cn X.K) (W : WX) (sts : List Stmt) (f : DS) : Prop where
  mn : MnS f
  ps : PSs X sts (tS c W f)

theorem KS.mono {K : PySem.W.Frag} {c : Cn K} {H0 B0 B B' : Hp} {D : Ends} (s : Same B B') : KLe (KS c H0 B0 B D) (KS c H0 B0 B' D) :=
  ⟨fun _ h σ B H r s' => h σ B H r fun a o e => s' a o (s a o e), fun _ h => h, fun _ h σ B H r s' => h σ B H r fun a o e => s' a o (s a o e), fun _ h σ B H r s' => h σ B H r fun a o e => s' a o (s a o e)⟩
section
variable {X : Cx} {c : Cn X.K} {W : WX} {e a b : Expr} {es : List Expr} {pos : Pos} {f g : DS} {j k : Nat}
def sNil : DS := fun ρ k _ => k.nx ρ
def sCons (f g : DS) : DS := fun ρ k E => f ρ { k with nx := fun ρ' => g ρ' k E } E
theorem Same.refl (H : Hp) : Same H H := fun _ _ h => h
theorem sb_nil : SB X c W [] sNil :=
  ⟨fun ρ k k' E E' hk _ h => hk.nx ρ h, wkSs pss_nil fun D σ H ⟨H0, B0, B, ρ, r, q⟩ => q σ B H r (Same.refl B)⟩
theorem sb_cons {st : Stmt} {sts : List Stmt} (h1 : SS X c W st f) (h2 : SB X c W sts g) : SB X c W (st :: sts) (sCons f g) := by
  refine ⟨fun ρ k k' E E' hk hE q => h1.mn ρ { k with nx := fun ρ' => g ρ' k E } { k' with nx := fun ρ' => g ρ' k' E' } E E' ⟨fun ρ' q => h2.mn ρ' k k' E E' hk hE q, hk.rt, hk.bk, hk.ct⟩ hE q, wkSs (pss_cons h1.ps h2.ps) ?_⟩
  rintro D σ H ⟨H0, B0, B, ρ, r, q⟩
  refine ⟨H0, B0, B, ρ, r, h1.mn ρ { KS c H0 B0 B D with nx := fun ρ' => g ρ' (KS c H0 B0 B D) (XK c W B0 H0) } _ _ _ ⟨fun ρ' q σ' B' H' r' s' => ⟨H0, B0, B', ρ', r', h2.mn _ _ _ _ _ (KS.mono s') (fun _ h => h) q⟩, fun _ h => h, fun _ h => h, fun _ h => h⟩ (fun _ h => h) q⟩
theorem ss_pass : SS X c W (.Pass pos) sNil := ⟨fun ρ k k' E E' hk _ h => hk.nx ρ h, wkS ps_pass fun D σ H ⟨H0, B0, B, ρ, r, q⟩ => q σ B H r (Same.refl B)⟩
def sBrk : DS := fun ρ k _ => k.bk ρ
def sCnt : DS := fun ρ k _ => k.ct ρ
theorem ss_brk : SS X c W (.Break pos) sBrk := ⟨fun ρ k k' E E' hk _ h => hk.bk ρ h, wkS ps_break fun D σ H ⟨H0, B0, B, ρ, r, q⟩ => q σ B H r (Same.refl B)⟩
theorem ss_cnt : SS X c W (.Continue pos) sCnt := ⟨fun ρ k k' E E' hk _ h => hk.ct ρ h, wkS ps_continue fun D σ H ⟨H0, B0, B, ρ, r, q⟩ => q σ B H r (Same.refl B)⟩
/-- a statement behind which the names at S hold no list alone -/
def sFz (S : List Nat) (f : DS) : DS := fun ρ k E => f (freeze S ρ) k E
theorem ss_fz (S : List Nat) {st : Stmt} (h : SS X c W st f) : SS X c W st (sFz S f) := by
  refine ⟨fun ρ k k' E E' hk hE q => h.mn _ k k' E E' hk hE q, wkS h.ps ?_⟩
  rintro D σ H ⟨H0, B0, B, ρ, r, q⟩
  obtain ⟨B', r', s'⟩ := r.give S
  exact ⟨H0, B0, B', _, r', h.mn _ _ _ _ _ (KS.mono s') (fun _ h => h) q⟩
/-- how an expression's result meets the frame -/
theorem XK.rep {K : PySem.W.Frag} {c : Cn K} {W : WX} {H0 B0 B H Bp : Hp} {σ : L2.St} {ρ : Sl} (r : Rep c H0 B0 B H σ ρ) (sm : Same B Bp) (l : Lent c B H Bp σ ρ) {x : Exn} (h : XK c W B0 H0 x) : XK c W Bp H x :=
  fun cls d σ' B' H' s xo => h cls d σ' B' H' (r.outB sm l s) xo
theorem XK.repN {K : PySem.W.Frag} {c : Cn K} {W : WX} {H0 B0 B H : Hp} {σ : L2.St} {ρ : Sl} (r : Rep c H0 B0 B H σ ρ) {x : Exn} (h : XK c W B0 H0 x) : XK c W B H x :=
  fun cls d σ' B' H' s xo => h cls d σ' B' H' (r.st.trans s) xo
/-- e as a statement -/
def sExpr (f : DV) : DS := fun ρ k E => f (viewB ρ) (fun _ => k.nx ρ) E
theorem ss_expr {f : DV} (h : EV X c W e f) (hs : swapsWith e none pos.line X.env = pure false := by rfl) : SS X c W (.Expr e pos) (sExpr f) := by
  refine ⟨fun ρ k k' E E' hk hE q => h.mn _ _ _ E E' (fun _ => hk.nx ρ) hE q, wkS (ps_expr h.pe hs) ?_⟩
  rintro D σ H ⟨H0, B0, B, ρ, r, q⟩
  obtain ⟨Bp, pp, sm, l, rv⟩ := r.lend
  refine ⟨Bp, _, pp, rv, h.mn _ _ _ _ _ (fun d hd v B1 H1 s i => ?_) (fun x hx => hx.rep r sm l) q⟩
  obtain ⟨B', r', s', _⟩ := r.goB sm l s
  exact hd σ B' H1 r' s'
/-- x = e: a value; N: nothing owned is read; B: the value has no list -/
def sSetN (i : Nat) (f : DV) : DS := fun ρ k E => f (viewN ρ) (fun d => k.nx (ρ.set i (some (.val d)))) E
def sSetB (i : Nat) (f : DV) : DS := fun ρ k E => f (viewB ρ) (fun d => d.lf = true ∧ k.nx (ρ.set i (some (.val d)))) E
theorem setN_ok {f : DV} {i : Nat} (h : EV X c W e f) : MnS (sSetN i f) ∧ ∀ D σ H, tS c W (sSetN i f) D σ H → tAsg (tV c W f) (gName i) D σ H := by
  refine ⟨fun ρ k k' E E' hk hE q => h.mn _ _ _ E E' (fun d => hk.nx _) hE q, ?_⟩
  rintro D σ H ⟨H0, B0, B, ρ, r, q⟩
  refine ⟨B, _, r.pre, r.viewN, h.mn _ _ _ _ _ (fun d hd v B1 H1 s i1 => ?_) (fun x hx => hx.repN r) q⟩
  exact hd _ B1 H1 ((r.goN s).setV i1) s.b
theorem setB_ok {f : DV} {i : Nat} (h : EV X c W e f) : MnS (sSetB i f) ∧ ∀ D σ H, tS c W (sSetB i f) D σ H → tAsg (tV c W f) (gName i) D σ H := by
  refine ⟨fun ρ k k' E E' hk hE q => h.mn _ _ _ E E' (fun d q => ⟨q.1, hk.nx _ q.2⟩) hE q, ?_⟩
  rintro D σ H ⟨H0, B0, B, ρ, r, q⟩
  obtain ⟨Bp, pp, sm, l, rv⟩ := r.lend
  refine ⟨Bp, _, pp, rv, h.mn _ _ _ _ _ (fun d hd v B1 H1 s i1 => ?_) (fun x hx => hx.rep r sm l) q⟩
  obtain ⟨B', r', s', _, kp⟩ := r.goB sm l s
  exact hd.2 _ B' H1 (r'.setV (i1.but kp hd.1)) s'
/-- x = a new list, x's own -/
def sOwnN (i : Nat) (f : DR) : DS := fun ρ k E => f (viewN ρ) (fun r => ∃ ds, r = .new ds ∧ k.nx (ρ.set i (some (.own ds)))) E
def sOwnB (i : Nat) (f : DR) : DS := fun ρ k E => f (viewB ρ) (fun r => ∃ ds, r = .new ds ∧ D.lf.lfL ds = true ∧ k.nx (ρ.set i (some (.own ds)))) E
theorem fresh0 {K : PySem.W.Frag} {c : Cn K} {B0 H0 B H : Hp} (s : Step c B0 H0 B H) {a : Addr} (h : H a = none) : H0 a = none := by
  cases z : H0 a with
  | none => rfl
  | some o => exact absurd h (s.th a (by rw [z]; exact fun z => nomatch z))
theorem ownN_ok {f : DR} {i : Nat} (h : ER X c W e f) : MnS (sOwnN i f) ∧ ∀ D σ H, tS c W (sOwnN i f) D σ H → tAsg (tR c W f) (gName i) D σ H := by
  refine ⟨fun ρ k k' E E' hk hE q => h.mn _ _ _ E E' (fun d ⟨ds, h1, h2⟩ => ⟨ds, h1, hk.nx _ h2⟩) hE q, ?_⟩
  rintro D σ H ⟨H0, B0, B, ρ, r, q⟩
  refine ⟨B, _, r.pre, r.viewN, h.mn _ _ _ _ _ (fun d hd v B1 H1 s ro => ?_) (fun x hx => hx.repN r) q⟩
  obtain ⟨ds, rfl, hd⟩ := hd
  obtain ⟨a, vs, rfl, h1, h2, h3, h4⟩ := ro
  refine hd _ B1 H1 ((r.goN s).setO h1 h2 h3 (fresh0 r.st h4) fun j' ds' n q1 q2 => ?_) s.b
  obtain ⟨⟨us, e⟩, _⟩ := r.ownH ⟨j', ds', q1, q2⟩
  rw [h4] at e; cases e
theorem ownB_ok {f : DR} {i : Nat} (h : ER X c W e f) : MnS (sOwnB i f) ∧ ∀ D σ H, tS c W (sOwnB i f) D σ H → tAsg (tR c W f) (gName i) D σ H := by
  refine ⟨fun ρ k k' E E' hk hE q => h.mn _ _ _ E E' (fun d ⟨ds, h1, h2, h3⟩ => ⟨ds, h1, h2, hk.nx _ h3⟩) hE q, ?_⟩
  rintro D σ H ⟨H0, B0, B, ρ, r, q⟩
  obtain ⟨Bp, pp, sm, l, rv⟩ := r.lend
  refine ⟨Bp, _, pp, rv, h.mn _ _ _ _ _ (fun d hd v B1 H1 s ro => ?_) (fun x hx => hx.rep r sm l) q⟩
  obtain ⟨ds, rfl, hl, hd⟩ := hd
  obtain ⟨a, vs, rfl, h1, h2, h3, h4⟩ := ro
  obtain ⟨B', r', s', off, kp⟩ := r.goB sm l s
  have na : ¬ OwnAt ρ σ a := fun z => by
    obtain ⟨⟨us, e⟩, _⟩ := r.ownH z
    rw [h4] at e; cases e
  exact hd _ B' H1 (r'.setO h1 (h2.but kp hl) ((off a na).trans h3) (fresh0 r.st h4) fun j' ds' n q1 q2 => na ⟨j', ds', q1, q2⟩) s'
theorem ss_set {f : DS} {te : TE} {i : Nat} {x : Str} {pos' : Pos} (hok : MnS f ∧ ∀ D σ H, tS c W f D σ H → tAsg te (gName i) D σ H) (he : PE X e te) (hN : X.N.Nodup) (hi : X.N[i]? = some x := by rfl) (hx : Loc X.env.scope x := by first | exact Or.inl rfl | exact Or.inr rfl)
    (hs : swapsWith e (some (.Name x pos')) pos.line X.env = pure false := by rfl) (hf : X.fn x = true ∨ X.env.scope.names.lookup x = some .local := by first | exact .inl rfl | exact .inr rfl) : SS X c W (.Assign [.Name x pos'] e pos) f :=
  ⟨hok.1, wkS (ps_set hN hi hx he hs hf) hok.2⟩
theorem ss_setN {f : DV} {i : Nat} {x : Str} {pos' : Pos} (m : Fm X W j) (h : EV X c W e f) (hi : X.N[i]? = some x := by rfl) (hx : Loc X.env.scope x := by first | exact Or.inl rfl | exact Or.inr rfl)
    (hs : swapsWith e (some (.Name x pos')) pos.line X.env = pure false := by rfl) (hf : X.fn x = true ∨ X.env.scope.names.lookup x = some .local := by first | exact .inl rfl | exact .inr rfl) : SS X c W (.Assign [.Name x pos'] e pos) (sSetN i f) := ss_set (setN_ok h) h.pe m.nd hi hx hs hf
theorem ss_setB {f : DV} {i : Nat} {x : Str} {pos' : Pos} (m : Fm X W j) (h : EV X c W e f) (hi : X.N[i]? = some x := by rfl) (hx : Loc X.env.scope x := by first | exact Or.inl rfl | exact Or.inr rfl)
    (hs : swapsWith e (some (.Name x pos')) pos.line X.env = pure false := by rfl) (hf : X.fn x = true ∨ X.env.scope.names.lookup x = some .local := by first | exact .inl rfl | exact .inr rfl) : SS X c W (.Assign [.Name x pos'] e pos) (sSetB i f) := ss_set (setB_ok h) h.pe m.nd hi hx hs hf
theorem ss_ownN {f : DR} {i : Nat} {x : Str} {pos' : Pos} (m : Fm X W j) (h : ER X c W e f) (hi : X.N[i]? = some x := by rfl) (hx : Loc X.env.scope x := by first | exact Or.inl rfl | exact Or.inr rfl)
    (hs : swapsWith e (some (.Name x pos')) pos.line X.env = pure false := by rfl) (hf : X.fn x = true ∨ X.env.scope.names.lookup x = some .local := by first | exact .inl rfl | exact .inr rfl) : SS X c W (.Assign [.Name x pos'] e pos) (sOwnN i f) := ss_set (ownN_ok h) h.pe m.nd hi hx hs hf
theorem ss_ownB {f : DR} {i : Nat} {x : Str} {pos' : Pos} (m : Fm X W j) (h : ER X c W e f) (hi : X.N[i]? = some x := by rfl) (hx : Loc X.env.scope x := by first | exact Or.inl rfl | exact Or.inr rfl)
    (hs : swapsWith e (some (.Name x pos')) pos.line X.env = pure false := by rfl) (hf : X.fn x = true ∨ X.env.scope.names.lookup x = some .local := by first | exact .inl rfl | exact .inr rfl) : SS X c W (.Assign [.Name x pos'] e pos) (sOwnB i f) := ss_set (ownB_ok h) h.pe m.nd hi hx hs hf
/-- if -/
def sIf (t : DB) (f g : DS) : DS := fun ρ k E => t (viewB ρ) (fun b => (b = true → f ρ k E) ∧ (b = false → g ρ k E)) E
theorem ss_if {t : DB} {x : Expr} {sa sb : List Stmt} (ht : EB X c W x t) (ha : SB X c W sa f) (hb : SB X c W sb g) : SS X c W (.If x sa sb pos) (sIf t f g) := by
  refine ⟨fun ρ k k' E E' hk hE q => ht.mn _ _ _ E E' (fun b q => ⟨fun z => ha.mn _ _ _ _ _ hk hE (q.1 z), fun z => hb.mn _ _ _ _ _ hk hE (q.2 z)⟩) hE q, wkS (ps_if ht.pt ha.ps hb.ps) ?_⟩
  rintro D σ H ⟨H0, B0, B, ρ, r, q⟩
  obtain ⟨Bp, pp, sm, l, rv⟩ := r.lend
  refine ⟨Bp, _, pp, rv, ht.mn _ _ _ _ _ (fun t hd B1 H1 s => ?_) (fun x hx => hx.rep r sm l) q⟩
  obtain ⟨B', r', s', _⟩ := r.goB sm l s
  cases t with
  | true => rw [if_pos rfl]; exact ⟨H0, B0, B', ρ, r', ha.mn _ _ _ _ _ (KS.mono s') (fun _ h => h) (hd.1 rfl)⟩
  | false => rw [if_neg Bool.false_ne_true]; exact ⟨H0, B0, B', ρ, r', hb.mn _ _ _ _ _ (KS.mono s') (fun _ h => h) (hd.2 rfl)⟩
/-- return -/
def sRetN (f : DR) : DS := fun ρ k E => f (viewN ρ) (fun r => k.rt r) E
/-- .. what is owned may be read: it is given away with the frame -/
def sRetB (f : DR) : DS := fun ρ k E => f (viewB ρ) (fun r => k.rt r) E
theorem ss_retB {f : DR} (h : ER X c W e f) : SS X c W (.Return (some e) pos) (sRetB f) := by
  refine ⟨fun ρ k k' E E' hk hE q => h.mn _ _ _ E E' (fun r => hk.rt r) hE q, wkS (ps_ret h.pe) ?_⟩
  rintro D σ H ⟨H0, B0, B, ρ, r, q⟩
  obtain ⟨Bp, pp, sm, l, rv⟩ := r.lend
  exact ⟨Bp, _, pp, rv, h.mn _ _ _ _ _ (fun d hd v B1 H1 s ro => hd v B1 H1 (r.outB sm l s) (ro.up r.st)) (fun x hx => hx.rep r sm l) q⟩
def sRetNone : DS := fun _ k _ => k.rt (.val .non)
theorem ss_retNone : SS X c W (.Return none pos) sRetNone :=
  ⟨fun ρ k k' E E' hk _ h => hk.rt _ h, wkS ps_retN fun D σ H ⟨H0, B0, B, ρ, r, q⟩ => q .non B H r.st (rv_val .non)⟩
/-- return x, x's own list -/
def sRetO (i : Nat) : DS := fun ρ k _ => ∃ ds, ρ[i]? = some (some (.own ds)) ∧ k.rt (.new ds)
theorem ss_retO {i : Nat} {x : Str} {p : Pos} (hN : X.N[i]? = some x := by rfl) (hv : Vis X.env.scope x := by first | exact Or.inl rfl | exact Or.inr (Or.inl rfl) | exact Or.inr (Or.inr rfl)) (hd : (x == ("__debug__" : Str)) = false := by decide)
    (hcd : (x == ("__classdict__" : Str)) = false := by decide) : SS X c W (.Return (some (.Name x p)) pos) (sRetO i) := by
  refine ⟨fun ρ k k' E E' hk hE ⟨ds, h1, h2⟩ => ⟨ds, h1, hk.rt _ h2⟩, wkS (ps_ret (pe_var hN hv hd hcd)) ?_⟩
  rintro D σ H ⟨H0, B0, B, ρ, r, ds, h1, h2⟩
  obtain ⟨a, vs, q1, q2, q3, q4, q5⟩ := r.sl i _ h1
  exact ⟨_, q1, h2 _ B H r.st (rv_new q2 q3 q4 q5)⟩
/-- while -/
def whN (t : DB) (f : DS) : Nat → DS
  | 0 => fun _ _ _ => False
  | n + 1 => fun ρ k E => t (viewB ρ) (fun b => (b = true → f ρ ⟨fun ρ' => whN t f n ρ' k E, k.rt, k.nx, fun ρ' => whN t f n ρ' k E⟩ E) ∧ (b = false → k.nx ρ)) E
def sWhile (t : DB) (f : DS) : DS := fun ρ k E => ∃ n, whN t f n ρ k E
theorem whN_mn {t : DB} (ht : Mn t) (hf : MnS f) : ∀ n, MnS (whN t f n)
  | 0 => fun _ _ _ _ _ _ _ q => q
  | n + 1 => fun ρ k k' E E' hk hE q => ht _ _ _ E E' (fun b q => ⟨fun z => hf ρ ⟨fun ρ' => whN t f n ρ' k E, k.rt, k.nx, fun ρ' => whN t f n ρ' k E⟩ ⟨fun ρ' => whN t f n ρ' k' E', k'.rt, k'.nx, fun ρ' => whN t f n ρ' k' E'⟩ E E' ⟨fun ρ' q => whN_mn ht hf n ρ' k k' E E' hk hE q, hk.rt, hk.nx, fun ρ' q => whN_mn ht hf n ρ' k k' E E' hk hE q⟩ hE (q.1 z), fun z => hk.nx _ (q.2 z)⟩) hE q
theorem ss_while {t : DB} {x : Expr} {body : List Stmt} (m : Fm X W j) (ht : EB X c W x t) (hb : SB X c W body f) : SS X c W (.While x body [] pos) (sWhile t f) := by
  refine ⟨fun ρ k k' E E' hk hE ⟨n, q⟩ => ⟨n, whN_mn ht.mn hb.mn n ρ k k' E E' hk hE q⟩, wkS (ps_while m.po ht.pt hb.ps) ?_⟩
  rintro D σ H ⟨H0, B0, Bs, ρ, r, n, q⟩
  refine ⟨fun m σ H => ∃ B ρ, Rep c H0 B0 B H σ ρ ∧ Same Bs B ∧ whN t f m ρ (KS c H0 B0 Bs D) (Dv.XK c W B0 H0), ⟨n, Bs, ρ, r, Same.refl Bs, q⟩, ?_⟩
  rintro m σ H ⟨B, ρ, r, sb, q⟩
  cases m with
  | zero => exact q.elim
  | succ m =>
    obtain ⟨Bp, pp, sm, l, rv⟩ := r.lend
    refine ⟨Bp, _, pp, rv, ht.mn _ _ _ _ _ (fun t' hd B1 H1 s => ?_) (fun x hx => hx.rep r sm l) q⟩
    obtain ⟨B', r', s', _⟩ := r.goB sm l s
    have sb' : Same Bs B' := fun a o e => s' a o (sb a o e)
    cases t' with
    | true =>
      rw [if_pos rfl]
      refine ⟨fun σ H => ∃ B ρ, Rep c H0 B0 B H σ ρ ∧ Same Bs B ∧ whN t f m ρ (KS c H0 B0 Bs D) (Dv.XK c W B0 H0), fun σ' H' h => ⟨m, Nat.lt_succ_self m, h⟩, H0, B0, B', ρ, r', hb.mn ρ ⟨fun ρ' => whN t f m ρ' (KS c H0 B0 Bs D) (Dv.XK c W B0 H0), (KS c H0 B0 Bs D).rt, (KS c H0 B0 Bs D).nx, fun ρ' => whN t f m ρ' (KS c H0 B0 Bs D) (Dv.XK c W B0 H0)⟩ _ _ _
        ⟨fun ρ' q σ' B' H' r' z => ⟨B', ρ', r', fun a o e => z a o (sb' a o e), q⟩, fun _ h => h, fun ρ' q σ' B' H' r' z => q σ' B' H' r' fun a o e => z a o (sb' a o e), fun ρ' q σ' B' H' r' z => ⟨B', ρ', r', fun a o e => z a o (sb' a o e), q⟩⟩ (fun _ h => h) (hd.1 rfl)⟩
    | false =>
      rw [if_neg Bool.false_ne_true]
      exact hd.2 rfl σ B' H1 r' sb'
end
end Dv

set_option Elab.async false
set_option linter.all false
set_option maxRecDepth 100000
set_option maxHeartbeats 2000000
namespace Dv
open PySem PySem.Spec PyProof.Rows L2

section
variable {K : PySem.W.Frag} {c : Cn K} {H0 B0 B H B1 H1 Bp : Hp} {σ : L2.St} {ρ : Sl}
/-- an owned list is changed -/
theorem Rep.mut (r : Rep c H0 B0 B H σ ρ) {i : Nat} {a : Addr} {vs : List V} {ds ds' : List D} (h : ρ[i]? = some (some (.own ds))) (hs : σ[i]? = some (some (.ref a))) (hi : IsL c B vs ds') : Rep c H0 B0 B (upd H a (.lst vs)) σ (ρ.set i (some (.own ds'))) := by
  obtain ⟨a', vs0, h1, h2, h3, h4, h5⟩ := r.sl i _ h
  rw [hs] at h1; cases h1
  have ha : ∀ b o, B b = some o → b ≠ a := fun b o e z => by rw [z, h4] at e; cases e
  have h0 : ∀ b, H0 b ≠ none → b ≠ a := fun b e z => e (by rw [z]; exact h5)
  have hil : i < ρ.length := (List.getElem?_eq_some_iff.mp h).1
  refine ⟨r.p0, ⟨r.st.b, fun b o e => ?_, r.st.dom, fun b o e n z => ?_, fun b e => ?_, ?_, r.st.av⟩, by rw [List.length_set]; exact r.len, fun j s hj => ?_, fun j k b es fs q1 q2 q3 q4 => ?_⟩
  · rw [upd_ne (ha b o e)]; exact r.pre.bh b o e
  · rw [upd_ne (h0 b (by rw [e]; exact fun z => nomatch z))]; exact r.st.out b o e n z
  · rw [upd_ne (h0 b e)]; exact r.st.th b e
  · exact c.loc _ _ (fun b o m e => by rw [upd_ne (fun z => r.p0.nmu h5 (by rw [← z]; exact m))]; exact e) r.st.inv
  · rcases set_get hj with ⟨rfl, hl, e⟩ | ⟨n, hj⟩
    · cases e
      exact ⟨a, vs, hs, upd_same, hi, h4, h5⟩
    · have q := r.sl j s hj
      cases s with
      | val d => exact q
      | own es =>
        obtain ⟨b, us, e1, e2, e3, e4, e5⟩ := q
        have nb : b ≠ a := fun z => n (r.inj j i a es ds hj h (by rw [← z]; exact e1) hs)
        exact ⟨b, us, e1, by rw [upd_ne nb]; exact e2, e3, e4, e5⟩
  · have g : ∀ (j : Nat) (es : List D), (ρ.set i (some (.own ds')))[j]? = some (some (.own es)) → ∃ es', ρ[j]? = some (some (.own es')) := fun j es q => by
      rcases set_get q with ⟨rfl, _, _⟩ | ⟨_, q⟩
      · exact ⟨ds, h⟩
      · exact ⟨es, q⟩
    obtain ⟨es', k1⟩ := g j es q1
    obtain ⟨fs', k2⟩ := g k fs q2
    exact r.inj j k b es' fs' k1 k2 q3 q4
/-- a list that the frame made is taken for good -/
theorem Rep.keepNew (r : Rep c H0 B0 B H σ ρ) {a : Addr} {vs : List V} (h1 : H a = some (.lst vs)) (h3 : B a = none) (h4 : H0 a = none) (na : ¬ OwnAt ρ σ a) : Rep c H0 B0 (upd B a (.lst vs)) H σ ρ := by
  have sm : Same B (upd B a (.lst vs)) := Same.new h3
  refine ⟨r.p0, r.st.keep h4 r.p0 h1 h3, r.len, fun j s hj => ?_, r.inj⟩
  have q := r.sl j s hj
  cases s with
  | val d => exact let ⟨v, e1, e2⟩ := q; ⟨v, e1, e2.mono sm⟩
  | own es =>
    obtain ⟨b, us, e1, e2, e3, e4, e5⟩ := q
    exact ⟨b, us, e1, e2, e3.mono sm, by rw [upd_ne (fun z => na ⟨j, es, hj, by rw [← z]; exact e1⟩)]; exact e4, e5⟩
end

section
variable {X : Cx} {c : Cn X.K} {W : WX} {e a b : Expr} {es : List Expr} {pos p apos cpos : Pos} {f g : DV} {j k : Nat}
theorem own_ty {K : PySem.W.Frag} {H : Hp} {a : Addr} {vs : List V} (h : H a = some (.lst vs)) : tyV K "list" (.ref a) H := Or.inl ⟨rfl, _, Or.inl (Or.inl h)⟩
/-- what a method's call of one argument asks of its own shape -/
structure M1Ok (X : Cx) (e : Expr) (apos cpos : Pos) : Prop where
  few : ((backTo cpos (starEach [e] X.env)).all (fun x => !x.1) && (backToKw cpos (keywordEach [] X.env)).all (fun x => x.1.isSome) && decide ([e].length + ([] : List Keyword).length + (if ([] : List Keyword).isEmpty then 0 else 1) < 30)) = true
  line : (apos.endLine == cpos.line) = true
  st : starEach [e] X.env = (false, eval e X.env) :: starEach [] X.env
/-- x.append(e) -/
def sAppN (i : Nat) (f : DV) : DS := fun ρ k E => ∃ ds, ρ[i]? = some (some (.own ds)) ∧ f (viewN ρ) (fun d => ds.length < sizeLine ∧ k.nx (ρ.set i (some (.own (ds ++ [d]))))) E
def sAppB (i : Nat) (f : DV) : DS := fun ρ k E => ∃ ds, ρ[i]? = some (some (.own ds)) ∧ f (viewB ρ) (fun d => ds.length < sizeLine ∧ d.lf = true ∧ k.nx (ρ.set i (some (.own (ds ++ [d]))))) E
theorem pe_app {x : Str} {te : TE} {i : Nat} (hx : PE X (.Name x p) (tVar i)) (he : PE X e te) (hs : M1Ok X e apos cpos) :
    PE X (.Call (.Attribute (.Name x p) "append" apos) [e] [] cpos) (tBM X.K "list" rAppend (tVar i) (tCons te tNil)) :=
  pe_bm PySem.F.plainAttrs_list PySem.F.slot_list_append PySem.F.type_list_append mt_append hx (pa_cons he pa_nil hs.st) rfl hs.few hs.line hs.st rfl
theorem ss_appN {x : Str} {i : Nat} (hN : X.N[i]? = some x := by rfl) (hv : Vis X.env.scope x := by first | exact Or.inl rfl | exact Or.inr (Or.inl rfl) | exact Or.inr (Or.inr rfl)) (he : EV X c W e f) (hd : (x == ("__debug__" : Str)) = false := by decide)
    (hcd : (x == ("__classdict__" : Str)) = false := by decide) (hs : M1Ok X e apos cpos := by exact ⟨rfl, rfl, rfl⟩) (hw : swapsWith (.Call (.Attribute (.Name x p) "append" apos) [e] [] cpos) none pos.line X.env = pure false := by rfl) :
    SS X c W (.Expr (.Call (.Attribute (.Name x p) "append" apos) [e] [] cpos) pos) (sAppN i f) := by
  refine ⟨fun ρ k k' E E' hk hE ⟨ds, h1, h2⟩ => ⟨ds, h1, he.mn _ _ _ E E' (fun d q => ⟨q.1, hk.nx _ q.2⟩) hE h2⟩, wkS (ps_expr (pe_app (pe_var hN hv hd hcd) he.pe hs) hw) ?_⟩
  rintro D σ H ⟨H0, B0, B, ρ, r, ds, h1, q⟩
  obtain ⟨a, vs, e1, e2, e3, e4, e5⟩ := r.sl i _ h1
  refine ⟨_, e1, own_ty e2, B, _, r.pre, r.viewN, he.mn _ _ _ _ _ (fun d hd v B1 H1 s i1 => ?_) (fun x hx => hx.repN r) q⟩
  have r1 := r.goN s
  obtain ⟨a', vs', k1, k2, k3, k4, k5⟩ := r1.sl i _ h1
  rw [e1] at k1; cases k1
  refine ⟨a, vs', v, rfl, rfl, k2, by rw [k3.length]; exact hd.1, ?_⟩
  exact hd.2 σ B1 _ (r1.mut h1 e1 (k3.append (.cons i1 .nil))) s.b
theorem ss_appB {x : Str} {i : Nat} (hN : X.N[i]? = some x := by rfl) (hv : Vis X.env.scope x := by first | exact Or.inl rfl | exact Or.inr (Or.inl rfl) | exact Or.inr (Or.inr rfl)) (he : EV X c W e f) (hd : (x == ("__debug__" : Str)) = false := by decide)
    (hcd : (x == ("__classdict__" : Str)) = false := by decide) (hs : M1Ok X e apos cpos := by exact ⟨rfl, rfl, rfl⟩) (hw : swapsWith (.Call (.Attribute (.Name x p) "append" apos) [e] [] cpos) none pos.line X.env = pure false := by rfl) :
    SS X c W (.Expr (.Call (.Attribute (.Name x p) "append" apos) [e] [] cpos) pos) (sAppB i f) := by
  refine ⟨fun ρ k k' E E' hk hE ⟨ds, h1, h2⟩ => ⟨ds, h1, he.mn _ _ _ E E' (fun d q => ⟨q.1, q.2.1, hk.nx _ q.2.2⟩) hE h2⟩, wkS (ps_expr (pe_app (pe_var hN hv hd hcd) he.pe hs) hw) ?_⟩
  rintro D σ H ⟨H0, B0, B, ρ, r, ds, h1, q⟩
  obtain ⟨a, vs, e1, e2, e3, e4, e5⟩ := r.sl i _ h1
  obtain ⟨Bp, pp, sm, l, rv⟩ := r.lend
  refine ⟨_, e1, own_ty e2, Bp, _, pp, rv, he.mn _ _ _ _ _ (fun d hd v B1 H1 s i1 => ?_) (fun x hx => hx.rep r sm l) q⟩
  obtain ⟨B', r1, s', _, kp⟩ := r.goB sm l s
  obtain ⟨a', vs', k1, k2, k3, k4, k5⟩ := r1.sl i _ h1
  rw [e1] at k1; cases k1
  refine ⟨a, vs', v, rfl, rfl, k2, by rw [k3.length]; exact hd.1, ?_⟩
  exact hd.2.2 σ B' _ (r1.mut h1 e1 (k3.append (.cons (i1.but kp hd.2.1) .nil))) s'
/-- x.pop(e), x.pop() -/
def popAt (xs : List D) (n : Int) (k : D → List D → Prop) : Prop := -(2 ^ 63) ≤ n ∧ n < 2 ^ 63 ∧ ∃ m z, seqIndex? n xs.length = some m ∧ xs[m]? = some z ∧ k z (xs.eraseIdx m)
theorem pe_popAt {x : Str} {te : TE} {i : Nat} (hx : PE X (.Name x p) (tVar i)) (he : PE X e te) (hs : M1Ok X e apos cpos) :
    PE X (.Call (.Attribute (.Name x p) "pop" apos) [e] [] cpos) (tBM X.K "list" rPopAt (tVar i) (tCons te tNil)) :=
  pe_bm PySem.F.plainAttrs_list PySem.F.slot_list_pop PySem.F.type_list_pop mt_popAt hx (pa_cons he pa_nil hs.st) rfl hs.few hs.line hs.st rfl
/-- y.append(x.pop(e)) -/
def sAppPop (i l : Nat) (f : DV) : DS := fun ρ k E => ∃ ds xs, ρ[i]? = some (some (.own ds)) ∧ ρ[l]? = some (some (.own xs)) ∧ i ≠ l ∧ f (viewB ρ) (fun d => ∃ n, d = .int n ∧ ds.length < sizeLine ∧ popAt xs n fun z r => k.nx ((ρ.set l (some (.own r))).set i (some (.own (ds ++ [z]))))) E
theorem ss_appPop {x y : Str} {i l : Nat} {p2 apos2 cpos2 : Pos} (hx : PE X (.Name x p) (tVar i)) (hy : PE X (.Name y p2) (tVar l)) (he : EV X c W e f)
    (hs : M1Ok X e apos2 cpos2 := by exact ⟨rfl, rfl, rfl⟩) (hs2 : M1Ok X (.Call (.Attribute (.Name y p2) "pop" apos2) [e] [] cpos2) apos cpos := by exact ⟨rfl, rfl, rfl⟩)
    (hw : swapsWith (.Call (.Attribute (.Name x p) "append" apos) [.Call (.Attribute (.Name y p2) "pop" apos2) [e] [] cpos2] [] cpos) none pos.line X.env = pure false := by rfl) :
    SS X c W (.Expr (.Call (.Attribute (.Name x p) "append" apos) [.Call (.Attribute (.Name y p2) "pop" apos2) [e] [] cpos2] [] cpos) pos) (sAppPop i l f) := by
  refine ⟨fun ρ k k' E E' hk hE ⟨ds, xs, h1, h2, h3, h4⟩ => ⟨ds, xs, h1, h2, h3, he.mn _ _ _ E E' (fun d ⟨n, q0, q1, q2, q3, m, z, q4, q5, q6⟩ => ⟨n, q0, q1, q2, q3, m, z, q4, q5, hk.nx _ q6⟩) hE h4⟩, wkS (ps_expr (pe_app hx (pe_popAt hy he.pe hs) hs2) hw) ?_⟩
  rintro D σ H ⟨H0, B0, B, ρ, r, ds, xs, h1, h2, h3, q⟩
  obtain ⟨a, vs, e1, e2, e3, e4, e5⟩ := r.sl i _ h1
  obtain ⟨b, us, g1, g2, g3, g4, g5⟩ := r.sl l _ h2
  obtain ⟨Bp, pp, sm, ln, rv⟩ := r.lend
  refine ⟨_, e1, own_ty e2, _, g1, own_ty g2, Bp, _, pp, rv, he.mn _ _ _ _ _ (fun d hd v B1 H1 s i1 => ?_) (fun x hx => hx.rep r sm ln) q⟩
  obtain ⟨n, rfl, q1, q2, q3, m, z, q4, q5, q6⟩ := hd
  cases i1
  obtain ⟨B', r1, s', _, kp⟩ := r.goB sm ln s
  obtain ⟨a', vs', k1, k2, k3, k4, k5⟩ := r1.sl i _ h1
  rw [e1] at k1; cases k1
  obtain ⟨b', us', w1, w2, w3, w4, w5⟩ := r1.sl l _ h2
  rw [g1] at w1; cases w1
  obtain ⟨zv, z1, z2⟩ := w3.get q5
  have nab : a ≠ b := fun z => h3 (r1.inj i l a ds xs h1 h2 e1 (by rw [z]; exact g1))
  refine ⟨b, us', n, m, zv, rfl, rfl, w2, q2, q3, by rw [w3.length]; exact q4, z1, a, vs', zv, rfl, rfl, by rw [upd_ne nab]; exact k2, by rw [k3.length]; exact q1, ?_⟩
  have r2 := r1.mut h2 g1 (w3.erase m)
  have h1' : (ρ.set l (some (.own (xs.eraseIdx m))))[i]? = some (some (.own ds)) := by rw [List.getElem?_set_ne (Ne.symm h3)]; exact h1
  exact q6 σ B' _ (r2.mut h1' e1 (k3.append (.cons z2 .nil))) s'
/-- v = x.pop(e) -/
def sSetPop (i l : Nat) (f : DV) : DS := fun ρ k E => ∃ xs, ρ[l]? = some (some (.own xs)) ∧ f (viewB ρ) (fun d => ∃ n, d = .int n ∧ popAt xs n fun z r => k.nx ((ρ.set l (some (.own r))).set i (some (.val z)))) E
theorem ss_setPop {x y : Str} {i l : Nat} {p2 apos2 cpos2 : Pos} (m : Fm X W j) (hy : PE X (.Name y p2) (tVar l)) (he : EV X c W e f) (hi : X.N[i]? = some x := by rfl) (hx : Loc X.env.scope x := by first | exact Or.inl rfl | exact Or.inr rfl)
    (hs : M1Ok X e apos2 cpos2 := by exact ⟨rfl, rfl, rfl⟩)
    (hw : swapsWith (.Call (.Attribute (.Name y p2) "pop" apos2) [e] [] cpos2) (some (.Name x p)) pos.line X.env = pure false := by rfl) (hf : X.fn x = true ∨ X.env.scope.names.lookup x = some .local := by first | exact .inl rfl | exact .inr rfl) :
    SS X c W (.Assign [.Name x p] (.Call (.Attribute (.Name y p2) "pop" apos2) [e] [] cpos2) pos) (sSetPop i l f) := by
  refine ⟨fun ρ k k' E E' hk hE ⟨xs, h2, h4⟩ => ⟨xs, h2, he.mn _ _ _ E E' (fun d ⟨n, q0, q2, q3, m, z, q4, q5, q6⟩ => ⟨n, q0, q2, q3, m, z, q4, q5, hk.nx _ q6⟩) hE h4⟩, wkS (ps_set m.nd hi hx (pe_popAt hy he.pe hs) hw hf) ?_⟩
  rintro D σ H ⟨H0, B0, B, ρ, r, xs, h2, q⟩
  obtain ⟨b, us, g1, g2, g3, g4, g5⟩ := r.sl l _ h2
  obtain ⟨Bp, pp, sm, ln, rv⟩ := r.lend
  refine ⟨_, g1, own_ty g2, Bp, _, pp, rv, he.mn _ _ _ _ _ (fun d hd v B1 H1 s i1 => ?_) (fun x hx => hx.rep r sm ln) q⟩
  obtain ⟨n, rfl, q2, q3, m, z, q4, q5, q6⟩ := hd
  cases i1
  obtain ⟨B', r1, s', _, kp⟩ := r.goB sm ln s
  obtain ⟨b', us', w1, w2, w3, w4, w5⟩ := r1.sl l _ h2
  rw [g1] at w1; cases w1
  obtain ⟨zv, z1, z2⟩ := w3.get q5
  refine ⟨b, us', n, m, zv, rfl, rfl, w2, q2, q3, by rw [w3.length]; exact q4, z1, ?_⟩
  exact q6 _ B' _ ((r1.mut h2 g1 (w3.erase m)).setV z2) s'
/-- x.reverse() -/
def sRev (i : Nat) : DS := fun ρ k _ => ∃ ds, ρ[i]? = some (some (.own ds)) ∧ k.nx (ρ.set i (some (.own ds.reverse)))
theorem ss_rev {x : Str} {i : Nat} (hx : PE X (.Name x p) (tVar i)) (hl : (apos.endLine == cpos.line) = true := by rfl) (hw : swapsWith (.Call (.Attribute (.Name x p) "reverse" apos) [] [] cpos) none pos.line X.env = pure false := by rfl) :
    SS X c W (.Expr (.Call (.Attribute (.Name x p) "reverse" apos) [] [] cpos) pos) (sRev i) := by
  refine ⟨fun ρ k k' E E' hk hE ⟨ds, h1, h2⟩ => ⟨ds, h1, hk.nx _ h2⟩, wkS (ps_expr (pe_bm0 PySem.F.plainAttrs_list PySem.F.slot_list_reverse PySem.F.type_list_reverse mt_reverse hx rfl hl) hw) ?_⟩
  rintro D σ H ⟨H0, B0, B, ρ, r, ds, h1, q⟩
  obtain ⟨a, vs, e1, e2, e3, e4, e5⟩ := r.sl i _ h1
  exact ⟨_, e1, own_ty e2, a, vs, rfl, rfl, e2, q σ B _ (r.mut h1 e1 e3.reverse) (Same.refl B)⟩
/-- x[e2] = e -/
def sPutN (i : Nat) (f g : DV) : DS := fun ρ k E => ∃ ds, ρ[i]? = some (some (.own ds)) ∧ f (viewN ρ) (fun d => g (viewB ρ) (fun u => ∃ n m, u = .int n ∧ ixN ds.length n = some m ∧ k.nx (ρ.set i (some (.own (ds.set m d))))) E) E
def sPutB (i : Nat) (f g : DV) : DS := fun ρ k E => ∃ ds, ρ[i]? = some (some (.own ds)) ∧ f (viewB ρ) (fun d => d.lf = true ∧ g (viewB ρ) (fun u => ∃ n m, u = .int n ∧ ixN ds.length n = some m ∧ k.nx (ρ.set i (some (.own (ds.set m d))))) E) E
theorem put_end {x : V} {B Bs : Hp} {H H0 B0 : Hp} {σ : L2.St} {ρ : Sl} {i : Nat} {d : D} {ds : List D} {D : Ends} {E : Exn → Prop} (r : Rep c H0 B0 B H σ ρ) (sb : Same Bs B) (hg : EV X c W b g) (ix : Is c B x d) (hE : ∀ z, E z → XK c W B0 H0 z) (h1 : ρ[i]? = some (some (.own ds)))
    (hq : g (viewB ρ) (fun u => ∃ n m, u = .int n ∧ ixN ds.length n = some m ∧ (KS c H0 B0 Bs D).nx (ρ.set i (some (.own (ds.set m d))))) E) :
    tVar i σ H fun o H1 => tV c W g σ H1 fun u H2 => rSetL o u x H2 fun H3 => D.nx σ H3 := by
  obtain ⟨a, vs, ha, _⟩ := r.sl i _ h1
  obtain ⟨Bp, pp, sm, ln, rv⟩ := r.lend
  refine ⟨_, ha, Bp, _, pp, rv, hg.mn _ _ _ _ _ (fun u hu v B1 H1 s i1 => ?_) (fun x hx => (hE _ hx).rep r sm ln) hq⟩
  obtain ⟨n, m, rfl, h2, h3⟩ := hu
  cases i1
  obtain ⟨B', r1, s', _, kp⟩ := r.goB sm ln s
  obtain ⟨a', vs', k1, k2, k3, k4, k5⟩ := r1.sl i _ h1
  rw [ha] at k1; cases k1
  refine ⟨a, vs', n, m, rfl, rfl, k2, by rw [k3.length]; exact h2, ?_⟩
  exact h3 σ B' _ (r1.mut h1 ha (k3.set (ix.mono s') m)) fun a o e => s' a o (sb a o e)
end
end Dv

set_option Elab.async false
set_option linter.all false
set_option maxRecDepth 100000
set_option maxHeartbeats 2000000
namespace Dv
open PySem PySem.Spec PyProof.Rows L2
section
variable {X : Cx} {c : Cn X.K} {W : WX} {e a b : Expr} {es : List Expr} {pos p apos cpos : Pos} {f g : DV} {j k : Nat}
structure PutOk (X : Cx) (x : Str) (p p2 pos : Pos) (b e : Expr) : Prop where
  asg : ∀ v, assign (.Subscript (.Name x p) b p2) X.env v = (do
      let ov ← holding [v] (eval (.Name x p) X.env)
      let iv ← holding [v, ov] (eval b X.env)
      standAt p2
      holding [v, ov, iv] (setItem ov iv v)
      release [v, ov, iv] [])
  sw : swapsWithSole [.Subscript (.Name x p) b p2] e pos.line X.env = pure false
  st : swappedStores [.Subscript (.Name x p) b p2] e X.env = pure none
  ea : (assignEach [.Subscript (.Name x p) b p2] X.env).map (·.2) = [assign (.Subscript (.Name x p) b p2) X.env]
theorem ss_putN {x : Str} {i : Nat} {p2 : Pos} (hx : PE X (.Name x p) (tVar i)) (hi : EV X c W b g) (he : EV X c W e f) (ok : PutOk X x p p2 pos b e := by exact ⟨fun _ => rfl, rfl, rfl, rfl⟩) : SS X c W (.Assign [.Subscript (.Name x p) b p2] e pos) (sPutN i f g) := by
  refine ⟨fun ρ k k' E E' hk hE ⟨ds, h0, q⟩ => ⟨ds, h0, he.mn _ _ _ E E' (fun d q => hi.mn _ _ _ E E' (fun u ⟨n, m, h2, h3, h4⟩ => ⟨n, m, h2, h3, hk.nx _ h4⟩) hE q) hE q⟩, wkS (ps_asg he.pe (pg_sub hx hi.pe set_list ok.asg) ok.sw ok.st ok.ea) ?_⟩
  rintro D σ H ⟨H0, B0, B, ρ, r, ds, h0, q⟩
  refine ⟨B, _, r.pre, r.viewN, he.mn _ _ _ _ _ (fun d hd v B1 H1 s i1 => ?_) (fun x hx => hx.repN r) q⟩
  exact put_end (r.goN s) s.b hi i1 (fun _ z => z) h0 hd
theorem ss_putB {x : Str} {i : Nat} {p2 : Pos} (hx : PE X (.Name x p) (tVar i)) (hi : EV X c W b g) (he : EV X c W e f) (ok : PutOk X x p p2 pos b e := by exact ⟨fun _ => rfl, rfl, rfl, rfl⟩) : SS X c W (.Assign [.Subscript (.Name x p) b p2] e pos) (sPutB i f g) := by
  refine ⟨fun ρ k k' E E' hk hE ⟨ds, h0, q⟩ => ⟨ds, h0, he.mn _ _ _ E E' (fun d q => ⟨q.1, hi.mn _ _ _ E E' (fun u ⟨n, m, h2, h3, h4⟩ => ⟨n, m, h2, h3, hk.nx _ h4⟩) hE q.2⟩) hE q⟩, wkS (ps_asg he.pe (pg_sub hx hi.pe set_list ok.asg) ok.sw ok.st ok.ea) ?_⟩
  rintro D σ H ⟨H0, B0, B, ρ, r, ds, h0, q⟩
  obtain ⟨Bp, pp, sm, ln, rv⟩ := r.lend
  refine ⟨Bp, _, pp, rv, he.mn _ _ _ _ _ (fun d hd v B1 H1 s i1 => ?_) (fun x hx => hx.rep r sm ln) q⟩
  obtain ⟨B', r1, s', _, kp⟩ := r.goB sm ln s
  exact put_end r1 s' hi (i1.but kp hd.1) (fun _ z => z) h0 hd.2

/-! ### targets -/
abbrev DG := D → Sl → (Sl → Prop) → Prop
abbrev DGs := List D → Sl → (Sl → Prop) → Prop
/-- the slots at S may differ -/
def But (S : List Nat) (σ σ' : L2.St) : Prop := σ'.length = σ.length ∧ ∀ i, i ∉ S → σ'[i]? = σ[i]?
theorem But.refl (S : List Nat) (σ : L2.St) : But S σ σ := ⟨rfl, fun _ _ => rfl⟩
theorem But.trans {S S' : List Nat} {σ σ1 σ2 : L2.St} (a : But S σ σ1) (b : But S' σ1 σ2) : But (S ++ S') σ σ2 :=
  ⟨b.1.trans a.1, fun i h => (b.2 i fun z => h (List.mem_append_right _ z)).trans (a.2 i fun z => h (List.mem_append_left _ z))⟩
theorem But.set (σ : L2.St) (i : Nat) (x : Option V) : But [i] σ (σ.set i x) := ⟨List.length_set, fun j h => List.getElem?_set_ne fun z => h (by rw [z]; exact List.mem_singleton.mpr rfl)⟩
def tG {K : PySem.W.Frag} (c : Cn K) (S : List Nat) (g : DG) : TG := fun v σ H Q => ∃ H0 B0 B ρ d, Rep c H0 B0 B H σ ρ ∧ Is c B v d ∧ g d ρ (fun ρ' => ∀ σ', Rep c H0 B0 B H σ' ρ' → But S σ σ' → Q σ' H)
def tGs {K : PySem.W.Frag} (c : Cn K) (S : List Nat) (g : DGs) : TGs := fun vs σ H Q => ∃ H0 B0 B ρ ds, Rep c H0 B0 B H σ ρ ∧ IsL c B vs ds ∧ g ds ρ (fun ρ' => ∀ σ', Rep c H0 B0 B H σ' ρ' → But S σ σ' → Q σ' H)
structure GT (X : Cx) (c : Cn X.K) (S : List Nat) (t : Expr) (g : DG) : Prop where
  mn : ∀ d ρ (k k' : Sl → Prop), (∀ ρ, k ρ → k' ρ) → g d ρ k → g d ρ k'
  pg : PG X t (tG c S g)
structure GTs (X : Cx) (c : Cn X.K) (S : List Nat) (ts : List Expr) (g : DGs) : Prop where
  mn : ∀ ds ρ (k k' : Sl → Prop), (∀ ρ, k ρ → k' ρ) → g ds ρ k → g ds ρ k'
  pg : PGs X ts (tGs c S g)
theorem wkG {X : Cx} {e : Expr} {t t' : TG} (p : PG X e t) (w : ∀ v σ H Q, t' v σ H Q → t v σ H Q) : PG X e t' := ⟨fun pins s σ H v u Q I r h => p.run pins s σ H v u Q I r (w _ _ _ _ h)⟩
theorem wkGs {X : Cx} {e : List Expr} {t t' : TGs} (p : PGs X e t) (w : ∀ v σ H Q, t' v σ H Q → t v σ H Q) : PGs X e t' := ⟨fun pins s σ H v u Q I r h => p.run pins s σ H v u Q I r (w _ _ _ _ h)⟩
def gN (i : Nat) : DG := fun d ρ k => k (ρ.set i (some (.val d)))
theorem gt_name {i : Nat} {x : Str} (hN : X.N.Nodup) (hi : X.N[i]? = some x := by rfl) (hx : Loc X.env.scope x := by first | exact Or.inl rfl | exact Or.inr rfl) (hf : X.fn x = true ∨ X.env.scope.names.lookup x = some .local := by first | exact .inl rfl | exact .inr rfl) : GT X c [i] (.Name x pos) (gN i) :=
  ⟨fun d ρ k k' hk q => hk _ q, wkG (pg_name hN hi hx hf) fun v σ H Q ⟨H0, B0, B, ρ, d, r, i1, q⟩ => q _ (r.setV i1) (But.set _ _ _)⟩
def gNil : DGs := fun ds ρ k => ds = [] ∧ k ρ
def gCons (g : DG) (h : DGs) : DGs := fun ds ρ k => ∃ d r, ds = d :: r ∧ g d ρ (fun ρ' => h r ρ' k)
theorem gts_nil : GTs X c [] [] gNil := by
  refine ⟨fun d ρ k k' hk q => ⟨q.1, hk _ q.2⟩, wkGs pgs_nil ?_⟩
  rintro vs σ H Q ⟨H0, B0, B, ρ, d, r, i1, rfl, q⟩
  cases i1
  exact ⟨rfl, q _ r (But.refl _ _)⟩
theorem gts_cons {S S' : List Nat} {t : Expr} {ts : List Expr} {g : DG} {h : DGs} (h1 : GT X c S t g) (h2 : GTs X c S' ts h) (hs : (assignEach (t :: ts) X.env).map (·.2) = assign t X.env :: (assignEach ts X.env).map (·.2) := by rfl) : GTs X c (S ++ S') (t :: ts) (gCons g h) := by
  refine ⟨fun ds ρ k k' hk ⟨d, r, e, q⟩ => ⟨d, r, e, h1.mn d ρ _ _ (fun ρ' q => h2.mn r ρ' k k' hk q) q⟩, wkGs (pgs_cons h1.pg h2.pg hs) ?_⟩
  rintro vs σ H Q ⟨H0, B0, B, ρ, ds, r, i1, d, ds', rfl, q⟩
  cases i1 with
  | cons i1 il =>
    refine ⟨_, _, rfl, H0, B0, B, ρ, d, r, i1, h1.mn d ρ _ _ (fun ρ' q σ' r' b1 => ?_) q⟩
    exact ⟨H0, B0, B, ρ', ds', r', il, h2.mn _ _ _ _ (fun ρ2 q σ2 r2 b2 => q σ2 r2 (b1.trans b2)) q⟩
def gTup (n : Nat) (h : DGs) : DG := fun d ρ k => ∃ ds, d = .tup ds ∧ ds.length = n ∧ h ds ρ k
theorem gt_tup {S : List Nat} {ts : List Expr} {h : DGs} {n x1 : Nat} (hc : X.calm = true) (hg : GTs X c S ts h) (hn : (assignEach ts X.env).length = n := by rfl) (hst : (assignEach ts X.env).findIdx? (·.1) = none := by rfl) : GT X c S (.Tuple ts x1 pos) (gTup n h) := by
  refine ⟨fun d ρ k k' hk ⟨ds, h1, h2, q⟩ => ⟨ds, h1, h2, hg.mn ds ρ k k' hk q⟩, wkG (pg_tup hc hg.pg hn hst) ?_⟩
  rintro v σ H Q ⟨H0, B0, B, ρ, d, r, i1, ds, rfl, h2, q⟩
  cases i1 with
  | tup h3 il => exact ⟨_, _, rfl, SqT.of (r.pre.bh _ _ h3), by rw [il.length]; exact h2, H0, B0, B, ρ, ds, r, il, q⟩
/-- target = e -/
structure AsgOk (X : Cx) (tg e : Expr) (pos : Pos) : Prop where
  sw : swapsWithSole [tg] e pos.line X.env = pure false
  st : swappedStores [tg] e X.env = pure none
  ea : (assignEach [tg] X.env).map (·.2) = [assign tg X.env]
def sAsgN (f : DV) (g : DG) : DS := fun ρ k E => f (viewN ρ) (fun d => g d ρ k.nx) E
def sAsgB (f : DV) (g : DG) : DS := fun ρ k E => f (viewB ρ) (fun d => d.lf = true ∧ g d ρ k.nx) E
theorem ss_asgN {S : List Nat} {t : Expr} {g : DG} (he : EV X c W e f) (hg : GT X c S t g) (ok : AsgOk X t e pos := by exact ⟨rfl, rfl, rfl⟩) : SS X c W (.Assign [t] e pos) (sAsgN f g) := by
  refine ⟨fun ρ k k' E E' hk hE q => he.mn _ _ _ E E' (fun d q => hg.mn _ _ _ _ hk.nx q) hE q, wkS (ps_asg he.pe hg.pg ok.sw ok.st ok.ea) ?_⟩
  rintro D σ H ⟨H0, B0, B, ρ, r, q⟩
  refine ⟨B, _, r.pre, r.viewN, he.mn _ _ _ _ _ (fun d hd v B1 H1 s i1 => ?_) (fun x hx => hx.repN r) q⟩
  exact ⟨H0, B0, B1, ρ, d, r.goN s, i1, hg.mn _ _ _ _ (fun ρ' q σ' r' _ => q σ' B1 H1 r' s.b) hd⟩
theorem ss_asgB {S : List Nat} {t : Expr} {g : DG} (he : EV X c W e f) (hg : GT X c S t g) (ok : AsgOk X t e pos := by exact ⟨rfl, rfl, rfl⟩) : SS X c W (.Assign [t] e pos) (sAsgB f g) := by
  refine ⟨fun ρ k k' E E' hk hE q => he.mn _ _ _ E E' (fun d q => ⟨q.1, hg.mn _ _ _ _ hk.nx q.2⟩) hE q, wkS (ps_asg he.pe hg.pg ok.sw ok.st ok.ea) ?_⟩
  rintro D σ H ⟨H0, B0, B, ρ, r, q⟩
  obtain ⟨Bp, pp, sm, ln, rv⟩ := r.lend
  refine ⟨Bp, _, pp, rv, he.mn _ _ _ _ _ (fun d hd v B1 H1 s i1 => ?_) (fun x hx => hx.rep r sm ln) q⟩
  obtain ⟨B', r1, s', _, kp⟩ := r.goB sm ln s
  exact ⟨H0, B0, B', ρ, d, r1, i1.but kp hd.1, hg.mn _ _ _ _ (fun ρ' q σ' r' _ => q σ' B' H1 r' s') hd.2⟩
/-- x, y = e1, e2: o tells which name is to hold a list alone -/
def slotR : Bool → Rv → Option Slot
  | true, .new ds => some (.own ds)
  | false, .new ds => some (.val (.lst ds))
  | true, .val _ => none
  | false, .val d => some (.val d)
def PutR {K : PySem.W.Frag} (c : Cn K) (H0 B H : Hp) (σ : L2.St) (ρ : Sl) (v : V) : Rv → Prop
  | .val d => Is c B v d
  | .new ds => ∃ a vs, v = .ref a ∧ H a = some (.lst vs) ∧ IsL c B vs ds ∧ B a = none ∧ H0 a = none ∧ ¬ OwnAt ρ σ a
theorem Rep.setR {K : PySem.W.Frag} {c : Cn K} {H0 B0 B H : Hp} {σ : L2.St} {ρ : Sl} (r : Rep c H0 B0 B H σ ρ) {i : Nat} {v : V} {u : Rv} {o : Bool} {s : Slot} (hs : slotR o u = some s) (hu : PutR c H0 B H σ ρ v u) :
    ∃ B', Rep c H0 B0 B' H (σ.set i (some v)) (ρ.set i (some s)) ∧ Same B B' ∧ (∀ d, u = .val d → B' = B) ∧ (∀ ds b, u = .new ds → V.ref b ≠ v → B' b = B b) ∧ ∀ es, s = .own es → ∃ ds, u = .new ds := by
  cases u with
  | val d =>
    cases o with
    | true => cases hs
    | false =>
      cases hs
      exact ⟨B, r.setV hu, Same.refl B, fun _ _ => rfl, fun _ _ z => (nomatch z), fun _ z => (nomatch z)⟩
  | new ds =>
    obtain ⟨a, vs, rfl, h1, h2, h3, h4, h5⟩ := hu
    cases o with
    | true =>
      cases hs
      exact ⟨B, r.setO h1 h2 h3 h4 fun j' ds' n q1 q2 => h5 ⟨j', ds', q1, q2⟩, Same.refl B, fun _ z => (nomatch z), fun _ _ _ _ => rfl, fun _ _ => ⟨ds, rfl⟩⟩
    | false =>
      cases hs
      exact ⟨_, (r.keepNew h1 h3 h4 h5).setV (.lst upd_same (h2.mono (Same.new h3))), Same.new h3, fun _ z => (nomatch z), fun _ b _ n => upd_ne fun z => n (by rw [z]), fun _ _ => ⟨ds, rfl⟩⟩
def sParN (i l : Nat) (oi ol : Bool) (f g : DR) : DS := fun ρ k E => f (viewN ρ) (fun u => g (viewN ρ) (fun w => ∃ s t, slotR oi u = some s ∧ slotR ol w = some t ∧ k.nx ((ρ.set i (some s)).set l (some t))) E) E
def lfR : Rv → Bool
  | .val d => d.lf
  | .new ds => D.lf.lfL ds
def sParB (i l : Nat) (oi ol : Bool) (f g : DR) : DS := fun ρ k E => f (viewB ρ) (fun u => g (viewB ρ) (fun w => (lfR u = true ∧ lfR w = true) ∧ ∃ s t, slotR oi u = some s ∧ slotR ol w = some t ∧ k.nx ((ρ.set i (some s)).set l (some t))) E) E
theorem par_mn {f g : DR} {Q Q' : Rv → Rv → Prop} {ρ : View} {E E' : Exn → Prop} (hf : Mn f) (hg : Mn g) (h : ∀ u w, Q u w → Q' u w) (hE : ∀ x, E x → E' x) (q : f ρ (fun u => g ρ (fun w => Q u w) E) E) : f ρ (fun u => g ρ (fun w => Q' u w) E') E' :=
  hf _ _ _ _ _ (fun u q => hg _ _ _ _ _ (fun w => h u w) hE q) hE q
/-- both values, at the end of the second -/
structure Two {K : PySem.W.Frag} (c : Cn K) (H B2 H2 : Hp) (v w : V) (u z : Rv) : Prop where
  one : RvOk c H B2 H2 v u
  two : RvOk c H B2 H2 w z
  ne : ∀ ds es, u = .new ds → z = .new es → v ≠ w
theorem pa_two {X : Cx} {c : Cn X.K} {W : WX} {a b : Expr} {f g : DR} (ha : ER X c W a f) (hb : ER X c W b g) (h1 : starEach [a, b] X.env = (false, eval a X.env) :: starEach [b] X.env) (h2 : starEach [b] X.env = (false, eval b X.env) :: starEach [] X.env) :
    PA X [a, b] fun σ H Q => ∃ B ρ, Pre c B H ∧ RepV c B σ ρ ∧ f ρ (fun u => g ρ (fun z => ∀ v w B2 H2, Step c B H B2 H2 → Two c H B2 H2 v w u z → Q [v, w] H2) (XK c W B H)) (XK c W B H) := by
  refine wkA (pa_cons ha.pe (pa_cons hb.pe pa_nil h2) h1) ?_
  rintro σ H Q ⟨B, ρ, p, rp, q⟩
  refine ⟨B, ρ, p, rp, ha.mn _ _ _ _ _ (fun u hu v B1 H1 s1 r1 => ?_) (fun _ z => z) q⟩
  refine ⟨B1, ρ, s1.pre, rp.mono s1.b, hb.mn _ _ _ _ _ (fun z hz w B2 H2 s2 r2 => ?_) (fun x z => z.step s1) hu⟩
  refine hz v w B2 H2 (s1.trans s2) ⟨?_, r2.up s1, fun ds es e1 e2 => ?_⟩
  · cases u with
    | val d => exact Is.mono s2.b r1
    | new ds =>
      obtain ⟨a, vs, e1, e2, e3, e4, e5⟩ := r1
      exact ⟨a, vs, e1, s2.out a _ e2 (p.nmu e5) (fun _ z => nomatch z), e3.mono s2.b, by rw [s2.dom a (by rw [e2]; exact fun z => nomatch z)]; exact e4, e5⟩
  · subst e1; subst e2
    obtain ⟨a, vs, e1, e2, _⟩ := r1
    obtain ⟨b, us, f1, _, _, _, f5⟩ := r2
    rintro rfl
    rw [e1] at f1; cases f1
    rw [e2] at f5; cases f5
theorem two_set {K : PySem.W.Frag} {c : Cn K} {H0 B0 B H H1 : Hp} {σ : L2.St} {ρ : Sl} {v w : V} {u z : Rv} {i l : Nat} {oi ol : Bool} {s t : Slot} (r : Rep c H0 B0 B H1 σ ρ) (hz : ∀ a, H a = none → H0 a = none) (na : ∀ a, H a = none → ¬ OwnAt ρ σ a) (T : Two c H B H1 v w u z) (h1 : slotR oi u = some s) (h2 : slotR ol z = some t) :
    ∃ B', Rep c H0 B0 B' H1 ((σ.set i (some v)).set l (some w)) ((ρ.set i (some s)).set l (some t)) ∧ Same B B' := by
  obtain ⟨B1, r1, s1, k1, k2, k3⟩ := r.setR (i := i) h1 (by
    have q := T.one
    cases u with
    | val d => exact q
    | new ds => exact let ⟨a, vs, e1, e2, e3, e4, e5⟩ := q; ⟨a, vs, e1, e2, e3, e4, hz a e5, na a e5⟩)
  have two : PutR c H0 B1 H1 (σ.set i (some v)) (ρ.set i (some s)) w z := by
    have q := T.two
    cases z with
    | val d => exact Is.mono s1 q
    | new es =>
      obtain ⟨a, vs, e1, e2, e3, e4, e5⟩ := q
      subst e1
      refine ⟨a, vs, rfl, e2, e3.mono s1, ?_, hz a e5, ?_⟩
      · cases u with
        | val d => rw [k1 d rfl]; exact e4
        | new ds => rw [k2 ds a rfl (fun q => T.ne ds es rfl rfl q.symm)]; exact e4
      · rintro ⟨n, fs, q1, q2⟩
        rcases set_get q1 with ⟨rfl, hl, q3⟩ | ⟨hn, q3⟩
        · obtain ⟨ds, hu⟩ := k3 fs (Option.some.inj q3)
          rw [List.getElem?_set_self (by rw [← r.len]; exact hl)] at q2
          exact T.ne ds es hu rfl (Option.some.inj (Option.some.inj q2))
        · rw [List.getElem?_set_ne (fun z => hn z.symm)] at q2
          exact na a e5 ⟨n, fs, q3, q2⟩
  obtain ⟨B2, r2, s2, _⟩ := r1.setR (i := l) h2 two
  exact ⟨B2, r2, fun a o e => s2 a o (s1 a o e)⟩
/-- the shape of x, y = e1, e2 -/
structure ParOk (X : Cx) (x y : Str) (px py pt pt2 pos : Pos) (kt k2 : Nat) (a b : Expr) : Prop where
  h1 : starEach [a, b] X.env = (false, eval a X.env) :: starEach [b] X.env
  h2 : starEach [b] X.env = (false, eval b X.env) :: starEach [] X.env
  hx : X.env.scope.names.lookup x = some .local
  hy : X.env.scope.names.lookup y = some .local
  hw : swappedStores [.Tuple [.Name x px, .Name y py] kt pt] (.Tuple [a, b] k2 pt2) X.env = pure (some [x, y])
  hs : swapsWithSole [.Tuple [.Name x px, .Name y py] kt pt] (.Tuple [a, b] k2 pt2) pos.line X.env = pure false
theorem ss_parN {f g : DR} {x y : Str} {i l kt k2 : Nat} {oi ol : Bool} {px py pt pt2 : Pos} (m : Fm X W j) (ha : ER X c W a f) (hb : ER X c W b g) (hi : X.N[i]? = some x := by rfl) (hl : X.N[l]? = some y := by rfl) (hil : i ≠ l := by decide) (ok : ParOk X x y px py pt pt2 pos kt k2 a b := by exact ⟨rfl, rfl, rfl, rfl, by rfl, rfl⟩) :
    SS X c W (.Assign [.Tuple [.Name x px, .Name y py] kt pt] (.Tuple [a, b] k2 pt2) pos) (sParN i l oi ol f g) := by
  refine ⟨fun ρ k k' E E' hk hE q => par_mn ha.mn hb.mn (fun u w ⟨s, t, h1, h2, h3⟩ => ⟨s, t, h1, h2, hk.nx _ h3⟩) hE q, wkS (ps_par m.calm m.nd hi hl hil ok.hx ok.hy (pa_two ha hb ok.h1 ok.h2) ok.hw ok.hs) ?_⟩
  rintro D σ H ⟨H0, B0, B, ρ, r, q⟩
  refine ⟨B, _, r.pre, r.viewN, par_mn ha.mn hb.mn (fun u z q v w B2 H2 s2 T => ?_) (fun x hx => hx.repN r) q⟩
  obtain ⟨s, t, h1, h2, h3⟩ := q
  have na : ∀ a, H a = none → ¬ OwnAt ρ σ a := fun a e o => by
    obtain ⟨⟨us, e'⟩, _⟩ := r.ownH o
    rw [e] at e'; cases e'
  obtain ⟨B', r', s'⟩ := two_set (r.goN s2) (fun a => fresh0 r.st) na T h1 h2
  exact ⟨v, w, rfl, h3 _ B' H2 r' fun a o e => s' a o (s2.b a o e)⟩
theorem Two.but {K : PySem.W.Frag} {c : Cn K} {H B2 B' H2 : Hp} {v w : V} {u z : Rv} (T : Two c H B2 H2 v w u z) (kp : ∀ a o, B2 a = some o → (∀ xs, o ≠ .lst xs) → B' a = some o) (hn : ∀ a, H a = none → B2 a = none → B' a = none) (h1 : lfR u = true) (h2 : lfR z = true) : Two c H B' H2 v w u z := by
  have one : ∀ {v : V} {u : Rv}, lfR u = true → RvOk c H B2 H2 v u → RvOk c H B' H2 v u := fun {v u} h q => by
    cases u with
    | val d => exact Is.but kp q h
    | new ds => exact let ⟨a, vs, e1, e2, e3, e4, e5⟩ := q; ⟨a, vs, e1, e2, e3.but kp h, hn a e5 e4, e5⟩
  exact ⟨one h1 T.one, one h2 T.two, T.ne⟩
theorem ss_parB {f g : DR} {x y : Str} {i l kt k2 : Nat} {oi ol : Bool} {px py pt pt2 : Pos} (m : Fm X W j) (ha : ER X c W a f) (hb : ER X c W b g) (hi : X.N[i]? = some x := by rfl) (hl : X.N[l]? = some y := by rfl) (hil : i ≠ l := by decide) (ok : ParOk X x y px py pt pt2 pos kt k2 a b := by exact ⟨rfl, rfl, rfl, rfl, by rfl, rfl⟩) :
    SS X c W (.Assign [.Tuple [.Name x px, .Name y py] kt pt] (.Tuple [a, b] k2 pt2) pos) (sParB i l oi ol f g) := by
  refine ⟨fun ρ k k' E E' hk hE q => par_mn ha.mn hb.mn (fun u w ⟨h0, s, t, h1, h2, h3⟩ => ⟨h0, s, t, h1, h2, hk.nx _ h3⟩) hE q, wkS (ps_par m.calm m.nd hi hl hil ok.hx ok.hy (pa_two ha hb ok.h1 ok.h2) ok.hw ok.hs) ?_⟩
  rintro D σ H ⟨H0, B0, B, ρ, r, q⟩
  obtain ⟨Bp, pp, sm, ln, rv⟩ := r.lend
  refine ⟨Bp, _, pp, rv, par_mn ha.mn hb.mn (fun u z q v w B2 H2 s2 T => ?_) (fun x hx => hx.rep r sm ln) q⟩
  obtain ⟨h0, s, t, h1, h2, h3⟩ := q
  have na : ∀ a, H a = none → ¬ OwnAt ρ σ a := fun a e o => by
    obtain ⟨⟨us, e'⟩, _⟩ := r.ownH o
    rw [e] at e'; cases e'
  obtain ⟨B1, r1, s1, off, kp⟩ := r.goB sm ln s2
  obtain ⟨B', r', s'⟩ := two_set r1 (fun a => fresh0 r.st) na (T.but kp (fun a e e2 => (off a (na a e)).trans e2) h0.1 h0.2) h1 h2
  exact ⟨v, w, rfl, h3 _ B' H2 r' fun a o e => s' a o (s1 a o e)⟩
end
end Dv

set_option Elab.async false
set_option linter.all false
set_option maxRecDepth 100000
set_option maxHeartbeats 2000000
namespace Dv
open PySem PySem.Spec PyProof.Rows L2
/-- what is walked: the items ds, as long as Bl stands -/
def WalkD {K : PySem.W.Frag} (c : Cn K) (Bl : Hp) (J : It) (ds : List D) : Prop :=
  ∀ (B H : Hp) (i : Nat), Same Bl B → Pre c B H → (∀ d, ds[i]? = some d → J.go i H ∧ ∀ x H', J.yld i H x H' → ∃ B2, Step c B H B2 H' ∧ Is c B2 x d) ∧ (i = ds.length → J.stop i H)
def tI {K : PySem.W.Frag} (c : Cn K) (W : WX) (f : DL) : TI := fun σ H R => ∃ B ρ, Pre c B H ∧ RepV c B σ ρ ∧ f ρ (fun ds => ∀ J B' H', Step c B H B' H' → WalkD c B' J ds → R J H') (XK c W B H)
structure EI (X : Cx) (c : Cn X.K) (W : WX) (tg iter : Expr) (f : DL) : Prop where
  mn : Mn f
  pi : PI X tg iter (tI c W f)
theorem wkI {X : Cx} {tg e : Expr} {t t' : TI} (p : PI X tg e t) (w : ∀ σ H Q, t' σ H Q → t σ H Q) : PI X tg e t' := ⟨fun pins s σ H R I h => p.run pins s σ H R I (w _ _ _ h)⟩
section
variable {X : Cx} {c : Cn X.K} {W : WX} {e a b tg : Expr} {es : List Expr} {pos p apos cpos : Pos} {f g : DV} {j k : Nat}
theorem walk_lst {K : PySem.W.Frag} {c : Cn K} {Bl : Hp} {a : Addr} {vs : List V} {ds : List D} (h : ∀ B H, Same Bl B → Pre c B H → SqL K H a vs) (hi : IsL c Bl vs ds) : WalkD c Bl (Itl K a) ds := by
  intro B H i s p
  have q := h B H s p
  refine ⟨fun d hd => ?_, fun hl => ⟨vs, q, by rw [hi.length]; exact Nat.le_of_eq hl.symm⟩⟩
  obtain ⟨v, h1, h2⟩ := hi.get hd
  refine ⟨⟨vs, v, q, h1⟩, fun x H' ⟨e1, e2⟩ => ?_⟩
  subst e1
  have := e2 vs q
  rw [h1] at this; cases this
  exact ⟨B, Step.refl p, h2.mono s⟩
theorem walk_tup {K : PySem.W.Frag} {c : Cn K} {Bl : Hp} {a : Addr} {vs : List V} {ds : List D} (h : ∀ B H, Same Bl B → Pre c B H → SqT K H a vs) (hi : IsL c Bl vs ds) : WalkD c Bl (Itt K a) ds := by
  intro B H i s p
  have q := h B H s p
  refine ⟨fun d hd => ?_, fun hl => ⟨vs, q, by rw [hi.length]; exact Nat.le_of_eq hl.symm⟩⟩
  obtain ⟨v, h1, h2⟩ := hi.get hd
  refine ⟨⟨vs, v, q, h1⟩, fun x H' ⟨e1, e2⟩ => ?_⟩
  subst e1
  have := e2 vs q
  rw [h1] at this; cases this
  exact ⟨B, Step.refl p, h2.mono s⟩
/-- a list or a tuple is walked -/
def iSeq (K : PySem.W.Frag) (tl : TE) : TI := fun σ H R => tl σ H fun x H1 => ∃ a, x = .ref a ∧ (((∃ xs, SqL K H1 a xs) ∧ R (Itl K a) H1) ∨ ((∃ xs, SqT K H1 a xs) ∧ R (Itt K a) H1))
theorem pi_seq {l : Expr} {tl : TE} (hl : PE X l tl) : PI X tg l (iSeq X.K tl) := by
  refine ⟨fun pins s σ H R I h => ?_⟩
  refine thn (hl.run pins s σ H _ I h) fun v s1 ⟨x, H1, I1, r1, a, ex, q⟩ => ?_
  subst ex
  cases r1
  have fin : ∀ b ∈ [s1.heap.objs.size], FpOk X pins H1 b := fun b hb => by
    have e : b = s1.heap.objs.size := by simpa using hb
    subst e
    exact I1.fpOk (Nat.le_refl _) (I1.hok.fresh (Nat.le_refl _))
  rcases q with ⟨⟨xs, hq⟩, q⟩ | ⟨⟨xs, hq⟩, q⟩
  · obtain ⟨its, rv, pl, hz⟩ := I1.list hq
    refine wpAny_pyIter_list pl.isList ?_
    exact ⟨s1.heap.objs.size, [s1.heap.objs.size], _, _, H1, rfl, I1.kept (t' := s1.toks) (fun b o e => Heap.get?_push_of_some _ e), turn_list a _, ⟨_, Heap.get?_push_size _ rfl, rfl, rfl⟩, fin, q⟩
  · obtain ⟨its, rv, pl, hz⟩ := I1.tuple hq
    refine wpAny_pyIter_tuple (show s1.heap.IsTuple a its.toArray from pl) ?_
    exact ⟨s1.heap.objs.size, [s1.heap.objs.size], _, _, H1, rfl, I1.kept (t' := s1.toks) (fun b o e => Heap.get?_push_of_some _ e), turn_tuple a _, ⟨_, Heap.get?_push_size _ rfl, rfl, rfl⟩, fin, q⟩
def D.items : D → Option (List D)
  | .lst ds => some ds
  | .tup ds => some ds
  | .ro ds => some ds
  | _ => none
def iOf (f : DV) : DL := fun ρ k E => f ρ (fun d => ∃ ds, d.items = some ds ∧ k ds) E
theorem ei_seq (h : EV X c W e f) : EI X c W tg e (iOf f) := by
  refine ⟨fun ρ k k' E E' hk hE q => h.mn _ _ _ E E' (fun d ⟨ds, h1, h2⟩ => ⟨ds, h1, hk _ h2⟩) hE q, wkI (pi_seq h.pe) ?_⟩
  rintro σ H R ⟨B, ρ, p, rp, q⟩
  refine ⟨B, ρ, p, rp, h.mn _ _ _ _ _ (fun d hd v B1 H1 s i1 => ?_) (fun _ z => z) q⟩
  obtain ⟨ds, h1, h2⟩ := hd
  cases i1 with
  | lst h3 r =>
    cases h1
    exact ⟨_, rfl, .inl ⟨⟨_, SqL.of (s.bh _ _ h3)⟩, h2 _ B1 H1 s (walk_lst (fun B H sm p => SqL.of (p.bh _ _ (sm _ _ h3))) r)⟩⟩
  | ro h3 r =>
    cases h1
    exact ⟨_, rfl, .inl ⟨⟨_, Same.l s.bh h3⟩, h2 _ B1 H1 s (walk_lst (fun B H sm p => Same.l p.bh (Same.l sm h3)) r)⟩⟩
  | tup h3 r =>
    cases h1
    exact ⟨_, rfl, .inr ⟨⟨_, SqT.of (s.bh _ _ h3)⟩, h2 _ B1 H1 s (walk_tup (fun B H sm p => SqT.of (p.bh _ _ (sm _ _ h3))) r)⟩⟩
  | _ => cases h1
/-- range -/
def rngD (lo hi : Int) : List D := (List.range (hi - lo).toNat).map fun i => .int (lo + (i : Nat))
theorem walk_rng {K : PySem.W.Frag} {c : Cn K} {Bl : Hp} (lo hi : Int) : WalkD c Bl (Itr lo (hi - lo).toNat) (rngD lo hi) := by
  intro B H i s p
  unfold rngD
  refine ⟨fun d hd => ?_, fun hl => by rw [List.length_map, List.length_range] at hl; exact Nat.le_of_eq hl.symm⟩
  rw [List.getElem?_map] at hd
  cases q : (List.range (hi - lo).toNat)[i]? with
  | none => rw [q] at hd; cases hd
  | some n =>
    rw [q] at hd
    obtain ⟨h1, h2⟩ := List.getElem?_eq_some_iff.mp q
    rw [List.getElem_range] at h2
    subst h2
    cases hd
    rw [List.length_range] at h1
    refine ⟨h1, fun x H' ⟨e1, e2⟩ => ?_⟩
    subst e1; subst e2
    exact ⟨B, Step.refl p, .int _⟩
def rng1 : List D → (List D → Prop) → Prop
  | [.int j], k => (-(2 ^ 62) ≤ j ∧ j < 2 ^ 62) ∧ k (rngD 0 j)
  | _, _ => False
def rng2 : List D → (List D → Prop) → Prop
  | [.int i, .int j], k => (-(2 ^ 62) ≤ i ∧ i < 2 ^ 62 ∧ -(2 ^ 62) ≤ j ∧ j < 2 ^ 62) ∧ k (rngD i j)
  | _, _ => False
def iArg (g : DL) (o : List D → (List D → Prop) → Prop) : DL := fun ρ k E => g ρ (fun ds => o ds k) E
theorem ei_rng1 {g : DL} (hg : Gl X "range") (hm : X.mg "range" = none) (ha : EA X c W [a] g) (hs : starEach [a] X.env = [(false, eval a X.env)] := by rfl) : EI X c W tg (.Call (.Name "range" p) [a] [] pos) (iArg g rng1) := by
  refine ⟨fun ρ k k' E E' hk hE q => ha.mn _ _ _ E E' (fun ds q => ?_) hE q, wkI (pi_range1 hg hm ha.pa hs) ?_⟩
  · unfold rng1 at q ⊢
    split at q
    · exact ⟨q.1, hk _ q.2⟩
    · exact q
  · rintro σ H R ⟨B, ρ, p, rp, q⟩
    refine ⟨B, ρ, p, rp, ha.mn _ _ _ _ _ (fun ds hd vs B1 H1 s i1 => ?_) (fun _ z => z) q⟩
    unfold rng1 at hd
    split at hd
    · obtain ⟨v, rfl, i2⟩ := Is1 i1
      cases i2
      exact ⟨_, rfl, hd.1.1, hd.1.2, hd.2 _ B1 H1 s (by have := walk_rng (c := c) (Bl := B1) 0 (by assumption); simpa using this)⟩
    · exact hd.elim
theorem ei_rng2 {g : DL} (hg : Gl X "range") (hm : X.mg "range" = none) (ha : EA X c W [a, b] g) (hs : starEach [a, b] X.env = [(false, eval a X.env), (false, eval b X.env)] := by rfl) (hs2 : starEach [b] X.env = [(false, eval b X.env)] := by rfl) : EI X c W tg (.Call (.Name "range" p) [a, b] [] pos) (iArg g rng2) := by
  refine ⟨fun ρ k k' E E' hk hE q => ha.mn _ _ _ E E' (fun ds q => ?_) hE q, wkI (pi_range2 hg hm ha.pa hs hs2) ?_⟩
  · unfold rng2 at q ⊢
    split at q
    · exact ⟨q.1, hk _ q.2⟩
    · exact q
  · rintro σ H R ⟨B, ρ, p, rp, q⟩
    refine ⟨B, ρ, p, rp, ha.mn _ _ _ _ _ (fun ds hd vs B1 H1 s i1 => ?_) (fun _ z => z) q⟩
    unfold rng2 at hd
    split at hd
    · obtain ⟨v, w, rfl, i2, i3⟩ := Is2 i1
      cases i2; cases i3
      exact ⟨_, _, rfl, hd.1, hd.2 _ B1 H1 s (walk_rng _ _)⟩
    · exact hd.elim

/-! ### for -/
def forD (g : DG) (f : DS) : List D → DS
  | [] => fun ρ k _ => k.nx ρ
  | d :: ds => fun ρ k E => g d ρ fun ρ' => f ρ' ⟨fun ρ2 => forD g f ds ρ2 k E, k.rt, k.nx, fun ρ2 => forD g f ds ρ2 k E⟩ E
def sFor (fi : DL) (g : DG) (f : DS) : DS := fun ρ k E => fi (viewN ρ) (fun ds => forD g f ds ρ k E) E
theorem forD_mn {g : DG} {f : DS} (hg : ∀ d ρ (k k' : Sl → Prop), (∀ ρ, k ρ → k' ρ) → g d ρ k → g d ρ k') (hf : MnS f) : ∀ ds, MnS (forD g f ds)
  | [] => fun ρ k k' E E' hk _ q => hk.nx ρ q
  | d :: ds => fun ρ k k' E E' hk hE q => hg d ρ _ _ (fun ρ' q => hf ρ' ⟨fun ρ2 => forD g f ds ρ2 k E, k.rt, k.nx, fun ρ2 => forD g f ds ρ2 k E⟩ ⟨fun ρ2 => forD g f ds ρ2 k' E', k'.rt, k'.nx, fun ρ2 => forD g f ds ρ2 k' E'⟩ E E'
      ⟨fun ρ2 q => forD_mn hg hf ds ρ2 k k' E E' hk hE q, hk.rt, hk.nx, fun ρ2 q => forD_mn hg hf ds ρ2 k k' E E' hk hE q⟩ hE q) q
theorem drop_at {α : Type} {l : List α} {i : Nat} {d : α} {r : List α} (h : l.drop i = d :: r) : l[i]? = some d ∧ l.drop (i + 1) = r := by
  constructor
  · have : (l.drop i)[0]? = some d := by rw [h]; rfl
    rw [List.getElem?_drop] at this
    simpa using this
  · have : (l.drop i).drop 1 = r := by rw [h]; rfl
    rw [List.drop_drop] at this
    exact this
theorem ss_for {S : List Nat} {fi : DL} {gt : DG} {fb : DS} {iter : Expr} {body : List Stmt} (m : Fm X W j) (hi : EI X c W tg iter fi) (hg : GT X c S tg gt) (hb : SB X c W body fb) (hs : ∀ x, foldedSetIterable iter X.env x = pure x := by intro _; rfl) : SS X c W (.For tg iter body [] pos) (sFor fi gt fb) := by
  refine ⟨fun ρ k k' E E' hk hE q => hi.mn _ _ _ E E' (fun ds q => forD_mn hg.mn hb.mn ds ρ k k' E E' hk hE q) hE q, wkS (ps_for m.po m.calm hi.pi hg.pg hb.ps hs) ?_⟩
  rintro D σ H ⟨H0, B0, Bs, ρ, r, q⟩
  refine ⟨Bs, _, r.pre, r.viewN, hi.mn _ _ _ _ _ (fun ds hd J B1 H1 s wk => ?_) (fun x hx => hx.repN r) q⟩
  have r1 := r.goN s
  refine ⟨fun i m σ H => m = ds.length - i ∧ i ≤ ds.length ∧ ∃ B ρ, Rep c H0 B0 B H σ ρ ∧ Same B1 B ∧ forD gt fb (ds.drop i) ρ (KS c H0 B0 Bs D) (Dv.XK c W B0 H0), ⟨ds.length, by simp, Nat.zero_le _, B1, ρ, r1, Same.refl B1, hd⟩, ?_⟩
  rintro i m σ H ⟨rfl, hle, B, ρ, r, sb, q⟩
  obtain ⟨w1, w2⟩ := wk B H i sb r.pre
  cases hdr : ds.drop i with
  | nil =>
    rw [hdr] at q
    refine .inl ⟨w2 (Nat.le_antisymm hle (by simpa using hdr)), q σ B H r fun a o e => sb a o (s.b a o e)⟩
  | cons d rest =>
    rw [hdr] at q
    obtain ⟨h1, h2⟩ := drop_at hdr
    obtain ⟨go, yl⟩ := w1 d h1
    have hlt : i < ds.length := (List.getElem?_eq_some_iff.mp h1).1
    refine .inr ⟨go, fun σ H => ∃ B ρ, Rep c H0 B0 B H σ ρ ∧ Same B1 B ∧ forD gt fb rest ρ (KS c H0 B0 Bs D) (Dv.XK c W B0 H0), fun σ' H' ⟨B', ρ', r', s', q'⟩ => ⟨ds.length - (i + 1), by omega, rfl, hlt, B', ρ', r', s', by rw [h2]; exact q'⟩, fun x H' y => ?_⟩
    obtain ⟨B2, st, ix⟩ := yl x H' y
    have sb2 : Same B1 B2 := fun a o e => st.b a o (sb a o e)
    refine ⟨H0, B0, B2, ρ, d, r.goN st, ix, hg.mn _ _ _ _ (fun ρ' q σ' r' _ => ?_) q⟩
    refine ⟨H0, B0, B2, ρ', r', hb.mn ρ' ⟨fun ρ2 => forD gt fb rest ρ2 (KS c H0 B0 Bs D) (Dv.XK c W B0 H0), (KS c H0 B0 Bs D).rt, (KS c H0 B0 Bs D).nx, fun ρ2 => forD gt fb rest ρ2 (KS c H0 B0 Bs D) (Dv.XK c W B0 H0)⟩ _ _ _
      ⟨fun ρ2 q σ2 B3 H3 r3 z => ⟨B3, ρ2, r3, fun a o e => z a o (sb2 a o e), q⟩, fun _ h => h, fun ρ2 q σ2 B3 H3 r3 z => q σ2 B3 H3 r3 fun a o e => z a o (sb2 a o (s.b a o e)), fun ρ2 q σ2 B3 H3 r3 z => ⟨B3, ρ2, r3, fun a o e => z a o (sb2 a o e), q⟩⟩ (fun _ h => h) q⟩
end
end Dv

set_option Elab.async false
set_option linter.all false
set_option maxRecDepth 100000
set_option maxHeartbeats 2000000
namespace Dv
open PySem PySem.Spec PyProof.Rows L2
theorem Step.put {K : PySem.W.Frag} {c : Cn K} {B H B1 H1 : Hp} (s : Step c B H B1 H1) (p : Pre c B H) {a : Addr} {o : HO} (h : H a = none) (hb : B1 a = none) : Step c B H B1 (upd H1 a o) := by
  refine ⟨s.b, fun b u e => ?_, s.dom, fun b u e n z => ?_, fun b e => ?_, c.loc _ _ (fun b u m e => ?_) s.inv, s.av⟩
  · rw [upd_ne (ne_of_none e hb)]; exact s.bh b u e
  · rw [upd_ne (fun z => by rw [z, h] at e; cases e)]; exact s.out b u e n z
  · by_cases q : b = a
    · rw [q, upd_same]; exact fun z => nomatch z
    · rw [upd_ne q]; exact s.th b e
  · rw [upd_ne (fun z => p.nmu h (by rw [← z]; exact m))]; exact e
theorem wipe_in {σ : L2.St} {i : Nat} : ∀ {vs : List Nat}, i ∈ vs → (wipe σ vs)[i]? = if i < σ.length then some none else none
  | v :: vs, h => by
    unfold wipe
    by_cases q : v = i
    · subst q
      by_cases hl : v < σ.length
      · rw [if_pos hl, List.getElem?_set_self (by rw [wipe_length]; exact hl)]
      · rw [if_neg hl, List.getElem?_eq_none (by rw [List.length_set, wipe_length]; omega)]
    · rw [List.getElem?_set_ne q]
      exact wipe_in (by
        rcases List.mem_cons.mp h with z | z
        · exact absurd z.symm q
        · exact z)
theorem But.wipe {S vs : List Nat} {σ σ' : L2.St} (b : But S (wipe σ vs) σ') (h : ∀ i ∈ S, i ∈ vs) : wipe σ' vs = wipe σ vs := by
  have hl : σ'.length = σ.length := b.1.trans (wipe_length σ vs)
  apply List.ext_getElem?
  intro i
  by_cases q : i ∈ vs
  · rw [wipe_in q, wipe_in q, hl]
  · rw [wipe_out q, b.2 i fun z => q (h i z)]
/-- a view as slots -/
def toSl (ρ : View) : Sl := ρ.map fun o => o.map Slot.val
def wipeV (ρ : View) : List Nat → View
  | [] => ρ
  | v :: vs => (wipeV ρ vs).set v none
theorem wipeV_length (ρ : View) : ∀ vs : List Nat, (wipeV ρ vs).length = ρ.length
  | [] => rfl
  | v :: vs => by unfold wipeV; rw [List.length_set, wipeV_length ρ vs]
theorem wipeV_some {ρ : View} {i : Nat} {d : D} : ∀ {vs : List Nat}, (wipeV ρ vs)[i]? = some (some d) → ρ[i]? = some (some d) ∧ i ∉ vs
  | [], h => ⟨h, by simp⟩
  | v :: vs, h => by
    unfold wipeV at h
    rcases set_get h with ⟨_, _, e⟩ | ⟨n, h⟩
    · cases e
    · obtain ⟨h1, h2⟩ := wipeV_some h
      exact ⟨h1, by simp only [List.mem_cons, not_or]; exact ⟨n, h2⟩⟩
theorem RepV.wipe {K : PySem.W.Frag} {c : Cn K} {B : Hp} {σ : L2.St} {ρ : View} (r : RepV c B σ ρ) (vs : List Nat) : RepV c B (wipe σ vs) (wipeV ρ vs) := by
  refine ⟨by rw [wipeV_length, wipe_length]; exact r.1, fun i d h => ?_⟩
  obtain ⟨h1, h2⟩ := wipeV_some h
  rw [wipe_out h2]
  exact r.2 i d h1
theorem RepV.rep {K : PySem.W.Frag} {c : Cn K} {B H : Hp} {σ : L2.St} {ρ : View} (r : RepV c B σ ρ) (p : Pre c B H) : Rep c H B B H σ (toSl ρ) := by
  have g : ∀ (i : Nat) (s : Slot), (toSl ρ)[i]? = some (some s) → ∃ d, s = .val d ∧ ρ[i]? = some (some d) := fun i s h => by
    unfold toSl at h
    rw [List.getElem?_map] at h
    cases q : ρ[i]? with
    | none => rw [q] at h; cases h
    | some o =>
      rw [q] at h
      cases o with
      | none => cases h
      | some d => cases h; exact ⟨d, rfl, rfl⟩
  refine ⟨p, Step.refl p, by unfold toSl; rw [List.length_map]; exact r.1, fun i s h => ?_, fun i j a ds es h => ?_⟩
  · obtain ⟨d, rfl, h1⟩ := g i s h
    exact r.2 i d h1
  · obtain ⟨d, e, _⟩ := g i _ h
    cases e
abbrev W0 : WX := fun _ _ _ _ => False
theorem XK0 {K : PySem.W.Frag} {c : Cn K} {B H : Hp} : ∀ x : Exn, False → XK c W0 B H x := fun _ h => h.elim
structure ETs (X : Cx) (c : Cn X.K) (W : WX) (ifs : List Expr) (f : DB) : Prop where
  mn : Mn f
  pt : PTs X ifs (tT c W f)
def bYes : DB := fun _ k _ => k true
theorem ets_nil {X : Cx} {c : Cn X.K} {W : WX} : ETs X c W [] bYes :=
  ⟨fun ρ k k' E E' hk hE q => hk _ q, ⟨fun pins s σ H Q I h => pts_nil.run pins s σ H Q I (let ⟨B, ρ, p, rp, q⟩ := h; q B H (Step.refl p))⟩⟩
theorem ets_one {X : Cx} {c : Cn X.K} {W : WX} {e : Expr} {f : DB} (h : EB X c W e f) : ETs X c W [e] f := ⟨h.mn, pts_one h.pt⟩
/-- [e for t in .. if ..] -/
def compD (g : DG) (ft : DB) (fe : DV) (ρ : View) : List D → List D → (List D → Prop) → Prop
  | [], acc, k => k acc
  | d :: ds, acc, k => g d (toSl ρ) fun ρ' => ft (viewN ρ') (fun b => (b = true → fe (viewN ρ') (fun y => acc.length < sizeLine ∧ compD g ft fe ρ ds (acc ++ [y]) k) fun _ => False) ∧ (b = false → compD g ft fe ρ ds acc k)) fun _ => False
def rComp (fi : DL) (g : DG) (ft : DB) (fe : DV) (vs : List Nat) : DR := fun ρ k E => fi ρ (fun ds => compD g ft fe (wipeV ρ vs) ds [] fun acc => k (.new acc)) E
theorem compD_mn {g : DG} {ft : DB} {fe : DV} {ρ : View} (hg : ∀ d ρ (k k' : Sl → Prop), (∀ ρ, k ρ → k' ρ) → g d ρ k → g d ρ k') (ht : Mn ft) (he : Mn fe) : ∀ (ds acc : List D) (k k' : List D → Prop), (∀ a, k a → k' a) → compD g ft fe ρ ds acc k → compD g ft fe ρ ds acc k'
  | [], acc, k, k', hk, q => hk _ q
  | d :: ds, acc, k, k', hk, q => hg d _ _ _ (fun ρ' q => ht _ _ _ _ _ (fun b ⟨q1, q2⟩ => ⟨fun z => he _ _ _ _ _ (fun y ⟨q3, q4⟩ => ⟨q3, compD_mn hg ht he ds _ k k' hk q4⟩) (fun _ h => h) (q1 z), fun z => compD_mn hg ht he ds _ k k' hk (q2 z)⟩) (fun _ h => h) q) q
section
variable {X : Cx} {c : Cn X.K} {W : WX} {e a b tg : Expr} {es : List Expr} {pos p apos cpos : Pos} {f g : DV} {j k : Nat}
theorem comp_ok {S vs : List Nat} {fi : DL} {gt : DG} {ft : DB} {fe : DV} {iter : Expr} (hi : EI X c W tg iter fi) (hS : ∀ i ∈ S, i ∈ vs) (hg : ∀ d ρ (k k' : Sl → Prop), (∀ ρ, k ρ → k' ρ) → gt d ρ k → gt d ρ k') (ht : Mn ft) (he : Mn fe) :
    Mn (rComp fi gt ft fe vs) ∧ ∀ σ H Q, tR c W (rComp fi gt ft fe vs) σ H Q → tLc (tI c W fi) (tG c S gt) (tT c W0 ft) (tV c W0 fe) vs σ H Q := by
  refine ⟨fun ρ k k' E E' hk hE q => hi.mn _ _ _ E E' (fun ds q => compD_mn hg ht he ds [] _ _ (fun a => hk _) q) hE q, ?_⟩
  rintro σ H Q ⟨B, ρ, p, rp, q⟩
  refine ⟨B, ρ, p, rp, hi.mn _ _ _ _ _ (fun ds hd J B1 H1 s1 wk Dl hD => ?_) (fun _ z => z) q⟩
  have p1 := s1.pre
  refine ⟨fun i m Hc => m = ds.length - i ∧ i ≤ ds.length ∧ ∃ Bc acc av, Step c B1 H1 Bc Hc ∧ Bc Dl = none ∧ Hc Dl = some (.lst av) ∧ IsL c Bc av acc ∧ compD gt ft fe (wipeV ρ vs) (ds.drop i) acc (fun acc => ∀ v B' H', Step c B H B' H' → RvOk c H B' H' v (.new acc) → Q v H'),
    ⟨ds.length, by simp, Nat.zero_le _, B1, [], [], Step.lay p1 hD _, p1.bnone hD, upd_same, .nil, hd⟩, ?_⟩
  rintro i m Hc ⟨rfl, hle, Bc, acc, av, sc, hb, ha, hl, q⟩
  have sb : Same B1 Bc := sc.b
  obtain ⟨w1, w2⟩ := wk Bc Hc i sb sc.pre
  cases hdr : ds.drop i with
  | nil =>
    rw [hdr] at q
    exact .inl ⟨w2 (Nat.le_antisymm hle (by simpa using hdr)), q _ Bc Hc (s1.trans sc) (rv_new ha hl hb (fresh0 s1 hD))⟩
  | cons d rest =>
    rw [hdr] at q
    obtain ⟨h1, h2⟩ := drop_at hdr
    obtain ⟨go, yl⟩ := w1 d h1
    have hlt : i < ds.length := (List.getElem?_eq_some_iff.mp h1).1
    refine .inr ⟨go, fun Hn => ∃ Bn acc an, Step c B1 H1 Bn Hn ∧ Bn Dl = none ∧ Hn Dl = some (.lst an) ∧ IsL c Bn an acc ∧ compD gt ft fe (wipeV ρ vs) rest acc (fun acc => ∀ v B' H', Step c B H B' H' → RvOk c H B' H' v (.new acc) → Q v H'),
      fun Hn ⟨Bn, acc, an, k1, k2, k3, k4, k5⟩ => ⟨ds.length - (i + 1), by omega, rfl, hlt, Bn, acc, an, k1, k2, k3, k4, by rw [h2]; exact k5⟩, fun x H' y => ?_⟩
    obtain ⟨B2, st, ix⟩ := yl x H' y
    have nD : ∀ {Ba Ha : Hp}, Step c Bc Hc Ba Ha → Ba Dl = none ∧ Ha Dl = some (.lst av) := fun {Ba Ha} s => by
      have hne : Hc Dl ≠ none := by rw [ha]; exact fun z => nomatch z
      exact ⟨(s.dom Dl hne).trans hb, s.out Dl _ ha (p1.nmu hD) fun _ z => nomatch z⟩
    have sm2 : Same B B2 := fun a o e => st.b a o (sb a o (s1.b a o e))
    have rw2 := (rp.mono sm2).wipe vs
    refine ⟨H', B2, B2, _, d, rw2.rep st.pre, ix, hg _ _ _ _ (fun ρ' q σ' r' bt => ⟨bt.wipe hS, ?_⟩) q⟩
    refine ⟨B2, _, st.pre, r'.viewN, ht _ _ _ _ _ (fun b qb B3 H3 s3 => ?_) XK0 q⟩
    have st3 := st.trans s3
    cases b with
    | true =>
      refine iteT ?_
      refine ⟨B3, _, s3.pre, r'.viewN.mono s3.b, he _ _ _ _ _ (fun y qy v B4 H4 s4 iv => ?_) XK0 (qb.1 rfl)⟩
      have st4 := st3.trans s4
      obtain ⟨e1, e2⟩ := nD st4
      refine ⟨av, e2, by rw [hl.length]; exact qy.1, B4, acc ++ [y], av ++ [v], (sc.trans st4).put p1 hD e1, e1, upd_same, (hl.mono st4.b).append (.cons iv .nil), qy.2⟩
    | false =>
      refine iteF ?_
      obtain ⟨e1, e2⟩ := nD st3
      exact ⟨B3, acc, av, sc.trans st3, e1, e2, hl.mono st3.b, qb.2 rfl⟩
abbrev BX (X : Cx) (scope : Scope) (s : Shared) (H : Hp) (C : Addr) (cl : List (Str × Addr)) (fp : List Addr) : Cx := X.blk s H scope (compEnvC scope cl C X.env) fp
theorem Fm.blk (m : Fm X W j) {scope : Scope} {s : Shared} {H : Hp} {C : Addr} {cl : List (Str × Addr)} {fp : List Addr} : Fm (BX X scope s H C cl fp) W0 j := ⟨m.nd, m.calm, m.room, m.gd, LamX.takes0, .never⟩
theorem er_comp {S : List Nat} {fi : DL} {gt : DG} {ft : DB} {fe : DV} {iter elt : Expr} {ifs : List Expr} {scope : Scope} {own : List (Str × Nat)} (m : Fm X W j) (hi : EI X c W tg iter fi) (ok : blkC X.N X.env.scope scope own = true)
    (hg : ∀ s H C cl fp, GT (BX X scope s H C cl fp) c S tg gt) (ht : ∀ s H C cl fp, ETs (BX X scope s H C cl fp) c W0 ifs ft) (he : ∀ s H C cl fp, EV (BX X scope s H C cl fp) c W0 elt fe)
    (hS : ∀ i ∈ S, i ∈ own.map (·.2) := by decide) (hs : ∀ x, foldedSetIterable iter X.env x = pure x := by intro _; rfl) (s0 : Shared := by assumption) : ER X c W (.ListComp elt [⟨tg, iter, ifs, 0⟩] scope pos) (rComp fi gt ft fe (own.map (·.2))) := by
  have h := comp_ok (vs := own.map (·.2)) hi hS (hg s0 (fun _ => none) 0 [] []).mn (ht s0 (fun _ => none) 0 [] []).mn (he s0 (fun _ => none) 0 [] []).mn
  exact ⟨h.1, wkE (pe_lc m.calm m.nd hi.pi (blkOk_by ok) (fun s H C cl fp => (hg s H C cl fp).pg) (fun s H C cl fp => (ht s H C cl fp).pt) (fun s H C cl fp => (he s H C cl fp).pe) hs) h.2⟩
/-- y = [e for ..] on one line -/
theorem ss_comp {S : List Nat} {i : Nat} {y : Str} {py spos : Pos} {fs : DS} {fi : DL} {gt : DG} {ft : DB} {fe : DV} {iter elt : Expr} {ifs : List Expr} {scope : Scope} {own : List (Str × Nat)} (m : Fm X W j) (hi : EI X c W tg iter fi) (ok : blkC X.N X.env.scope scope own = true)
    (hg : ∀ s H C cl fp, GT (BX X scope s H C cl fp) c S tg gt) (ht : ∀ s H C cl fp, ETs (BX X scope s H C cl fp) c W0 ifs ft) (he : ∀ s H C cl fp, EV (BX X scope s H C cl fp) c W0 elt fe)
    (hok : ∀ {e : Expr}, ER X c W e (rComp fi gt ft fe (own.map (·.2))) → MnS fs ∧ ∀ D σ H, tS c W fs D σ H → tAsg (tR c W (rComp fi gt ft fe (own.map (·.2)))) (gName i) D σ H)
    (hy : X.N[i]? = some y := by rfl) (hyl : X.env.scope.names.lookup y = some .local := by rfl) (hk : X.env.scope.kind = .function := by rfl) (hl : (py.line == pos.line) = true := by rfl) (hsw : (scope.names.any fun (n, k) => n == y && (k == .local || k == .cell)) = false := by rfl)
    (hS : ∀ i ∈ S, i ∈ own.map (·.2) := by decide) (hs : ∀ x, foldedSetIterable iter X.env x = pure x := by intro _; rfl) (s0 : Shared := by assumption) : SS X c W (.Assign [.Name y py] (.ListComp elt [⟨tg, iter, ifs, 0⟩] scope pos) spos) fs := by
  have h := comp_ok (vs := own.map (·.2)) hi hS (hg s0 (fun _ => none) 0 [] []).mn (ht s0 (fun _ => none) 0 [] []).mn (he s0 (fun _ => none) 0 [] []).mn
  have h2 := hok (er_comp (pos := pos) m hi ok hg ht he hS hs s0)
  refine ⟨h2.1, wkS (ps_setLc (wi := tI c W fi) (g := tG c S gt) (tt := tT c W0 ft) (te := tV c W0 fe) m.calm m.nd hy hyl (sw_true hk hyl hl hsw) hi.pi (blkOk_by ok) (fun s H C cl fp => (hg s H C cl fp).pg) (fun s H C cl fp => (ht s H C cl fp).pt) (fun s H C cl fp => (he s H C cl fp).pe) hs) fun D σ H q => ?_⟩
  exact h.2 σ H _ (h2.2 D σ H q)
end
end Dv

set_option Elab.async false
set_option linter.all false
set_option maxRecDepth 100000
set_option maxHeartbeats 2000000
namespace Dv
open PySem PySem.Spec PyProof.Rows L2
/-! ### sequences told by a flag: tuple (true) or list -/
def SqK (t : Bool) (K : PySem.W.Frag) (H : Hp) (a : Addr) (xs : List V) : Prop := if t = true then SqT K H a xs else SqL K H a xs
def SeqK (t : Bool) (h : Heap) (a : Addr) (its : Array Value) : Prop := if t = true then h.IsTuple a its else h.IsList a its
def IterK (t : Bool) (h : Heap) (it a : Addr) (i : Nat) : Prop := if t = true then h.IsTupleIter it a i else h.IsListIter it a i
def itO (t : Bool) (a : Addr) : Obj := if t = true then { cls := .type "tuple_iterator", data := .fields #[.ref a, .int 0 0] } else { cls := .type "list_iterator", data := .fields #[.ref a, .int 0 0] }
theorem drawsK {prog : Program} {w : World} {A : Around} (t : Bool) (hh : A.handled = none) (it a : Addr) (hne : a ≠ it) (items : Array Value) :
    Draws prog w A it [it, a] items.size (fun i v => items[i]? = some v) (fun i h => IterK t h it a i ∧ SeqK t h a items) := by
  cases t with
  | true => exact Draws.tuple hh it a hne items
  | false => exact Draws.list hh it a hne items
theorem beginsK (t : Bool) (a : Addr) (items : Array Value) : Begins (.ref a) (itO t a) (fun h => SeqK t h a items) := by
  cases t with
  | true => exact begins_tuple a items
  | false => exact begins_list a items
section
variable {X : Cx} {pins : List (Addr × Obj)} {σ : L2.St} {H : Hp} {s : Shared}
theorem seqK {t : Bool} {a : Addr} {xs : List V} (I : Inv X pins σ H s) (h : SqK t X.K H a xs) : ∃ its, Vals xs its ∧ SeqK t s.heap a its.toArray := by
  cases t with
  | true => obtain ⟨its, rv, p, _⟩ := I.tuple h; exact ⟨its, rv, p⟩
  | false => obtain ⟨its, rv, p, _⟩ := I.list h; exact ⟨its, rv, p.isList⟩
theorem SeqK.lt {t : Bool} {h : Heap} {a : Addr} {its : Array Value} (x : SeqK t h a its) : a < h.objs.size := by
  cases t with
  | true => obtain ⟨o, e, _⟩ := x; exact Heap.lt_size e
  | false => obtain ⟨o, e, _⟩ := x; exact Heap.lt_size e
theorem IterK.ob {t : Bool} {h : Heap} {it a : Addr} {i : Nat} (x : IterK t h it a i) : ∃ o, h.get? it = some o ∧ ∀ v, o.data ≠ .cell v := by
  cases t with
  | true => obtain ⟨o, e, _, d⟩ := x; exact ⟨o, e, fun v q => by rw [d] at q; cases q⟩
  | false => obtain ⟨o, e, _, d⟩ := x; exact ⟨o, e, fun v q => by rw [d] at q; cases q⟩
theorem IterK.at {t : Bool} {h h' : Heap} {it a : Addr} {i : Nat} (x : IterK t h it a i) (k : ∀ o, h.get? it = some o → h'.get? it = some o) : IterK t h' it a i := by
  cases t with
  | true => exact Heap.IsTupleIter.at x k
  | false => exact Heap.IsListIter.at x k
theorem iter0 {t : Bool} {h : Heap} {it a : Addr} (x : h.get? it = some (itO t a)) : IterK t h it a 0 := by
  cases t with
  | true => exact ⟨_, x, rfl, rfl⟩
  | false => exact ⟨_, x, rfl, rfl⟩
theorem sqK_inj {t : Bool} {a : Addr} {xs ys : List V} (I : Inv X pins σ H s) (h : SqK t X.K H a xs) (h' : SqK t X.K H a ys) : xs = ys := by
  cases t with
  | true => exact I.tuple_inj h h'
  | false => exact I.list_inj h h'
theorem newTup (I : Inv X pins σ H s) {h' : Heap} {T : Addr} {vs : List V} {us : List Value} (hT : h'.IsTuple T us.toArray) (r : Vals vs us) (hz : vs.length ≤ 8) : ObjOk X.prog X.w (upd H T (.tup vs)) h' T (.tup vs) := by
  obtain ⟨o, e, hc, n, hd⟩ := hT
  refine ⟨Nat.le_trans hz (by decide), us, r, o, e, hc, n, hd⟩
end
/-! ### zip of two -/
def ItZ (t1 t2 : Bool) (K : PySem.W.Frag) (a b : Addr) : It :=
  ⟨fun i H => ∃ (xs ys : List V) (x y : V), SqK t1 K H a xs ∧ SqK t2 K H b ys ∧ xs[i]? = some x ∧ ys[i]? = some y,
    fun i H v H' => ∃ T x y, v = .ref T ∧ H T = none ∧ H' = upd H T (.tup [x, y]) ∧ (∀ xs, SqK t1 K H a xs → xs[i]? = some x) ∧ ∀ ys, SqK t2 K H b ys → ys[i]? = some y,
    fun i H => ∃ xs ys : List V, SqK t1 K H a xs ∧ SqK t2 K H b ys ∧ i = min xs.length ys.length⟩
theorem turn_Z {P : Program} {w : World} {K : PySem.W.Frag} {elts : List Expr} {kk : Nat} {tpos : Pos} {t1 t2 : Bool} {a b z TI TO i1 i2 : Addr} (D : ZipSep2 z TI TO i1 i2 [i1, a] [i2, b]) (h1 : a ≠ i1) (h2 : b ≠ i2) :
    Turn P w K (.Tuple elts kk tpos) (ItZ t1 t2 K a b) [z, TI, TO, i1, i2] z (fun i h => IsZip h z TI TO .none ∧ IsTupOf2 h TI (.ref i1) (.ref i2) ∧ (∃ x y, IsTupOf2 h TO x y) ∧ IterK t1 h i1 a i ∧ IterK t2 h i2 b i) where
  mem := by simp
  obj := fun i h st c hc => by
    obtain ⟨hz, hTI, ⟨x, y, hTO⟩, q1, q2⟩ := st
    have e' : c = z ∨ c = TI ∨ c = TO ∨ c = i1 ∨ c = i2 := by simpa using hc
    rcases e' with q | q | q | q | q
    · rw [q]; exact ⟨_, hz, fun v q => nomatch q⟩
    · rw [q]; exact ⟨_, hTI, fun v q => nomatch q⟩
    · rw [q]; exact ⟨_, hTO, fun v q => nomatch q⟩
    · rw [q]; exact q1.ob
    · rw [q]; exact q2.ob
  keep := fun i h h' st k => by
    obtain ⟨hz, hTI, ⟨x, y, hTO⟩, q1, q2⟩ := st
    exact ⟨k z (by simp) _ hz, k TI (by simp) _ hTI, ⟨x, y, k TO (by simp) _ hTO⟩, q1.at fun o q => k i1 (by simp) o q, q2.at fun o q => k i2 (by simp) o q⟩
  item := by
    intro X hP hw hK hc i pins s σ H E I hf st hg
    subst hP hw hK
    obtain ⟨hz, hTI, hTO, q1, q2⟩ := st
    obtain ⟨xs, ys, x, y, hqx, hqy, hx, hy⟩ := hg
    obtain ⟨its, rv, p⟩ := seqK I hqx
    obtain ⟨its2, rv2, p2⟩ := seqK I hqy
    have lx := (List.getElem?_eq_some_iff.mp hx).1
    have ly := (List.getElem?_eq_some_iff.mp hy).1
    have l1 := rv.length
    have l2 := rv2.length
    have hh : X.A.in1.handled = none := I.ok.hd hc
    refine wpAny_mono ((GoesN.zip2 (elts := elts) (x1 := kk) (pos := tpos) D (drawsK t1 hh i1 a h1 its.toArray) (drawsK t2 hh i2 b h2 its2.toArray)).goes i s _ (by simp; omega) ⟨hz, hTI, hTO, ⟨q1, p⟩, ⟨q2, p2⟩⟩
      (Q := fun u s2 => ∃ x H', Inv X pins σ H' s2 ∧ RelV x u ∧ (ItZ t1 t2 X.K a b).yld i H x H' ∧ (IsZip s2.heap z TI TO .none ∧ IsTupOf2 s2.heap TI (.ref i1) (.ref i2) ∧ (∃ x y, IsTupOf2 s2.heap TO x y) ∧ IterK t1 s2.heap i1 a (i + 1) ∧ IterK t2 s2.heap i2 b (i + 1)) ∧ ∀ b ∈ [z, TI, TO, i1, i2], H' b = none) fun v h' tk hY st' hk htk => ?_) (fun _ _ h => h) fun _ _ h => h
    obtain ⟨T, u1, u2, rfl, hT, e1, e2, hTu⟩ := hY
    obtain ⟨s1, s2, s3, ⟨s4, _⟩, ⟨s5, _⟩⟩ := st'
    obtain ⟨w1, e3, r1⟩ := rv.get hx
    obtain ⟨w2, e4, r2⟩ := rv2.get hy
    have ew1 : w1 = u1 := by
      have : its.toArray[i]? = some w1 := by simpa using e3
      rw [this] at e1; exact Option.some.inj e1
    have ew2 : w2 = u2 := by
      have : its2.toArray[i]? = some w2 := by simpa using e4
      rw [this] at e2; exact Option.some.inj e2
    subst ew1; subst ew2
    have hsub : ∀ c ∈ [z, TO, i1, i2], c ∈ [z, TI, TO, i1, i2] := fun c hc => by
      simp at hc ⊢; rcases hc with q | q | q | q <;> simp [q]
    refine ⟨.ref T, _, I.turnedNew (t' := tk) hk (fun c hc => hf c (hsub c hc)) hT (newTup I (us := [w1, w2]) (vs := [x, y]) hTu (.cons r1 (.cons r2 .nil)) (by simp)), rfl, ⟨T, x, y, rfl, I.hok.fresh hT, rfl, fun l hl => by rw [sqK_inj I hl hqx]; exact hx, fun l hl => by rw [sqK_inj I hl hqy]; exact hy⟩, ⟨s1, s2, s3, s4, s5⟩, fun c hcm => ?_⟩
    have hlt : c < s.heap.objs.size := by
      have e' : c = z ∨ c = TI ∨ c = TO ∨ c = i1 ∨ c = i2 := by simpa using hcm
      rcases e' with q | q | q | q | q
      · rw [q]; exact Heap.lt_size hz
      · rw [q]; exact Heap.lt_size hTI
      · rw [q]; obtain ⟨_, _, g⟩ := hTO; exact Heap.lt_size g
      · rw [q]; obtain ⟨_, e1, _⟩ := q1.ob; exact Heap.lt_size e1
      · rw [q]; obtain ⟨_, e2, _⟩ := q2.ob; exact Heap.lt_size e2
    rw [upd_ne (Nat.ne_of_lt (Nat.lt_of_lt_of_le hlt hT))]
    exact (hf c hcm).1
  done := by
    intro X hP hw hK hc i pins s σ H E I hf st hg
    subst hP hw hK
    obtain ⟨hz, hTI, hTO, q1, q2⟩ := st
    obtain ⟨xs, ys, hqx, hqy, hend⟩ := hg
    obtain ⟨its, rv, p⟩ := seqK I hqx
    obtain ⟨its2, rv2, p2⟩ := seqK I hqy
    have l1 := rv.length
    have l2 := rv2.length
    have hh : X.A.in1.handled = none := I.ok.hd hc
    have hmin : i = min its.toArray.size its2.toArray.size := by simp; omega
    have hsub : ∀ c ∈ [z, TO, i1, i2], c ∈ [z, TI, TO, i1, i2] := fun c hc => by
      simp at hc ⊢; rcases hc with q | q | q | q <;> simp [q]
    refine (GoesN.zip2 (elts := elts) (x1 := kk) (pos := tpos) D (drawsK t1 hh i1 a h1 its.toArray) (drawsK t2 hh i2 b h2 its2.toArray)).stops s _ _ ⟨hz, hTI, hTO, ⟨hmin ▸ q1, p⟩, ⟨hmin ▸ q2, p2⟩⟩ fun h' tk hk htk => ?_
    exact I.turnedL (t' := tk) hk fun c hc => hf c (hsub c hc)
  self := fun A i s Q E st h => wpAny_pyIter_zip st.1 h
/-- zip(a, b) begins -/
theorem zipK_begins {prog : Program} {w : World} {A : Around} {E : Value → Shared → Prop} {s : Shared} {t1 t2 : Bool} {a b : Addr} {its its2 : Array Value} {Q : Value → Shared → Prop} (h1 : SeqK t1 s.heap a its) (h2 : SeqK t2 s.heap b its2)
    (h : ∀ h', (IsZip h' (s.heap.objs.size + 4) (s.heap.objs.size + 2) (s.heap.objs.size + 3) .none ∧ IsTupOf2 h' (s.heap.objs.size + 2) (.ref s.heap.objs.size) (.ref (s.heap.objs.size + 1)) ∧ (∃ x y, IsTupOf2 h' (s.heap.objs.size + 3) x y) ∧ IterK t1 h' s.heap.objs.size a 0 ∧ IterK t2 h' (s.heap.objs.size + 1) b 0) →
      (∀ c o, s.heap.get? c = some o → h'.get? c = some o) → Q (.ref (s.heap.objs.size + 4)) { s with heap := h' }) :
    wpAny (model prog w) A (call (.type "zip") [.ref a, .ref b]) Q E s :=
  zip_begins2 (beginsK t1 a its) (beginsK t2 b its2) h1 h2 fun h' g1 g2 g3 g4 g5 g6 k => h h' ⟨g1, g2, ⟨_, _, g3⟩, iter0 g4, iter0 g5⟩ k
def iZK (K : PySem.W.Frag) (ta : TA) : TI := fun σ H R => ta σ H fun vs H1 => ∃ t1 t2 a b xs ys, vs = [.ref a, .ref b] ∧ SqK t1 K H1 a xs ∧ SqK t2 K H1 b ys ∧ R (ItZ t1 t2 K a b) H1
theorem pi_zipK {X : Cx} {e e2 : Expr} {ta : TA} {p pos tpos : Pos} {elts : List Expr} {kk : Nat} (hg : Gl X "zip") (hm : X.mg "zip" = none) (ha : PA X [e, e2] ta)
    (hs : starEach [e, e2] X.env = (false, eval e X.env) :: starEach [e2] X.env := by rfl) (hpl : (backTo pos (starEach [e2] X.env)).any (·.1) = false := by rfl) :
    PI X (.Tuple elts kk tpos) (.Call (.Name "zip" p) [e, e2] [] pos) (iZK X.K ta) := by
  refine ⟨fun pins s σ H R I h => ?_⟩
  refine Call_ (ld_blt I hg hm PyProof.Rows.boot_zip (PyProof.Rows.callWith_type1 (thn (ha.run pos pins s σ H _ I h) fun us s1 ⟨vs, H1, I1, r1, q1⟩ => ?_) hs hpl))
  obtain ⟨t1, t2, a, b, xs, ys, ex, hqx, hqy, q⟩ := q1
  subst ex
  cases r1 with
  | cons r rr =>
    cases rr with
    | cons r' rr =>
      cases rr
      cases r
      cases r'
      obtain ⟨its, rv, p1⟩ := seqK I1 hqx
      obtain ⟨its2, rv2, p2⟩ := seqK I1 hqy
      refine zipK_begins p1 p2 fun h' st hk => wpAny_pyIter_zip st.1 ?_
      have I2 : Inv X pins σ H1 { s1 with heap := h' } := I1.kept (t' := s1.toks) hk
      refine ⟨s1.heap.objs.size + 4, [s1.heap.objs.size + 4, s1.heap.objs.size + 2, s1.heap.objs.size + 3, s1.heap.objs.size, s1.heap.objs.size + 1], _, _, H1, rfl, I2, turn_Z (zip_sep2 (fp1 := [a]) (fp2 := [b]) (fun c hc => by rw [List.mem_singleton.mp hc]; exact p1.lt) fun c hc => by rw [List.mem_singleton.mp hc]; exact p2.lt) (Nat.ne_of_lt p1.lt) (Nat.ne_of_lt (Nat.lt_succ_of_lt p2.lt)), st, fun c hcm => ?_, q⟩
      have e' : c = s1.heap.objs.size + 4 ∨ c = s1.heap.objs.size + 2 ∨ c = s1.heap.objs.size + 3 ∨ c = s1.heap.objs.size ∨ c = s1.heap.objs.size + 1 := by simpa using hcm
      have hle : s1.heap.objs.size ≤ c := by
        rcases e' with z | z | z | z | z <;> rw [z] <;> first | exact Nat.le_refl _ | exact Nat.le_add_right _ _
      exact I1.fpOk hle (I1.hok.fresh hle)
/-! ### enumerate -/
def ItE (t : Bool) (K : PySem.W.Frag) (a : Addr) : It :=
  ⟨fun i H => ∃ (xs : List V) (x : V), SqK t K H a xs ∧ xs[i]? = some x, fun i H v H' => ∃ T x, v = .ref T ∧ H T = none ∧ H' = upd H T (.tup [.int (i : Nat), x]) ∧ ∀ xs, SqK t K H a xs → xs[i]? = some x, fun i H => ∃ xs : List V, SqK t K H a xs ∧ i = xs.length⟩
theorem turn_E {P : Program} {w : World} {K : PySem.W.Frag} {elts : List Expr} {kk : Nat} {tpos : Pos} {t : Bool} {a e it : Addr} (hei : e ≠ it) (hea : e ≠ a) (hai : a ≠ it) :
    Turn P w K (.Tuple elts kk tpos) (ItE t K a) [e, it] e (fun i h => (∃ old, IsEnum h e it (0 + (i : Int)) old) ∧ IterK t h it a i) where
  mem := by simp
  obj := fun i h st b hb => by
    obtain ⟨⟨old, he⟩, q⟩ := st
    have e' : b = e ∨ b = it := by simpa using hb
    rcases e' with z | z
    · rw [z]; exact ⟨_, he, fun v q => nomatch q⟩
    · rw [z]; exact q.ob
  keep := fun i h h' st k => let ⟨⟨old, he⟩, hi⟩ := st; ⟨⟨old, k e (by simp) _ he⟩, hi.at fun o q => k it (by simp) o q⟩
  item := by
    intro X hP hw hK hc i pins s σ H E I hf st hg
    subst hP hw hK
    obtain ⟨he, q1⟩ := st
    obtain ⟨xs, x, hqx, hx⟩ := hg
    obtain ⟨its, rv, p⟩ := seqK I hqx
    have lx := (List.getElem?_eq_some_iff.mp hx).1
    have l1 := rv.length
    have hh : X.A.in1.handled = none := I.ok.hd hc
    refine wpAny_mono ((GoesN.enumFrom (elts := elts) (x1 := kk) (pos := tpos) 0 (drawsK t hh it a hai its.toArray) e hei (by simp [hei, hea]) (by simp)).goes i s _ (by simp; omega) ⟨he, q1, p⟩
      (Q := fun u s2 => ∃ x H', Inv X pins σ H' s2 ∧ RelV x u ∧ (ItE t X.K a).yld i H x H' ∧ ((∃ old, IsEnum s2.heap e it (0 + ((i + 1 : Nat) : Int)) old) ∧ IterK t s2.heap it a (i + 1)) ∧ ∀ b ∈ [e, it], H' b = none) fun v h' tk hY st' hk htk => ?_) (fun _ _ h => h) fun _ _ h => h
    obtain ⟨T, tt, u1, rfl, hT, e1, hTu⟩ := hY
    obtain ⟨s1, s4, _⟩ := st'
    obtain ⟨w1, e3, r1⟩ := rv.get hx
    have ew1 : w1 = u1 := by
      have : its.toArray[i]? = some w1 := by simpa using e3
      rw [this] at e1; exact Option.some.inj e1
    subst ew1
    rw [Int.zero_add] at hTu
    refine ⟨.ref T, _, I.turnedNew (t' := tk) hk hf hT (newTup I (us := [.int (i : Nat) tt, w1]) (vs := [.int (i : Nat), x]) hTu (.cons ⟨_, rfl⟩ (.cons r1 .nil)) (by simp)), rfl, ⟨T, x, rfl, I.hok.fresh hT, rfl, fun l hl => by rw [sqK_inj I hl hqx]; exact hx⟩, ⟨s1, s4⟩, fun c hcm => ?_⟩
    have hlt : c < s.heap.objs.size := by
      have e' : c = e ∨ c = it := by simpa using hcm
      rcases e' with q | q
      · rw [q]; obtain ⟨_, g⟩ := he; exact Heap.lt_size g
      · rw [q]; obtain ⟨_, e1, _⟩ := q1.ob; exact Heap.lt_size e1
    rw [upd_ne (Nat.ne_of_lt (Nat.lt_of_lt_of_le hlt hT))]
    exact (hf c hcm).1
  done := by
    intro X hP hw hK hc i pins s σ H E I hf st hg
    subst hP hw hK
    obtain ⟨he, q1⟩ := st
    obtain ⟨xs, hqx, hend⟩ := hg
    obtain ⟨its, rv, p⟩ := seqK I hqx
    have l1 := rv.length
    have hh : X.A.in1.handled = none := I.ok.hd hc
    have hmin : i = its.toArray.size := by simp; omega
    refine (GoesN.enumFrom (elts := elts) (x1 := kk) (pos := tpos) 0 (drawsK t hh it a hai its.toArray) e hei (by simp [hei, hea]) (by simp)).stops s _ _ ⟨hmin ▸ he, hmin ▸ q1, p⟩ fun h' tk hk htk => ?_
    exact I.turnedL (t' := tk) hk hf
  self := fun A i s Q E st h => let ⟨⟨_, he⟩, _⟩ := st; wpAny_pyIter_enum he h
/-- enumerate(v) of one argument -/
theorem meets_enum1 {v : Value} {o : Obj} {H : Heap → Prop} (B : Begins v o H) :
    Meets (Builtin.«enumerate.__new__» ⟨[.type "enumerate", v], []⟩) (fun _ R s => H s.heap ∧
      R (.ok (.ret (.ref (s.heap.push o).objs.size))) { s with heap := (s.heap.push o).push { cls := .type "enumerate", data := .fields #[.none, .bool false, .ref s.heap.objs.size, rawInt 0, .none, .none] } }) :=
  .of_wp fun prog w A R s h => by
    obtain ⟨hp, g, d, tk, os⟩ := s; obtain ⟨h1, h⟩ := h
    have hsub := sub_enumerate
    have q1 : ∀ {A' : Around} {E : Value → Shared → Prop} {Q : Value → Shared → Prop}, Q (.ref hp.objs.size) ⟨hp.push o, g, d, tk, os⟩ → wpAny (model prog w) A' (pyIter v) Q E ⟨hp, g, d, tk, os⟩ :=
      fun q => B.iter prog w _ _ ⟨hp, g, d, tk, os⟩ _ h1 q
    wp_walk using q1
    refine wpAny_stack_any fun st => wpAny_pure ?_
    split
    · rename_i c _ _ _ _ _
      cases (c == Value.type "enumerate")
      · wp_walk using q1
        exact ⟨_, rfl, h⟩
      · wp_walk using q1
        exact ⟨_, rfl, h⟩
    · wp_walk using q1
      exact ⟨_, rfl, h⟩
theorem enumK_begins {prog : Program} {w : World} {A : Around} {E : Value → Shared → Prop} {s : Shared} {t : Bool} {a : Addr} {its : Array Value} {Q : Value → Shared → Prop} (h1 : SeqK t s.heap a its)
    (h : ∀ h', IsEnum h' (s.heap.objs.size + 1) s.heap.objs.size 0 .none → IterK t h' s.heap.objs.size a 0 → (∀ c o, s.heap.get? c = some o → h'.get? c = some o) → Q (.ref (s.heap.objs.size + 1)) { s with heap := h' }) :
    wpAny (model prog w) A (call (.type "enumerate") [.ref a]) Q E s := by
  have B := beginsK t a its
  refine callType_new F.called_enumerate (by decide) (F.typeCall_enumerate_1 _) (F.newCall_enumerate_1 _) (fun obj => F.args_object_init_2 obj _) F.entry_enumerate_new (meets_enum1 B) ⟨h1, ?_⟩
  have hz : (s.heap.push (itO t a)).objs.size = s.heap.objs.size + 1 := Heap.size_push ..
  show _ ∧ _
  rw [hz]
  have he : IsEnum ((s.heap.push (itO t a)).push { cls := .type "enumerate", data := .fields #[.none, .bool false, .ref s.heap.objs.size, rawInt 0, .none, .none] }) (s.heap.objs.size + 1) s.heap.objs.size 0 .none := by
    have := Heap.get?_push_size (s.heap.push (itO t a)) (o := { cls := .type "enumerate", data := .fields #[.none, .bool false, .ref s.heap.objs.size, rawInt 0, .none, .none] }) rfl
    rw [hz] at this; exact this
  exact ⟨⟨_, he, rfl⟩, h _ he (iter0 (Heap.get?_push_of_some _ (Heap.get?_push_size _ B.free))) fun b o x => Heap.get?_push_of_some _ (Heap.get?_push_of_some _ x)⟩
def iEK (K : PySem.W.Frag) (ta : TA) : TI := fun σ H R => ta σ H fun vs H1 => ∃ t a xs, vs = [.ref a] ∧ SqK t K H1 a xs ∧ R (ItE t K a) H1
theorem pi_enumK {X : Cx} {e : Expr} {ta : TA} {p pos tpos : Pos} {elts : List Expr} {kk : Nat} (hg : Gl X "enumerate") (hm : X.mg "enumerate" = none) (ha : PA X [e] ta) (hs : starEach [e] X.env = [(false, eval e X.env)] := by rfl) :
    PI X (.Tuple elts kk tpos) (.Call (.Name "enumerate" p) [e] [] pos) (iEK X.K ta) := by
  refine ⟨fun pins s σ H R I h => ?_⟩
  refine Call_ (ld_blt I hg hm boot_enumerate (PyProof.Rows.callWith_type1 (thn (ha.run pos pins s σ H _ I h) fun us s1 ⟨vs, H1, I1, r1, q1⟩ => ?_) hs rfl))
  obtain ⟨t, a, xs, ex, hq, q⟩ := q1
  subst ex
  cases r1 with
  | cons r rr =>
    cases rr
    cases r
    obtain ⟨its, rv, p'⟩ := seqK I1 hq
    refine enumK_begins p' fun h' he hit hk => wpAny_pyIter_enum he ?_
    have I2 : Inv X pins σ H1 { s1 with heap := h' } := I1.kept (t' := s1.toks) hk
    refine ⟨s1.heap.objs.size + 1, [s1.heap.objs.size + 1, s1.heap.objs.size], _, _, H1, rfl, I2, turn_E (it := s1.heap.objs.size) (Nat.succ_ne_self _) (Nat.ne_of_gt (Nat.lt_succ_of_lt p'.lt)) (Nat.ne_of_lt p'.lt), ⟨⟨.none, by simpa using he⟩, hit⟩, fun b hb => ?_, q⟩
    have e' : b = s1.heap.objs.size + 1 ∨ b = s1.heap.objs.size := by simpa using hb
    have hle : s1.heap.objs.size ≤ b := by
      rcases e' with z | z <;> rw [z] <;> first | exact Nat.le_refl _ | exact Nat.le_add_right _ _
    exact I1.fpOk hle (I1.hok.fresh hle)
/-! ### their data -/
theorem sq_of_is {K : PySem.W.Frag} {c : Cn K} {B : Hp} {v : V} {d : D} {ds : List D} (i : Is c B v d) (h : d.items = some ds) : ∃ a t xs, v = .ref a ∧ (∀ B' H', Same B B' → Pre c B' H' → SqK t K H' a xs) ∧ IsL c B xs ds := by
  cases i with
  | lst h3 r => cases h; exact ⟨_, false, _, rfl, fun B' H' s p => SqL.of (p.bh _ _ (s _ _ h3)), r⟩
  | ro h3 r => cases h; exact ⟨_, false, _, rfl, fun B' H' s p => Same.l p.bh (Same.l s h3), r⟩
  | tup h3 r => cases h; exact ⟨_, true, _, rfl, fun B' H' s p => SqT.of (p.bh _ _ (s _ _ h3)), r⟩
  | _ => cases h
def zipD (ds es : List D) : List D := List.zipWith (fun d e => .tup [d, e]) ds es
def enuD (ds : List D) : List D := ds.zipIdx.map fun p => .tup [.int (p.2 : Nat), p.1]
theorem walk_Z {K : PySem.W.Frag} {c : Cn K} {Bl : Hp} {t1 t2 : Bool} {a b : Addr} {xs ys : List V} {ds es : List D} (h1 : ∀ B' H', Same Bl B' → Pre c B' H' → SqK t1 K H' a xs) (i1 : IsL c Bl xs ds) (h2 : ∀ B' H', Same Bl B' → Pre c B' H' → SqK t2 K H' b ys) (i2 : IsL c Bl ys es) :
    WalkD c Bl (ItZ t1 t2 K a b) (zipD ds es) := by
  intro B H i s p
  have q1 := h1 B H s p
  have q2 := h2 B H s p
  refine ⟨fun d hd => ?_, fun hl => ⟨xs, ys, q1, q2, by rw [hl, zipD, List.length_zipWith, i1.length, i2.length]⟩⟩
  rw [zipD, List.getElem?_zipWith] at hd
  cases g1 : ds[i]? with
  | none => rw [g1] at hd; simp at hd
  | some d1 =>
    cases g2 : es[i]? with
    | none => rw [g1, g2] at hd; simp at hd
    | some d2 =>
      rw [g1, g2] at hd
      cases hd
      obtain ⟨v1, e1, r1⟩ := i1.get g1
      obtain ⟨v2, e2, r2⟩ := i2.get g2
      refine ⟨⟨xs, ys, v1, v2, q1, q2, e1, e2⟩, fun x H' ⟨T, x1, x2, ex, hT, eh, f1, f2⟩ => ?_⟩
      have g3 := f1 _ q1
      have g4 := f2 _ q2
      rw [e1] at g3; rw [e2] at g4
      cases g3; cases g4
      subst ex; subst eh
      have st := Step.new p hT (.tup [v1, v2])
      exact ⟨_, st, .tup upd_same (.cons ((r1.mono s).mono st.b) (.cons ((r2.mono s).mono st.b) .nil))⟩
theorem walk_E {K : PySem.W.Frag} {c : Cn K} {Bl : Hp} {t : Bool} {a : Addr} {xs : List V} {ds : List D} (h1 : ∀ B' H', Same Bl B' → Pre c B' H' → SqK t K H' a xs) (i1 : IsL c Bl xs ds) : WalkD c Bl (ItE t K a) (enuD ds) := by
  intro B H i s p
  have q1 := h1 B H s p
  refine ⟨fun d hd => ?_, fun hl => ⟨xs, q1, by rw [hl, enuD, List.length_map, List.length_zipIdx, i1.length]⟩⟩
  rw [enuD, List.getElem?_map, List.getElem?_zipIdx] at hd
  cases g1 : ds[i]? with
  | none => rw [g1] at hd; simp at hd
  | some d1 =>
    rw [g1] at hd
    simp at hd
    subst hd
    obtain ⟨v1, e1, r1⟩ := i1.get g1
    refine ⟨⟨xs, v1, q1, e1⟩, fun x H' ⟨T, x1, ex, hT, eh, f1⟩ => ?_⟩
    have g3 := f1 _ q1
    rw [e1] at g3
    cases g3
    subst ex; subst eh
    have st := Step.new p hT (.tup [.int (i : Nat), v1])
    exact ⟨_, st, .tup upd_same (.cons (.int _) (.cons ((r1.mono s).mono st.b) .nil))⟩
def zip2 : List D → (List D → Prop) → Prop := fun l k => ∃ d e ds es, l = [d, e] ∧ d.items = some ds ∧ e.items = some es ∧ k (zipD ds es)
def enu1 : List D → (List D → Prop) → Prop := fun l k => ∃ d ds, l = [d] ∧ d.items = some ds ∧ k (enuD ds)
section
variable {X : Cx} {c : Cn X.K} {W : WX} {e a b tg : Expr} {es : List Expr} {pos p tpos : Pos} {f : DV} {g : DL} {elts : List Expr} {kk : Nat}
theorem ei_zip (hg : Gl X "zip") (hm : X.mg "zip" = none) (ha : EA X c W [a, b] g)
    (hs : starEach [a, b] X.env = (false, eval a X.env) :: starEach [b] X.env := by rfl) (hpl : (backTo pos (starEach [b] X.env)).any (·.1) = false := by rfl) :
    EI X c W (.Tuple elts kk tpos) (.Call (.Name "zip" p) [a, b] [] pos) (iArg g zip2) := by
  refine ⟨fun ρ k k' E E' hk hE q => ha.mn _ _ _ E E' (fun ds ⟨d, e, h1, h2, h3, h4, h5, h6⟩ => ⟨d, e, h1, h2, h3, h4, h5, hk _ h6⟩) hE q, wkI (pi_zipK hg hm ha.pa hs hpl) ?_⟩
  rintro σ H R ⟨B, ρ, p, rp, q⟩
  refine ⟨B, ρ, p, rp, ha.mn _ _ _ _ _ (fun ds hd vs B1 H1 s i1 => ?_) (fun _ z => z) q⟩
  obtain ⟨d, e, l1, l2, rfl, h1, h2, h3⟩ := hd
  obtain ⟨v, w, rfl, iv, iw⟩ := Is2 i1
  obtain ⟨a1, t1, xs, rfl, q1, r1⟩ := sq_of_is iv h1
  obtain ⟨a2, t2, ys, rfl, q2, r2⟩ := sq_of_is iw h2
  exact ⟨t1, t2, a1, a2, xs, ys, rfl, q1 _ _ (Same.refl _) s.pre, q2 _ _ (Same.refl _) s.pre, h3 _ B1 H1 s (walk_Z q1 r1 q2 r2)⟩
theorem ei_enum (hg : Gl X "enumerate") (hm : X.mg "enumerate" = none) (ha : EA X c W [a] g) (hs : starEach [a] X.env = [(false, eval a X.env)] := by rfl) :
    EI X c W (.Tuple elts kk tpos) (.Call (.Name "enumerate" p) [a] [] pos) (iArg g enu1) := by
  refine ⟨fun ρ k k' E E' hk hE q => ha.mn _ _ _ E E' (fun ds ⟨d, h1, h2, h3, h4⟩ => ⟨d, h1, h2, h3, hk _ h4⟩) hE q, wkI (pi_enumK hg hm ha.pa hs) ?_⟩
  rintro σ H R ⟨B, ρ, p, rp, q⟩
  refine ⟨B, ρ, p, rp, ha.mn _ _ _ _ _ (fun ds hd vs B1 H1 s i1 => ?_) (fun _ z => z) q⟩
  obtain ⟨d, l1, rfl, h1, h3⟩ := hd
  obtain ⟨v, rfl, iv⟩ := Is1 i1
  obtain ⟨a1, t1, xs, rfl, q1, r1⟩ := sq_of_is iv h1
  exact ⟨t1, a1, xs, rfl, q1 _ _ (Same.refl _) s.pre, h3 _ B1 H1 s (walk_E q1 r1)⟩
end
end Dv

set_option Elab.async false
set_option linter.all false
set_option maxRecDepth 100000
set_option maxHeartbeats 2000000
namespace Dv
open PySem PySem.Spec PyProof.Rows L2
/-! ### a def by its body -/
def startD (n : Nat) (ds : List D) : Sl := ds.map (fun d => some (.val d)) ++ List.replicate (n - ds.length) none
abbrev FX (P : Program) (w : World) (K : PySem.W.Frag) (mg : Str → Option Value) (base : Heap) (N : List Str) (q : Str) (st : Stmt) (f : Addr) (cdv : Value) (A : Around) (outer : List Env) (s : Shared) (H : Hp) (E : L2.XK) : Cx :=
  cxOf (L2.CX P w) P w K mg base N q (defScope st) f cdv A outer s H E
abbrev FW (E : L2.XK) : WX := fun cls d _ H => E cls d H
theorem start_len {N : List Str} {vs : List V} (h : vs.length ≤ N.length) : (L2.start N vs).length = N.length := by
  unfold L2.start
  rw [List.length_append, List.length_map, List.length_replicate]
  omega
theorem rep_start {K : PySem.W.Frag} {c : Cn K} {B H : Hp} {N : List Str} {vs : List V} {ds : List D} (p : Pre c B H) (h : IsL c B vs ds) (hl : vs.length ≤ N.length) : Rep c H B B H (L2.start N vs) (startD N.length ds) := by
  have e := h.length
  have g : ∀ (i : Nat) (s : Slot), (startD N.length ds)[i]? = some (some s) → ∃ d, s = .val d ∧ ds[i]? = some d := fun i s h => by
    unfold startD at h
    by_cases q : i < ds.length
    · rw [List.getElem?_append_left (by rw [List.length_map]; exact q), List.getElem?_map] at h
      cases z : ds[i]? with
      | none => rw [z] at h; cases h
      | some d => rw [z] at h; cases h; exact ⟨d, rfl, rfl⟩
    · rw [List.getElem?_append_right (by rw [List.length_map]; omega), List.getElem?_replicate] at h
      split at h <;> cases h
  refine ⟨p, Step.refl p, ?_, fun i s hs => ?_, fun i j a ds' es h => ?_⟩
  · rw [start_len hl]
    unfold startD
    rw [List.length_append, List.length_map, List.length_replicate]; omega
  · obtain ⟨d, rfl, h1⟩ := g i s hs
    obtain ⟨v, h2, h3⟩ := h.get h1
    refine ⟨v, ?_, h3⟩
    unfold L2.start
    rw [List.getElem?_append_left (by rw [List.length_map]; exact (List.getElem?_eq_some_iff.mp h2).1), List.getElem?_map, h2]; rfl
  · obtain ⟨d, z, _⟩ := g i _ h
    cases z
section
variable {P : Program} {w : World} {K : PySem.W.Frag} {mg : Str → Option Value} {base : Heap} {c : Cn K}
theorem fm_of {k : Nat} {A : Around} {N ps : List Str} {q : Str} {st : Stmt} {f : Addr} {cdv : Value} {outer : List Env} {s : Shared} {H : Hp} {E : L2.XK} (S : FnScope N ps (defScope st)) (hr : Room k (A.deeper (envOfC q (defScope st) s.heap.objs.size f cdv))) (hg : A.guards = some []) : Fm (FX P w K mg base N q st f cdv A outer s H E) (FW E) k :=
  ⟨S.nd, rfl, hr, hg, takes_of rfl rfl rfl rfl, passes_of rfl⟩
/-- the contract of a def (or a method) of qualified name q -/
theorem fnd_of {x q : Str} {st : Stmt} {f : Addr} {fd : FuncData} {N ps : List Str} {k : Nat} {sp : Sp} (fu : Fun K x q st f fd) (S : FnScope N ps (defScope st)) (len : ∀ vs H Q E, sp vs H Q E → vs.length = ps.length)
    (hbody : ∀ (cdv : Value) (A : Around) (outer : List Env) (s : Shared) (H : Hp) (vs : List V) (Q : VK) (E : L2.XK), Fm (FX P w K mg base N q st f cdv A outer s H E) (FW E) k → sp vs H Q E →
      ∃ t, PSs (FX P w K mg base N q st f cdv A outer s H E) (defBody st) t ∧ t { nx := fun _ H' => Q .non H', rt := Q } (L2.start N vs) H) : FnD P w K mg base (k + 1) f fd ps sp := by
  obtain ⟨oc, od, kV, doc, pm, an, cdv, ct, osl, rfl, lk, hcd⟩ := fu.ex
  refine ⟨len, fun A outer s H args us vs Q E hg hr e0 hb r hsp => ?_⟩
  have hl := len _ _ _ _ hsp
  have KX : K.In s.heap := e0.mod.kin.keeps fun b o e => (e0.bs b o e).1
  have lim : s.heap.NoLimit := e0.mod.nolimit.keeps fun b o e => (e0.bs b o e).1
  have hkind : ∀ y ∈ ps.zip us, (defScope st).names.lookup y.1 = some .local ∨ ((defScope st).names.lookup y.1 = some .cell ∧ ((cellsFrom (s.heap.objs.size + 1) (defScope st).names []).lookup y.1).isSome = true) := fun ⟨n, v⟩ hy => by
    rcases S.par n (List.of_mem_zip hy).1 with q | q
    · exact .inl q
    · exact .inr ⟨q, PySem.W.cellsFrom_some _ _ _ (.inl q)⟩
  refine codeAny_call_function hr.depth (KX _ _ lk) rfl S.co S.gen rfl (PySem.W.codeRec_of KX hcd) (hb _ _ _ _ ?_)
  refine wpAny_newFunctionEnv_cells S.kind hkind fun env he s1 x => ?_
  subst he
  refine ⟨lim.keeps x.toInCall.keep, codeAny_func ?_⟩
  obtain ⟨t, ht, hq⟩ := hbody cdv A outer s H vs Q E (fm_of S (hr.deeper _) hg) hsp
  have I : Inv (FX P w K mg base N q st f cdv A outer s H E) [] (L2.start N vs) H s1 := inv_start S hr.hd e0 hl r x
  refine wpAny_mono (ht.run [] s1 (L2.start N vs) H _ I hq) (fun fl s' hs => ?_) fun e s' hs => hs
  have fin : ∀ {σ' : L2.St} {H' : Hp} {v : V} {u : Value}, Inv (FX P w K mg base N q st f cdv A outer s H E) [] σ' H' s' → RelV v u → Q v H' → CE outer P w H s Q u s' :=
    fun {σ' H' v u} J rv q => ⟨v, H', J.os, J.bare, J.base, J.hok, rv, q⟩
  cases fl with
  | ret u =>
    obtain ⟨v, σ', H', J, rv, q⟩ := hs
    exact fin J rv q
  | next =>
    obtain ⟨σ', H', J, q⟩ := hs
    exact fin (v := V.non) (u := Value.none) J rfl q
  | brk =>
    obtain ⟨_, _, _, q⟩ := hs
    exact False.elim q
  | cont =>
    obtain ⟨_, _, _, q⟩ := hs
    exact False.elim q
theorem pre_len {N ps : List Str} {sc : Scope} (S : FnScope N ps sc) : ps.length ≤ N.length := by
  have := congrArg List.length S.pre
  rw [List.length_take] at this
  omega
theorem df_of {x : Str} {st : Stmt} {fd : FuncData} {N ps : List Str} {k : Nat} {F : DF} {b : DS} (hg : mg x = some (.ref (c.ca x))) (fu : Fun K x x st (c.ca x) fd) (S : FnScope N ps (defScope st)) (mn : MnF F)
    (hbody : ∀ (cdv : Value) (A : Around) (outer : List Env) (s : Shared) (H : Hp) (E : L2.XK), Fm (FX P w K mg base N x st (c.ca x) cdv A outer s H E) (FW E) k → SB (FX P w K mg base N x st (c.ca x) cdv A outer s H E) c (FW E) (defBody st) b)
    (hF : ∀ ds k E, ds.length = ps.length → F ds k E → b (startD N.length ds) ⟨fun _ => k (.val .non), k, fun _ => False, fun _ => False⟩ E) : Df P w K mg base c (k + 1) x st ps F := by
  have ok : FnD P w K mg base (k + 1) (c.ca x) fd ps (spD c ps.length F) := by
    refine fnd_of fu S (fun vs H Q E ⟨B, ds, p, i, l, _⟩ => i.length.trans l) fun cdv A outer s H vs Q E fm h => ?_
    obtain ⟨B, ds, p, i, l, q⟩ := h
    have hb := hbody cdv A outer s H E fm
    refine ⟨_, hb.ps, H, B, B, _, rep_start p i (by rw [i.length, l]; exact pre_len S), ?_⟩
    refine hb.mn _ ⟨fun _ => _, _, fun _ => False, fun _ => False⟩ _ _ _ ⟨fun ρ' hq σ' B' H' r' sm => ?_, fun r hq v B' H' st ro => ?_, fun ρ' hq => hq.elim, fun ρ' hq => hq.elim⟩ (fun xn hx => ?_) (hF ds _ _ l q)
    · exact hq V.non B' H' r'.st (rv_val .non)
    · exact hq v B' H' st ro
    · exact fun cls d σ' B' H' st xo => hx cls d B' H' st xo
  refine ⟨hg, fu.kp, mn, ?_⟩
  obtain ⟨oc, od, kV, doc, pm, an, cdv, ct, osl, rfl, lk, hcd⟩ := fu.ex
  exact ⟨kV, doc, pm, an, cdv, ct, ok⟩
theorem Df.weak {x : Str} {st : Stmt} {ps : List Str} {F G : DF} {k j : Nat} (d : Df P w K mg base c k x st ps F) (hk : k ≤ j) (mn : MnF G) (h : ∀ ds k E, G ds k E → F ds k E) : Df P w K mg base c j x st ps G := by
  obtain ⟨kV, doc, pm, an, cdv, ct, ok⟩ := d.ok
  refine ⟨d.g, d.kp, mn, kV, doc, pm, an, cdv, ct, ?_⟩
  have o := ok.mono hk
  refine ⟨fun vs H Q E ⟨B, ds, p, i, l, _⟩ => i.length.trans l, fun A outer s H args us vs Q E hg hr e0 hb r ⟨B, ds, p, i, l, q⟩ => ?_⟩
  exact o.run A outer s H args us vs Q E hg hr e0 hb r ⟨B, ds, p, i, l, h _ _ _ q⟩
end

/-! ### statements that are never come to -/
def sNever : DS := fun _ _ _ => False
theorem ss_never {X : Cx} {c : Cn X.K} {W : WX} {st : Stmt} : SS X c W st sNever := ⟨fun _ _ _ _ _ _ _ q => q, ⟨fun pins s σ H D I ⟨_, _, _, _, _, q⟩ => q.elim⟩⟩
theorem sb_one {X : Cx} {c : Cn X.K} {W : WX} {st : Stmt} {f : DS} (h : SS X c W st f) : SB X c W [st] f :=
  ⟨h.mn, pss_one h.ps⟩
def vNever : DV := fun _ _ _ => False
theorem ev_never {X : Cx} {c : Cn X.K} {W : WX} {e : Expr} : EV X c W e vNever := ⟨fun _ _ _ _ _ _ _ q => q, ⟨fun pins s σ H Q I ⟨_, _, _, _, q⟩ => q.elim⟩⟩
end Dv

set_option Elab.async false
set_option linter.all false
set_option maxRecDepth 100000
set_option maxHeartbeats 2000000
namespace Dv
open PySem PySem.Spec PyProof.Rows L2
section
variable {X : Cx} {c : Cn X.K} {W : WX} {e a b : Expr} {es : List Expr} {pos p : Pos} {f g : DV} {j k : Nat}
/-! ### x op= e, whole numbers -/
def ipC (C : Int → Int → Prop) (g : Int → Int → Int) : TIp := fun x y H Q => ∃ i j, x = .int i ∧ y = .int j ∧ C i j ∧ Q (.int (g i j)) H
theorem ip_addC : PIp X .Add (ipC (fun _ _ => True) fun i j => i + j) := by
  intro pins s σ H x y v u Q I r1 r2 h
  obtain ⟨i, j, e1, e2, _, q⟩ := h
  exact ip_add pins s σ H x y v u Q I r1 r2 ⟨i, j, e1, e2, q⟩
theorem ip_subC : PIp X .Sub (ipC (fun _ _ => True) fun i j => i - j) := by
  intro pins s σ H x y v u Q I r1 r2 h
  obtain ⟨i, j, e1, e2, _, q⟩ := h
  exact ip_sub pins s σ H x y v u Q I r1 r2 ⟨i, j, e1, e2, q⟩
theorem ip_mulC : PIp X .Mult (ipC IntMulOk fun i j => i * j) := by
  intro pins s σ H x y v u Q I r1 r2 h
  obtain ⟨i, j, e1, e2, hc, q⟩ := h
  subst e1; subst e2
  obtain ⟨t, rfl⟩ := r1
  obtain ⟨t', rfl⟩ := r2
  exact PyProof.Rows.imul_int ⟨.int _, H, I.tok _, ⟨_, rfl⟩, q⟩ hc
theorem ip_fdC : PIp X .FloorDiv (ipC CFd fun i j => i.fdiv j) := by
  intro pins s σ H x y v u Q I r1 r2 h
  obtain ⟨i, j, e1, e2, hc, q⟩ := h
  subst e1; subst e2
  obtain ⟨t, rfl⟩ := r1
  obtain ⟨t', rfl⟩ := r2
  exact ifloordiv_int hc.1 ⟨.int _, H, I.tok _, ⟨_, rfl⟩, q⟩ (.inl (PyProof.noPylong_of_log2 hc.2))
def augI (C : Int → Int → Prop) (g : Int → Int → Int) (i : Nat) (f : DV) : DS := fun ρ k E => ∃ n, ρ[i]? = some (some (.val (.int n))) ∧ f (viewN ρ) (fun d => ∃ m, d = .int m ∧ C n m ∧ k.nx (ρ.set i (some (.val (.int (g n m)))))) E
theorem ss_aug {C : Int → Int → Prop} {o : Int → Int → Int} {op : Operator} {i : Nat} {x : Str} {pos' : Pos} (m : Fm X W j) (ho : PIp X op (ipC C o)) (h : EV X c W e f) (hi : X.N[i]? = some x := by rfl) (hx : Loc X.env.scope x := by first | exact Or.inl rfl | exact Or.inr rfl)
    (hf : X.fn x = true ∨ X.env.scope.names.lookup x = some .local := by first | exact .inl rfl | exact .inr rfl) : SS X c W (.AugAssign (.Name x pos') op e pos) (augI C o i f) := by
  refine ⟨fun ρ k k' E E' hk hE ⟨n, h1, q⟩ => ⟨n, h1, h.mn _ _ _ E E' (fun d ⟨m, h2, h3, h4⟩ => ⟨m, h2, h3, hk.nx _ h4⟩) hE q⟩, wkS (ps_aug m.nd hi hx h.pe ho hf) ?_⟩
  rintro D σ H ⟨H0, B0, B, ρ, r, n, h1, q⟩
  obtain ⟨v, h2, h3⟩ := r.sl i _ h1
  cases h3
  refine ⟨_, h2, B, _, r.pre, r.viewN, h.mn _ _ _ _ _ (fun d hd v B1 H1 s i1 => ?_) (fun x hx => hx.repN r) q⟩
  obtain ⟨m, rfl, h3, h4⟩ := hd
  cases i1
  exact ⟨n, m, rfl, rfl, h3, h4 _ B1 H1 ((r.goN s).setV (.int _)) s.b⟩

/-! ### displays with a star -/
structure EAs (X : Cx) (c : Cn X.K) (W : WX) (es : List Expr) (f : DL) : Prop where
  mn : Mn f
  pa : PA X es (tL c W f)
theorem EA.s {g : DL} (h : EA X c W es g) : EAs X c W es g := ⟨h.mn, h.pa⟩
theorem eas_cons {g : DL} (he : EV X c W e f) (hr : EAs X c W es g) (hs : starEach (e :: es) X.env = (false, eval e X.env) :: starEach es X.env := by rfl) : EAs X c W (e :: es) (aCons f g) := by
  refine ⟨fun ρ k k' E E' hk hE q => he.mn ρ _ _ E E' (fun d q => hr.mn ρ _ _ E E' (fun ds q => hk _ q) hE q) hE q, wkA (pa_cons he.pe hr.pa hs) ?_⟩
  rintro σ H Q ⟨B, ρ, p, rp, q⟩
  refine ⟨B, ρ, p, rp, he.mn _ _ _ _ _ (fun d hd x B1 H1 s1 i1 => ?_) (fun _ z => z) q⟩
  refine ⟨B1, ρ, s1.pre, rp.mono s1.b, hr.mn _ _ _ _ _ (fun ds hds vs B2 H2 s2 i2 => ?_) (fun x z => z.step s1) hd⟩
  exact hds _ B2 H2 (s1.trans s2) (.cons (i1.mono s2.b) i2)
def aStar (f : DV) (g : DL) : DL := fun ρ k E => f ρ (fun d => ∃ ds, d.items = some ds ∧ g ρ (fun es => k (ds ++ es)) E) E
theorem eas_star {g : DL} (he : EV X c W e f) (hr : EAs X c W es g) (hs : starEach (.Starred e p :: es) X.env = (true, eval e X.env) :: starEach es X.env := by rfl) : EAs X c W (.Starred e p :: es) (aStar f g) := by
  refine ⟨fun ρ k k' E E' hk hE q => he.mn ρ _ _ E E' (fun d ⟨ds, h1, q⟩ => ⟨ds, h1, hr.mn ρ _ _ E E' (fun ds q => hk _ q) hE q⟩) hE q, wkA (StX.pa_star he.pe hr.pa hs) ?_⟩
  rintro σ H Q ⟨B, ρ, p, rp, q⟩
  refine ⟨B, ρ, p, rp, he.mn _ _ _ _ _ (fun d hd x B1 H1 s1 i1 => ?_) (fun _ z => z) q⟩
  obtain ⟨ds, h1, hd⟩ := hd
  obtain ⟨a, t, xs, rfl, h2, h3⟩ := sq_of_is i1 h1
  have h4 := h2 B1 H1 (Same.refl _) s1.pre
  refine ⟨a, xs, rfl, ?_, B1, ρ, s1.pre, rp.mono s1.b, hr.mn _ _ _ _ _ (fun es hes vs B2 H2 s2 i2 => ?_) (fun x z => z.step s1) hd⟩
  · cases t with
    | true => exact .inl h4
    | false => exact .inr h4
  · exact hes _ B2 H2 (s1.trans s2) ((h3.mono s2.b).append i2)
def dTupS (g : DL) : DV := fun ρ k E => g ρ (fun ds => ds.length ≤ sizeLine ∧ k (.tup ds)) E
def dLstS (g : DL) : DR := fun ρ k E => g ρ (fun ds => ds.length ≤ sizeLine ∧ k (.new ds)) E
theorem ev_tupS {g : DL} {x1 : Nat} (h : EAs X c W es g) : EV X c W (.Tuple es x1 pos) (dTupS g) := by
  refine ⟨fun ρ k k' E E' hk hE q => h.mn ρ _ _ E E' (fun ds q => ⟨q.1, hk _ q.2⟩) hE q, wkE (pe_tup h.pa) ?_⟩
  rintro σ H Q ⟨B, ρ, p, rp, q⟩
  refine ⟨B, ρ, p, rp, h.mn _ _ _ _ _ (fun ds hd vs B1 H1 s1 i1 => ⟨?_, fun q' hq => ?_⟩) (fun _ z => z) q⟩
  · rw [i1.length]; exact hd.1
  · have s2 := Step.new s1.pre hq (.tup vs)
    exact hd.2 _ _ _ (s1.trans s2) (.tup upd_same (i1.mono s2.b))
theorem er_lstS {g : DL} (h : EAs X c W es g) : ER X c W (.List es pos) (dLstS g) := by
  refine ⟨fun ρ k k' E E' hk hE q => h.mn ρ _ _ E E' (fun ds q => ⟨q.1, hk _ q.2⟩) hE q, wkE (pe_lst h.pa) ?_⟩
  rintro σ H Q ⟨B, ρ, p, rp, q⟩
  refine ⟨B, ρ, p, rp, h.mn _ _ _ _ _ (fun ds hd vs B1 H1 s1 i1 => ⟨?_, fun q' hq => ?_⟩) (fun _ z => z) q⟩
  · rw [i1.length]; exact hd.1
  · exact hd.2 _ _ _ (s1.trans (Step.lay s1.pre hq (.lst vs))) (RvOk.up s1 (rv_new upd_same i1 (s1.pre.bnone hq) hq))
/-- {} -/
def vDct : DV := fun _ k _ => k .dct
theorem ev_dct : EV X c W (.Dict [] [] pos) vDct := by
  refine ⟨fun ρ k k' E E' hk hE q => hk _ q, wkE pe_dnewK ?_⟩
  rintro σ H Q ⟨B, ρ, p, rp, q⟩
  intro q' hq
  exact q _ _ _ (Step.new p hq _) (.dct upd_same)
end

/-! ### a class with an __init__ -/
def spM {K : PySem.W.Frag} (c : Cn K) (C : Str) (n : Nat) (F : DF) : Sp := fun vs H Q E => ∃ (Hb B : Hp) (x dx : Addr) (us : List V) (ds : List D), vs = .ref x :: us ∧ H = upd (upd Hb dx (.own x)) x (.ins (c.ca C) dx []) ∧ Hb x = none ∧ Hb dx = none ∧ dx ≠ x ∧ Pre c B Hb ∧ IsL c B us ds ∧ ds.length = n ∧
  F ds (fun r => ∀ B' H', Step c B Hb B' H' → RvOk c Hb B' H' (.ref x) r → Q .non H') (fun xn => ∀ cls d B' H', Step c B Hb B' H' → XOk c B' H' cls d xn → E cls d H')
def BindM (q : Str) (st : Stmt) (ps ks : List Str) (n : Nat) (g : List Value → List Value) : Prop :=
  ∀ (kV doc pm : Value) (an : Option Addr) (cdv ct : Value) (self : Value) (us ws : List Value), us.length = n → ws.length = ks.length →
    bindArgs (PySem.W.fnOf "__init__" q (defArgs st) (defBody st) (defScope st) .none kV doc pm an cdv ct) ⟨self :: us, ks.zip ws⟩ = pure ((("self" : Str), self) :: ps.zip (g (us ++ ws)))
structure Dm (P : Program) (w : World) (K : PySem.W.Frag) (mg : Str → Option Value) (base : Heap) (c : Cn K) (j : Nat) (C q : Str) (st : Stmt) (ps : List Str) (F : DF) : Prop where
  g : mg C = some (.ref (c.ca C))
  mn : MnF F
  ok : ∃ (fI : Addr) (kV doc pm : Value) (an : Option Addr) (cdv ct : Value), Mk K (c.ca C) fI ∧ FnD P w K mg base j fI (PySem.W.fnOf "__init__" q (defArgs st) (defBody st) (defScope st) .none kV doc pm an cdv ct) (("self" : Str) :: ps) (spM c C ps.length F)
theorem make_guards {A : Around} {C : Addr} {us : List Value} {kw : List (Str × Value)} : (A.under (.builtin "type.__call__" ⟨.ref C :: us, kw⟩)).guards = A.guards := by
  first | rfl | simp [Around.under, Code.guards, Code.isGuard, guardIds, pushGuards]
section
variable {X : Cx} {c : Cn X.K} {W : WX} {e a b : Expr} {es : List Expr} {pos : Pos} {f g : DV} {j k : Nat}
theorem run_makeD {pins : List (Addr × Obj)} {σ : L2.St} {H : Hp} {s : Shared} {Q : VK} {us ws : List Value} {vs : List V} {C q : Str} {st : Stmt} {ps ks : List Str} {F : DF} {perm : List Nat} {n : Nat} {B : Hp} {ds : List D} (m : Fm X W j) (d : Dm X.prog X.w X.K X.mg X.base c k C q st ps F) (hk : k + 1 ≤ j)
    (hb : BindM q st ps ks n (pick perm)) (I : Inv X pins σ H s) (l1 : us.length = n) (l2 : ws.length = ks.length) (r : Vals vs (us ++ ws)) (p : Pre c B H) (i : IsL c B vs ds) (hn : (pick perm ds).length = ps.length)
    (h : F (pick perm ds) (fun r => ∀ v B' H', Step c B H B' H' → RvOk c H B' H' v r → Q v H') (fun xn => ∀ cls d σ' B' H', Step c B H B' H' → XOk c B' H' cls d xn → W cls d σ' H')) :
    wpAny (model X.prog X.w) X.A (call (.ref (c.ca C)) us (ks.zip ws)) (EP X pins σ Q) X.xe s := by
  obtain ⟨fI, kV, doc, pm, an, cdv, ct, M, F1⟩ := d.ok
  have I2 := Inv.made (C := c.ca C) I
  have hx : H (s.heap.objs.size + 1) = none := I.hok.fresh (Nat.le_succ _)
  have hd : H s.heap.objs.size = none := I.hok.fresh (Nat.le_refl _)
  have hne : s.heap.objs.size ≠ s.heap.objs.size + 1 := Nat.ne_of_lt (Nat.lt_succ_self _)
  have rp := pick_vals r perm
  have hz : spM c C ps.length F (V.ref (s.heap.objs.size + 1) :: pick perm vs) (upd (upd H s.heap.objs.size (.own (s.heap.objs.size + 1))) (s.heap.objs.size + 1) (.ins (c.ca C) s.heap.objs.size [])) (fun v H2 => v = .non ∧ Q (.ref (s.heap.objs.size + 1)) H2) (fun cls d H' => ∀ σ', W cls d σ' H') := by
    refine ⟨H, B, _, _, _, _, rfl, rfl, hx, hd, hne, p, pick_is i perm, hn, d.mn _ _ _ _ _ (fun r hr B' H' st ro => ⟨rfl, hr _ B' H' st ro⟩) (fun xn hq cls d B' H' st xo σ' => hq cls d σ' B' H' st xo) h⟩
  have hr1 : Room (k + 1) X.A := m.room.mono hk
  refine wpAny_call (make_map (f := fI) I.kIn M.makes M.init (beq_iff_eq.mp M.fn) (codeAny_mono (F1.run _ X.stack _ _ ⟨Value.ref (s.heap.objs.size + 1) :: us, ks.zip ws⟩ (Value.ref (s.heap.objs.size + 1) :: pick perm (us ++ ws)) _ _ _ (make_guards.trans m.gd) (hr1.make (c.ca C) us (ks.zip ws))
    (I2.env0.make (c.ca C) us (ks.zip ws)) (.of_eq (hb kV doc pm an cdv ct _ us ws l1 l2)) (show Vals (V.ref (s.heap.objs.size + 1) :: pick perm vs) (Value.ref (s.heap.objs.size + 1) :: pick perm (us ++ ws)) from .cons rfl rp) hz) fun r s' hq' => ?_))
  cases r with
  | error e => exact passes_call m.tk (fun cls d σ H h => h σ) pins σ _ _ e s' I2 hq'
  | ok fl =>
    cases fl with
    | ret u =>
      obtain ⟨v, H', I3, rv, ev, q3⟩ := I2.after hq'
      subst ev
      exact ⟨rv, ⟨V.ref (s.heap.objs.size + 1), H', I3, rfl, q3⟩⟩
    | next => exact False.elim hq'
    | brk => exact False.elim hq'
    | cont => exact False.elim hq'
/-- C(e, .., k = v, ..) -/
theorem er_makeK {g h : DL} {x q : Str} {st : Stmt} {ps ks : List Str} {kws : List Keyword} {perm : List Nat} {F : DF} {p : Pos} (m : Fm X W j) (d : Dm X.prog X.w X.K X.mg X.base c k x q st ps F) (hk : k + 1 ≤ j) (hg : Gl X x) (hb : BindM q st ps ks (e :: es).length (pick perm))
    (ha : EA X c W (e :: es) g) (hw : EK X c W kws h) (hp : ∀ ds es' : List D, ds.length = (e :: es).length → es'.length = kws.length → (pick perm (ds ++ es')).length = ps.length) (hlk : kws.length = ks.length := by rfl)
    (hall : (backToKw pos (keywordEach kws X.env)).all (·.1.isSome) = true := by rfl) (hks : (backToKw pos (keywordEach kws X.env)).filterMap (·.1) = ks := by rfl)
    (hdb : (x == ("__debug__" : Str)) = false := by decide) (he : starEach (e :: es) X.env = (false, eval e X.env) :: starEach es X.env := by rfl)
    (hpl : ((backTo pos (starEach (e :: es) X.env)).any (·.1) || (backToKw pos (keywordEach kws X.env)).any (·.1.isNone)) = false := by rfl) :
    ER X c W (.Call (.Name x p) (e :: es) kws pos) (dCallK g h perm F) := by
  refine ⟨callk_mn ha.mn hw.mn d.mn, ⟨fun pins s σ H Q I q => ?_⟩⟩
  have M := d.ok
  obtain ⟨fI, _, _, _, _, _, _, M, _⟩ := M
  refine wpAny_Call_Name_kw (ld_glob I hg d.g ?_ hdb)
  obtain ⟨B, ρ, pr, rp, q⟩ := q
  have ht : tL c W g σ H fun vs H1 => vs.length = (e :: es).length ∧ tL c W h σ H1 fun zs H2 => zs.length = kws.length ∧ ∃ B ds, Pre c B H2 ∧ IsL c B (vs ++ zs) ds ∧ (pick perm ds).length = ps.length ∧
      F (pick perm ds) (fun r => ∀ v B' H', Step c B H2 B' H' → RvOk c H2 B' H' v r → Q v H') (fun xn => ∀ cls d σ' B' H', Step c B H2 B' H' → XOk c B' H' cls d xn → W cls d σ' H') := by
    refine ⟨B, ρ, pr, rp, ha.mn _ _ _ _ _ (fun ds hd vs B1 H1 s1 i1 => ⟨i1.length.trans hd.1, ?_⟩) (fun _ z => z) (ha.len _ _ _ q)⟩
    refine ⟨B1, ρ, s1.pre, rp.mono s1.b, hw.mn _ _ _ _ _ (fun es' he zs B2 H2 s2 i2 => ⟨i2.length.trans he.1, ?_⟩) (fun x z => z.step s1) (hw.len _ _ _ hd.2)⟩
    refine ⟨B2, _, s2.pre, (i1.mono s2.b).append i2, hp ds es' hd.1 he.1, d.mn _ _ _ _ _ (fun r hr v B' H' s3 ro => ?_) (fun x hx cls d σ' B' H' s3 xo => ?_) he.2⟩
    · exact hr v B' H' (s1.trans (s2.trans s3)) (ro.up (s1.trans s2))
    · exact hx cls d σ' B' H' (s1.trans (s2.trans s3)) xo
  refine PySem.W.callWith_KW (h₀ := X.base) I.ok.mod.kin M.kp hall (thn (ha.pa.run pos pins s σ H _ I ht) fun us s1 ⟨vs, H1, I1, r, l1, q1⟩ => ?_) hpl he
  refine thn (hw.pk.run pos pins s1 σ H1 _ I1 q1) fun ws s2 ⟨zs, H2, I2, rz, l2, B2, ds, p2, i2, hn, q2⟩ => ⟨I2.kIn, ?_⟩
  rw [hks]
  exact run_makeD m d hk hb I2 (r.length.symm.trans l1) ((rz.length.symm.trans l2).trans hlk) (r.append rz) p2 i2 hn q2
/-- C(e, ..) -/
theorem er_make {g : DL} {x q : Str} {st : Stmt} {ps : List Str} {F : DF} {p : Pos} {perm : List Nat} (m : Fm X W j) (d : Dm X.prog X.w X.K X.mg X.base c k x q st ps F) (hk : k + 1 ≤ j) (hg : Gl X x) (hb : BindM q st ps [] (e :: es).length (pick perm))
    (ha : EA X c W (e :: es) g) (hp : ∀ ds es' : List D, ds.length = (e :: es).length → es'.length = ([] : List Keyword).length → (pick perm (ds ++ es')).length = ps.length)
    (hdb : (x == ("__debug__" : Str)) = false := by decide) (he : starEach (e :: es) X.env = (false, eval e X.env) :: starEach es X.env := by rfl)
    (hpl : ((backTo pos (starEach (e :: es) X.env)).any (·.1) || (backToKw pos (keywordEach [] X.env)).any (·.1.isNone)) = false := by rfl) :
    ER X c W (.Call (.Name x p) (e :: es) [] pos) (dCallK g aNil perm F) := er_makeK (ks := []) m d hk hg hb ha ek_nil hp rfl rfl rfl hdb he hpl
end
/-! the body of an __init__ -/
abbrev DI := View → List (Str × D) → (List (Str × D) → Prop) → (Exn → Prop) → Prop
def tF {K : PySem.W.Frag} (c : Cn K) (W : WX) (C : Str) (g : DI) : TS := fun Dn σ H => ∃ (Hb B0 B : Hp) (ρ : View) (x dx : Addr) (vs : List (Str × V)) (fs : List (Str × D)), Pre c B0 Hb ∧ Hb x = none ∧ Step c B0 Hb B H ∧ B x = none ∧ H x = some (.ins (c.ca C) dx vs) ∧ RepV c B σ ρ ∧ σ[0]? = some (some (.ref x)) ∧ IsF c B vs fs ∧
  g ρ fs (fun fs' => ∀ B' H' vs', Step c B0 Hb B' H' → B' x = none → H' x = some (.ins (c.ca C) dx vs') → IsF c B' vs' fs' → Dn.nx σ H') (XK c W B0 Hb)
structure IFs (X : Cx) (c : Cn X.K) (W : WX) (C : Str) (sts : List Stmt) (g : DI) : Prop where
  mn : ∀ ρ fs k k' E E', (∀ f, k f → k' f) → (∀ x, E x → E' x) → g ρ fs k E → g ρ fs k' E'
  ps : PSs X sts (tF c W C g)
def putD (f : Str) (d : D) : List (Str × D) → List (Str × D)
  | [] => [(f, d)]
  | (g, x) :: r => if g = f then (g, d) :: r else (g, x) :: putD f d r
theorem IsF.put {K : PySem.W.Frag} {c : Cn K} {B : Hp} {v : V} {d : D} (f : Str) (i : Is c B v d) : ∀ {vs : List (Str × V)} {fs : List (Str × D)}, IsF c B vs fs → IsF c B (putF f v vs) (putD f d fs)
  | _, _, .nil => .cons i .nil
  | _, _, .cons (x := g) h t => by
    unfold putF putD
    by_cases q : g = f
    · rw [if_pos q, if_pos q]; exact .cons i t
    · rw [if_neg q, if_neg q]; exact .cons h (IsF.put f i t)
theorem IsF.length {K : PySem.W.Frag} {c : Cn K} {B : Hp} : ∀ {vs : List (Str × V)} {fs : List (Str × D)}, IsF c B vs fs → vs.length = fs.length
  | _, _, .nil => rfl
  | _, _, .cons h t => congrArg (· + 1) (IsF.length t)
section
variable {X : Cx} {c : Cn X.K} {W : WX} {e a b : Expr} {es : List Expr} {pos p p2 : Pos} {f g : DV} {j k : Nat} {C : Str}
def iNil : DI := fun _ fs k _ => k fs
def iCons (f : DV) (x : Str) (g : DI) : DI := fun ρ fs k E => f ρ (fun d => fs.length < 1000 ∧ g ρ (putD x d fs) k E) E
theorem if_nil : IFs X c W C [] iNil := by
  refine ⟨fun ρ fs k k' E E' hk hE q => hk _ q, wkSs pss_nil ?_⟩
  rintro D σ H ⟨Hb, B0, B, ρ, x, dx, vs, fs, p, hx, s, bx, h1, rv, h0, i, q⟩
  exact q B H vs s bx h1 i
theorem if_cons {x : Str} {sts : List Stmt} {g : DI} (cl : Cls X.K (c.ca C)) (na : NoAttr X.K (c.ca C) x) (ho : PE X (.Name "self" p) (tVar 0)) (he : EV X c W e f) (hr : IFs X c W C sts g) (hs : swapsWith e (some (.Attribute (.Name "self" p) x p2)) pos.line X.env = pure false := by rfl) :
    IFs X c W C (.Assign [.Attribute (.Name "self" p) x p2] e pos :: sts) (iCons f x g) := by
  refine ⟨fun ρ fs k k' E E' hk hE q => he.mn _ _ _ E E' (fun d ⟨h1, q⟩ => ⟨h1, hr.mn _ _ _ _ _ _ hk hE q⟩) hE q, wkSs (pss_cons (ps_fld ho he.pe hs) hr.ps) ?_⟩
  rintro D σ H ⟨Hb, B0, B, ρ, y, dx, vs, fs, p, hx, s, bx, h1, rv, h0, i, q⟩
  refine ⟨B, ρ, s.pre, rv, he.mn _ _ _ _ _ (fun d hd v B1 H1 s1 i1 => ?_) (fun xn z cls d σ' B' H' t xo => z cls d σ' B' H' (s.trans t) xo) q⟩
  obtain ⟨hl, hd⟩ := hd
  have h2 : H1 y = some (.ins (c.ca C) dx vs) := s1.out y _ h1 (p.nmu hx) (fun _ z => nomatch z)
  have bx1 : B1 y = none := (s1.dom y (by rw [h1]; exact fun z => nomatch z)).trans bx
  have il := (i.mono s1.b)
  refine ⟨_, h0, y, c.ca C, dx, vs, rfl, h2, cl, na, by rw [i.length]; exact hl, ?_⟩
  exact ⟨Hb, B0, B1, ρ, y, dx, _, _, p, hx, (s.trans s1).put p hx bx1, bx1, upd_same, rv.mono s1.b, h0, il.put x i1, hd⟩
/-- statements ahead, then the fields -/
abbrev DJ := Nat → Sl → (List (Str × D) → Prop) → (Exn → Prop) → Prop
def tJ {K : PySem.W.Frag} (c : Cn K) (W : WX) (C : Str) (h : DJ) : TS := fun Dn σ H => ∃ (Hb B0 B : Hp) (x dx : Addr) (ρ : Sl), Pre c B0 Hb ∧ Hb x = none ∧ Hb dx = none ∧ dx ≠ x ∧ Rep c (upd (upd Hb dx (.own x)) x (.ins (c.ca C) dx [])) B0 B H σ ρ ∧ ρ[0]? = some (some (.val (.opq x))) ∧
  h x ρ (fun fs' => ∀ σ' B' H' vs', Step c B0 Hb B' H' → B' x = none → H' x = some (.ins (c.ca C) dx vs') → IsF c B' vs' fs' → Dn.nx σ' H') (XK c W B0 Hb)
structure IB (X : Cx) (c : Cn X.K) (W : WX) (C : Str) (sts : List Stmt) (h : DJ) : Prop where
  mn : ∀ x ρ k k' E E', (∀ f, k f → k' f) → (∀ x, E x → E' x) → h x ρ k E → h x ρ k' E'
  ps : PSs X sts (tJ c W C h)
theorem made_step {K : PySem.W.Frag} {c : Cn K} {B Hb : Hp} {x dx : Addr} {C : Addr} (p : Pre c B Hb) (hx : Hb x = none) (hd : Hb dx = none) (hn : dx ≠ x) : Step c B Hb B (upd (upd Hb dx (.own x)) x (.ins C dx [])) := by
  have s1 := Step.lay p hd (.own x)
  exact s1.trans (Step.lay s1.pre (by rw [upd_ne hn.symm]; exact hx) _)
def jFlds (g : DI) : DJ := fun x ρ k E => g (viewN ρ) [] k E
theorem ib_flds {sts : List Stmt} {g : DI} (h : IFs X c W C sts g) : IB X c W C sts (jFlds g) := by
  refine ⟨fun x ρ k k' E E' hk hE q => h.mn _ _ _ _ _ _ hk hE q, wkSs h.ps ?_⟩
  rintro D σ H ⟨Hb, B0, B, x, dx, ρ, p, hx, hd, hn, r, h0, q⟩
  have ms := made_step (C := c.ca C) p hx hd hn
  obtain ⟨v, e0, i0⟩ := r.sl 0 _ h0
  cases i0
  have hX : (upd (upd Hb dx (.own x)) x (.ins (c.ca C) dx [])) x = some (.ins (c.ca C) dx []) := upd_same
  refine ⟨Hb, B0, B, viewN ρ, x, dx, [], [], p, hx, ms.trans r.st, ?_, r.st.out x _ hX (p.nmu hx) (fun _ z => nomatch z), r.viewN, e0, .nil, h.mn _ _ _ _ _ _ (fun fs' hq B' H' vs' s b1 b2 b3 => hq σ B' H' vs' s b1 b2 b3) (fun _ z => z) q⟩
  rw [r.st.dom x (by rw [hX]; exact fun z => nomatch z)]
  exact p.bnone hx
def jCons (f : DS) (h : DJ) : DJ := fun x ρ k E => f ρ ⟨fun ρ' => ρ'[0]? = some (some (.val (.opq x))) ∧ h x ρ' k E, fun _ => False, fun _ => False, fun _ => False⟩ E
theorem ib_cons {st : Stmt} {sts : List Stmt} {f : DS} {h : DJ} (h1 : SS X c W st f) (h2 : IB X c W C sts h) : IB X c W C (st :: sts) (jCons f h) := by
  refine ⟨fun x ρ k k' E E' hk hE q => h1.mn ρ ⟨fun ρ' => ρ'[0]? = some (some (.val (.opq x))) ∧ h x ρ' k E, fun _ => False, fun _ => False, fun _ => False⟩ ⟨fun ρ' => ρ'[0]? = some (some (.val (.opq x))) ∧ h x ρ' k' E', fun _ => False, fun _ => False, fun _ => False⟩ E E' ⟨fun ρ' ⟨a, b⟩ => ⟨a, h2.mn _ _ _ _ _ _ hk hE b⟩, fun _ z => z, fun _ z => z, fun _ z => z⟩ hE q, wkSs (pss_cons h1.ps h2.ps) ?_⟩
  rintro D σ H ⟨Hb, B0, B, x, dx, ρ, p, hx, hd, hn, r, h0, q⟩
  have ms := made_step (C := c.ca C) p hx hd hn
  refine ⟨_, B0, B, ρ, r, h1.mn _ ⟨_, fun _ => False, fun _ => False, fun _ => False⟩ _ _ _ ⟨fun ρ' ⟨a, b⟩ σ' B' H' r' sm => ?_, fun _ z => z.elim, fun _ z => z.elim, fun _ z => z.elim⟩ (fun xn z cls d σ' B' H' t xo => z cls d σ' B' H' (ms.trans t) xo) q⟩
  exact ⟨Hb, B0, B', x, dx, ρ', p, hx, hd, hn, r', a, b⟩
end
/-- a class by its __init__'s body -/
theorem dm_of {P : Program} {w : World} {K : PySem.W.Frag} {mg : Str → Option Value} {base : Heap} {c : Cn K} {C q : Str} {st : Stmt} {fI : Addr} {fd : FuncData} {N ps : List Str} {k : Nat} {F : DF} {h : DJ} (hg : mg C = some (.ref (c.ca C))) (M : Mk K (c.ca C) fI) (fu : Fun K "__init__" q st fI fd) (S : FnScope N (("self" : Str) :: ps) (defScope st)) (mn : MnF F)
    (hbody : ∀ (cdv : Value) (A : Around) (outer : List Env) (s : Shared) (H : Hp) (E : L2.XK), Fm (FX P w K mg base N q st fI cdv A outer s H E) (FW E) k → IB (FX P w K mg base N q st fI cdv A outer s H E) c (FW E) C (defBody st) h)
    (hF : ∀ ds k E x, ds.length = ps.length → F ds k E → h x (startD N.length (.opq x :: ds)) (fun fs => OwnC K (c.ca C) (fs.map (·.1)) ∧ k (.val (.obj C fs))) E) : Dm P w K mg base c (k + 1) C q st ps F := by
  have ok : FnD P w K mg base (k + 1) fI fd (("self" : Str) :: ps) (spM c C ps.length F) := by
    refine fnd_of fu S (fun vs H Q E ⟨Hb, B, x, dx, us, ds, e, _, _, _, _, _, i, l, _⟩ => by rw [e, List.length_cons, i.length, l]; rfl) fun cdv A outer s H vs Q E fm z => ?_
    obtain ⟨Hb, B, x, dx, us, ds, rfl, rfl, hx, hd, hn, p, i, l, q⟩ := z
    have hb := hbody cdv A outer s _ E fm
    have ms := made_step (C := c.ca C) p hx hd hn
    refine ⟨_, hb.ps, Hb, B, B, x, dx, startD N.length (.opq x :: ds), p, hx, hd, hn, rep_start ms.pre (.cons (.opq x) i) (by rw [List.length_cons, i.length, l]; exact pre_len S), rfl, ?_⟩
    refine hb.mn _ _ _ _ _ _ (fun fs' ⟨oc, hq⟩ σ' B' H' vs' s1 b1 b2 b3 => ?_) (fun xn hx cls d σ' B' H' st xo => hx cls d B' H' st xo) (hF ds _ _ x l q)
    have s2 := s1.keep hx p b2 b1
    exact hq _ H' s2 (.obj upd_same oc (b3.mono (Same.new b1)))
  obtain ⟨oc, od, kV, doc, pm, an, cdv, ct, osl, rfl, lk, hcd⟩ := fu.ex
  exact ⟨hg, mn, fI, kV, doc, pm, an, cdv, ct, M, ok⟩
end Dv

set_option Elab.async false
set_option linter.all false
set_option maxRecDepth 100000
set_option maxHeartbeats 2000000
namespace Dv
open PySem PySem.Spec PyProof.Rows L2
/-! ### the draw: a dict with a list of great numbers, a list of cells, two numbers -/
structure DrawP where
  dd : Addr
  la : Addr
  cl : Addr
  cs : List Int
  o : Bool
def kvD (P : DrawP) (r t : Int) : List (Key × V) :=
  if P.o = true then [(.inr "large", .ref P.la), (.inr "cells", .ref P.cl), (.inr "rest", .int r), (.inr "turn", .int t)]
  else [(.inr "large", .ref P.la), (.inr "rest", .int r), (.inr "cells", .ref P.cl), (.inr "turn", .int t)]
structure DrIs (P : DrawP) (H : Hp) (ls : List Int) (r t : Int) : Prop where
  d : H P.dd = some (.dK (kvD P r t))
  l : H P.la = some (.lst (ls.map .int))
  c : H P.cl = some (.lst (P.cs.map .int))
def drI (P : DrawP) (H : Hp) : Prop := P.dd ≠ P.la ∧ P.dd ≠ P.cl ∧ P.la ≠ P.cl ∧ ∃ ls r t, DrIs P H ls r t
def cD (K : PySem.W.Frag) (ca : Str → Addr) (P : DrawP) : Cn K where
  ca := ca
  dd := P.dd
  mu := fun a => a = P.dd ∨ a = P.la ∨ a = P.cl
  inv := drI P
  loc := fun H H' h ⟨n1, n2, n3, ls, r, t, i⟩ => ⟨n1, n2, n3, ls, r, t, h _ _ (.inl rfl) i.d, h _ _ (.inr (.inl rfl)) i.l, h _ _ (.inr (.inr rfl)) i.c⟩
  dm := fun H a ⟨_, _, _, ls, r, t, i⟩ m => by
    rcases m with rfl | rfl | rfl
    · rw [i.d]; exact fun z => nomatch z
    · rw [i.l]; exact fun z => nomatch z
    · rw [i.c]; exact fun z => nomatch z
theorem val_large (P : DrawP) (r t : Int) : valV (kvD P r t) (.inr "large") = some (.ref P.la) := by
  unfold kvD
  cases P.o <;> exact valV_pos rfl
theorem ks1 : ¬ (Sum.inr "large" : Key) = .inr "cells" := by decide +kernel
theorem ks2 : ¬ (Sum.inr "large" : Key) = .inr "rest" := by decide +kernel
theorem ks3 : ¬ (Sum.inr "large" : Key) = .inr "turn" := by decide +kernel
theorem ks4 : ¬ (Sum.inr "rest" : Key) = .inr "cells" := by decide +kernel
theorem ks5 : ¬ (Sum.inr "cells" : Key) = .inr "rest" := by decide +kernel
theorem ks6 : ¬ (Sum.inr "cells" : Key) = .inr "turn" := by decide +kernel
theorem ks7 : ¬ (Sum.inr "rest" : Key) = .inr "turn" := by decide +kernel
theorem ks8 : ¬ (Sum.inr "turn" : Key) = .inr "rest" := by decide +kernel
theorem val_cells (P : DrawP) (r t : Int) : valV (kvD P r t) (.inr "cells") = some (.ref P.cl) := by
  unfold kvD
  cases P.o
  · exact (valV_neg ks1).trans ((valV_neg ks4).trans (valV_pos rfl))
  · exact (valV_neg ks1).trans (valV_pos rfl)
theorem val_rest (P : DrawP) (r t : Int) : valV (kvD P r t) (.inr "rest") = some (.int r) := by
  unfold kvD
  cases P.o
  · exact (valV_neg ks2).trans (valV_pos rfl)
  · exact (valV_neg ks2).trans ((valV_neg ks5).trans (valV_pos rfl))
theorem val_turn (P : DrawP) (r t : Int) : valV (kvD P r t) (.inr "turn") = some (.int t) := by
  unfold kvD
  cases P.o
  · exact (valV_neg ks3).trans ((valV_neg ks7).trans ((valV_neg ks6).trans (valV_pos rfl)))
  · exact (valV_neg ks3).trans ((valV_neg ks6).trans ((valV_neg ks7).trans (valV_pos rfl)))
theorem put_rest (P : DrawP) (r t n : Int) : putK (kvD P r t) (.inr "rest") (.int n) = kvD P n t := by
  unfold kvD putK
  have a1 : ¬ ("large" : Str) = "rest" := by decide +kernel
  have a2 : ¬ ("cells" : Str) = "rest" := by decide +kernel
  have a3 : ¬ ("turn" : Str) = "rest" := by decide +kernel
  cases P.o <;> simp [a1, a2, a3]
theorem put_turn (P : DrawP) (r t n : Int) : putK (kvD P r t) (.inr "turn") (.int n) = kvD P r n := by
  unfold kvD putK
  have a1 : ¬ ("large" : Str) = "turn" := by decide +kernel
  have a2 : ¬ ("cells" : Str) = "turn" := by decide +kernel
  have a3 : ¬ ("rest" : Str) = "turn" := by decide +kernel
  cases P.o <;> simp [a1, a2, a3]
theorem kvD_len (P : DrawP) (r t : Int) : (kvD P r t).length < sizeLine := by
  unfold kvD
  cases P.o <;> exact (by decide : 4 < sizeLine)
section
variable {K : PySem.W.Frag} {ca : Str → Addr} {P : DrawP} {B H B1 H1 : Hp}
theorem Rep.mu {c : Cn K} {H0 B0 : Hp} {σ : L2.St} {ρ : Sl} (r : Rep c H0 B0 B H σ ρ) {a : Addr} {o : HO} (m : c.mu a) (hi : c.inv (upd H a o)) : Rep c H0 B0 B (upd H a o) σ ρ := by
  have na : ∀ b, H0 b = none → b ≠ a := fun b h z => r.p0.nmu h (by rw [z]; exact m)
  refine ⟨r.p0, ⟨r.st.b, fun b u e => ?_, r.st.dom, fun b u e n z => ?_, fun b e => ?_, hi, r.st.av⟩, r.len, fun i s hs => ?_, r.inj⟩
  · rw [upd_ne (fun z => by rw [z, r.st.av a m] at e; cases e)]; exact r.st.bh b u e
  · rw [upd_ne (fun z => n (by rw [z]; exact m))]; exact r.st.out b u e n z
  · by_cases q : b = a
    · rw [q, upd_same]; exact fun z => nomatch z
    · rw [upd_ne q]; exact r.st.th b e
  · have q := r.sl i s hs
    cases s with
    | val d => exact q
    | own ds =>
      obtain ⟨b, vs, h1, h2, h3, h4, h5⟩ := q
      exact ⟨b, vs, h1, by rw [upd_ne (na b h5)]; exact h2, h3, h4, h5⟩
/-- the draw is changed -/
theorem Step.mu {c : Cn K} (s : Step c B H B1 H1) (p : Pre c B H) {a : Addr} {o : HO} (m : c.mu a) (hi : c.inv (upd H1 a o)) : Step c B H B1 (upd H1 a o) := by
  refine ⟨s.b, fun b u e => ?_, s.dom, fun b u e n z => ?_, fun b e => ?_, hi, s.av⟩
  · rw [upd_ne (fun z => by rw [z, s.av a m] at e; cases e)]; exact s.bh b u e
  · rw [upd_ne (fun z => n (by rw [z]; exact m))]; exact s.out b u e n z
  · by_cases q : b = a
    · rw [q, upd_same]; exact fun z => nomatch z
    · rw [upd_ne q]; exact s.th b e
theorem DrIs.setD {ls : List Int} {r t r' t' : Int} (i : DrIs P H ls r t) (n1 : P.dd ≠ P.la) (n2 : P.dd ≠ P.cl) : DrIs P (upd H P.dd (.dK (kvD P r' t'))) ls r' t' :=
  ⟨upd_same, by rw [upd_ne n1.symm]; exact i.l, by rw [upd_ne n2.symm]; exact i.c⟩
theorem DrIs.setL {ls ls' : List Int} {r t : Int} {xs : List V} (i : DrIs P H ls r t) (n1 : P.dd ≠ P.la) (n3 : P.la ≠ P.cl) (e : xs = ls'.map .int) : DrIs P (upd H P.la (.lst xs)) ls' r t :=
  ⟨by rw [upd_ne n1]; exact i.d, by rw [e, upd_same], by rw [upd_ne n3.symm]; exact i.c⟩
end
section
variable {X : Cx} {ca : Str → Addr} {P : DrawP} {W : WX} {e a b : Expr} {pos p p2 pos2 : Pos} {f : DV} {j k : Nat}
def vDr (i : Nat) : DV := fun ρ k _ => ρ[i]? = some (some .drw) ∧ ∀ n : Int, k (.int n)
theorem dr_slot {K : PySem.W.Frag} {P : DrawP} {ca : Str → Addr} {B : Hp} {σ : L2.St} {ρ : View} {i : Nat} (r : RepV (cD K ca P) B σ ρ) (h : ρ[i]? = some (some .drw)) : σ[i]? = some (some (.ref P.dd)) := by
  obtain ⟨v, h1, h2⟩ := r.2 i _ h
  cases h2
  exact h1
theorem ev_drI {x key : Str} {i : Nat} {kk : Nat} (hk : key = "rest" ∨ key = "turn") (hu : X.A.units + 1 < cLine) (hx : PE X (.Name x p) (tVar i)) (hs : NoSl (.Constant (.str key) kk p2) := by intro _ _; rfl) :
    EV X (cD X.K ca P) W (.Subscript (.Name x p) (.Constant (.str key) kk p2) pos) (vDr i) := by
  refine ⟨fun ρ k k' E E' hk hE ⟨q1, q2⟩ => ⟨q1, fun n => hk _ (q2 n)⟩, wkE (pe_dget hu hx pe_str hs) ?_⟩
  rintro σ H Q ⟨B, ρ, p, rp, q1, q2⟩
  have i1 := p.inv
  obtain ⟨n1, n2, n3, ls, r, t, i2⟩ := i1
  rcases hk with rfl | rfl
  · exact ⟨_, dr_slot rp q1, P.dd, .int r, rfl, by have z := DGet.k (k := .inr "rest") i2.d; rw [val_rest] at z; exact z, q2 r _ B H (Step.refl p) (.int r)⟩
  · exact ⟨_, dr_slot rp q1, P.dd, .int t, rfl, by have z := DGet.k (k := .inr "turn") i2.d; rw [val_turn] at z; exact z, q2 t _ B H (Step.refl p) (.int t)⟩
def iDr (i : Nat) : DL := fun ρ k _ => ρ[i]? = some (some .drw) ∧ ∀ cs : List Int, k (cs.map .int)
theorem dr_get {te : TE} {x key : Str} {kk : Nat} (hu : X.A.units + 1 < cLine) (hx : PE X (.Name x p) te) (hs : NoSl (.Constant (.str key) kk p2)) : PE X (.Subscript (.Name x p) (.Constant (.str key) kk p2) pos) (tDGet te (tC (.str key))) := pe_dget hu hx pe_str hs
theorem ei_dr {x : Str} {i kk : Nat} {tg : Expr} (hu : X.A.units + 1 < cLine) (hx : PE X (.Name x p) (tVar i)) (hs : NoSl (.Constant (.str "cells") kk p2) := by intro _ _; rfl) :
    EI X (cD X.K ca P) W tg (.Subscript (.Name x p) (.Constant (.str "cells") kk p2) pos) (iDr i) := by
  refine ⟨fun ρ k k' E E' hk hE ⟨q1, q2⟩ => ⟨q1, fun n => hk _ (q2 n)⟩, wkI (pi_seq (dr_get hu hx hs)) ?_⟩
  rintro σ H R ⟨B, ρ, p, rp, q1, q2⟩
  have i1 := p.inv
  obtain ⟨n1, n2, n3, ls, r, t, i2⟩ := i1
  refine ⟨_, dr_slot rp q1, P.dd, .ref P.cl, rfl, by have z := DGet.k (k := .inr "cells") i2.d; rw [val_cells] at z; exact z, P.cl, rfl, .inl ⟨⟨_, SqL.of i2.c⟩, q2 P.cs _ B H (Step.refl p) (walk_lst (vs := P.cs.map .int) (fun B' H' s p' => ?_) ?_)⟩⟩
  · obtain ⟨_, _, _, ls', r', t', i3⟩ := p'.inv
    exact SqL.of i3.c
  · induction P.cs with
    | nil => exact .nil
    | cons n ns ih => exact .cons (.int n) ih
def sDrPut (i : Nat) (f : DV) : DS := fun ρ k E => ρ[i]? = some (some (.val .drw)) ∧ f (viewN ρ) (fun d => ∃ n, d = .int n ∧ k.nx ρ) E
theorem ss_drPut {x key : Str} {i kk : Nat} (hk : key = "rest" ∨ key = "turn") (hu : X.A.units + 1 < cLine) (hx : PE X (.Name x p) (tVar i)) (he : EV X (cD X.K ca P) W e f) (hs : swapsWith e (some (.Subscript (.Name x p) (.Constant (.str key) kk p2) pos2)) pos.line X.env = pure false := by rfl) :
    SS X (cD X.K ca P) W (.Assign [.Subscript (.Name x p) (.Constant (.str key) kk p2) pos2] e pos) (sDrPut i f) := by
  refine ⟨fun ρ k k' E E' hk hE ⟨q1, q2⟩ => ⟨q1, he.mn _ _ _ E E' (fun d ⟨n, h1, h2⟩ => ⟨n, h1, hk.nx _ h2⟩) hE q2⟩, wkS (ps_dput hu hx pe_str he.pe hs) ?_⟩
  rintro D σ H ⟨H0, B0, B, ρ, r, h1, q⟩
  refine ⟨B, _, r.pre, r.viewN, he.mn _ _ _ _ _ (fun d hd v B1 H1 s i1 => ?_) (fun x hx => hx.repN r) q⟩
  obtain ⟨n, rfl, hd⟩ := hd
  cases i1
  have r1 := r.goN s
  obtain ⟨v, e1, e2⟩ := r.sl i _ h1
  cases e2
  obtain ⟨n1, n2, n3, ls, rr, t, i2⟩ := s.inv
  refine ⟨_, e1, P.dd, ?_⟩
  rcases hk with rfl | rfl
  · have z := DPut.k (k := .inr "rest") (v := .int n) i2.d (kvD_len P rr t)
    rw [put_rest] at z
    exact ⟨_, rfl, z, hd σ B1 _ (r1.mu (a := P.dd) (Or.inl rfl) ⟨n1, n2, n3, ls, n, t, i2.setD n1 n2⟩) s.b⟩
  · have z := DPut.k (k := .inr "turn") (v := .int n) i2.d (kvD_len P rr t)
    rw [put_turn] at z
    exact ⟨_, rfl, z, hd σ B1 _ (r1.mu (a := P.dd) (Or.inl rfl) ⟨n1, n2, n3, ls, rr, n, i2.setD n1 n2⟩) s.b⟩
/-! draw['large'].pop(0) if draw['large'] != [] else f(draw) -/
theorem ints_dp {K : PySem.W.Frag} {H : Hp} : ∀ ls : List Int, DpAll K H (ls.map .int) (ls.map .int)
  | [] => .nil
  | n :: ls => .cons (.int n) (ints_dp ls)
theorem ints_lay : ∀ ls : List Int, PyData.canLayAll0 (ls.map .int) = true ∧ PyData.depthAll (ls.map .int) ≤ 1
  | [] => by simp [PyData.canLayAll0, PyData.depthAll]
  | n :: ls => by
    have q := ints_lay ls
    simp only [List.map_cons, PyData.canLayAll0, PyData.canLay0, PyData.depthAll, PyData.depth, Bool.and_eq_true]
    exact ⟨⟨trivial, q.1⟩, by omega⟩
theorem ints_shaped (ls : List Int) : SeqAt.shaped (.list (ls.map .int)) = true := by
  have q := ints_lay ls
  unfold SeqAt.shaped
  simp only [PyData.canLay0, PyData.depth, q.1, Bool.true_and]
  exact decide_eq_true (by omega)
theorem ints_ne (ls : List Int) : (!PyData.eqv (.list (ls.map .int)) (.list [])) = !ls.isEmpty := by
  cases ls with
  | nil => rfl
  | cons n ls => rfl
/-- draw['large'] != [] -/
theorem dr_some {x : Str} {i kk : Nat} {l1 : Pos} (hu : X.A.units + 64 < cLine) (hx : PE X (.Name x p) (tVar i)) (hs : NoSl (.Constant (.str "large") kk p2)) :
    PT X (.Compare (.Subscript (.Name x p) (.Constant (.str "large") kk p2) pos) [.NotEq] [.List [] l1] pos2) (tTest (tOp (rNeD X.K) (tDGet (tVar i) (tC (.str "large"))) (tLst tNil))) :=
  pt_cmpR (op_neD hu) (dr_get (by omega) hx hs) (pe_lst pa_nil) (nomark _)
theorem dr_test {K : PySem.W.Frag} {H : Hp} {σ : L2.St} {i : Nat} {ls : List Int} {r t : Int} {Q : Bool → Hp → Prop} (h0 : σ[i]? = some (some (.ref P.dd))) (d : DrIs P H ls r t) (q : ∀ H', (∀ a o, H a = some o → H' a = some o) → (∀ a, H a = none → ∀ o, H' a = some o → o = .lst []) → Q (!ls.isEmpty) H') :
    tTest (tOp (rNeD K) (tDGet (tVar i) (tC (.str "large"))) (tLst tNil)) σ H Q := by
  refine ⟨_, h0, P.dd, .ref P.la, rfl, by have z := DGet.k (k := .inr "large") d.d; rw [val_large] at z; exact z, Nat.zero_le _, fun p hp => ?_⟩
  have hl : (upd H p (.lst ([] : List V))) P.la = some (.lst (ls.map .int)) := by rw [upd_ne (ne_of_none d.l hp)]; exact d.l
  refine ⟨_, _, .lst (SqL.of hl) (ints_dp ls), .lst (SqL.of upd_same) .nil, ints_shaped ls, ints_shaped [], _, rfl, ?_⟩
  rw [ints_ne]
  refine q _ (fun a o e => ?_) fun a e o e2 => ?_
  · rw [upd_ne (ne_of_none e hp)]; exact e
  · by_cases z : a = p
    · subst z; rw [upd_same] at e2; exact (Option.some.inj e2).symm
    · rw [upd_ne z, e] at e2; cases e2
theorem pe_drPop {x : Str} {i kk k0 : Nat} {p3 apos cpos : Pos} (hu : X.A.units + 1 < cLine) (hx : PE X (.Name x p) (tVar i)) (hs : NoSl (.Constant (.str "large") kk p2))
    (hb : attributeBase (.Subscript (.Name x p) (.Constant (.str "large") kk p2) pos) "pop" X.env (eval (.Subscript (.Name x p) (.Constant (.str "large") kk p2) pos) X.env) = eval (.Subscript (.Name x p) (.Constant (.str "large") kk p2) pos) X.env) (hm : M1Ok X (.Constant (.int 0) k0 p3) apos cpos) :
    PE X (.Call (.Attribute (.Subscript (.Name x p) (.Constant (.str "large") kk p2) pos) "pop" apos) [.Constant (.int 0) k0 p3] [] cpos) (tBM X.K "list" rPopAt (tDGet (tVar i) (tC (.str "large"))) (tCons (tC (.int 0)) tNil)) :=
  pe_bm PySem.F.plainAttrs_list PySem.F.slot_list_pop PySem.F.type_list_pop mt_popAt (dr_get hu hx hs) (pa_cons pe_int pa_nil hm.st) hb hm.few hm.line hm.st rfl
theorem dr_pop {K : PySem.W.Frag} {H : Hp} {σ : L2.St} {i : Nat} {ls : List Int} {n r t : Int} {Q : VK} (h0 : σ[i]? = some (some (.ref P.dd))) (d : DrIs P H (n :: ls) r t) (q : Q (.int n) (upd H P.la (.lst (ls.map .int)))) :
    tBM K "list" rPopAt (tDGet (tVar i) (tC (.str "large"))) (tCons (tC (.int 0)) tNil) σ H Q := by
  refine ⟨_, h0, P.dd, .ref P.la, rfl, by have z := DGet.k (k := .inr "large") d.d; rw [val_large] at z; exact z, own_ty d.l, P.la, _, 0, 0, .int n, rfl, rfl, d.l, by decide, by decide, ?_, rfl, ?_⟩
  · unfold seqIndex?
    simp
  · exact q
def rDrNext (i : Nat) (g : DR) : DR := fun ρ k E => ρ[i]? = some (some .drw) ∧ (∀ n : Int, k (.val (.int n))) ∧ g ρ k E
theorem er_drNext {x : Str} {i kk kk' k0 : Nat} {g : DR} {p1 p1' p2' pp p3 apos cpos l1 : Pos} (hu : X.A.units + 64 < cLine) (hx : ∀ p, PE X (.Name x p) (tVar i)) (hg : ER X (cD X.K ca P) W e g) (hs : ∀ kk p2, NoSl (.Constant (.str "large") kk p2) := by intro _ _ _ _; rfl)
    (hb : attributeBase (.Subscript (.Name x p) (.Constant (.str "large") kk p2) pos) "pop" X.env (eval (.Subscript (.Name x p) (.Constant (.str "large") kk p2) pos) X.env) = eval (.Subscript (.Name x p) (.Constant (.str "large") kk p2) pos) X.env := by rfl) (hm : M1Ok X (.Constant (.int 0) k0 p3) apos cpos := by exact ⟨rfl, rfl, rfl⟩) :
    ER X (cD X.K ca P) W (.IfExp (.Compare (.Subscript (.Name x p1) (.Constant (.str "large") kk' p2') p1') [.NotEq] [.List [] l1] pos2) (.Call (.Attribute (.Subscript (.Name x p) (.Constant (.str "large") kk p2) pos) "pop" apos) [.Constant (.int 0) k0 p3] [] cpos) e pp) (rDrNext i g) := by
  refine ⟨fun ρ k k' E E' hk hE ⟨q1, q2, q3⟩ => ⟨q1, fun n => hk _ (q2 n), hg.mn _ _ _ _ _ hk hE q3⟩, wkE (pe_ifExp (dr_some hu (hx _) (hs _ _)) (pe_drPop (by omega) (hx _) (hs _ _) hb hm) hg.pe) ?_⟩
  rintro σ H Q ⟨B, ρ, p, rp, q1, q2, q3⟩
  have h0 := dr_slot rp q1
  obtain ⟨n1, n2, n3, ls, r, t, d⟩ := p.inv
  refine dr_test h0 d fun H1 k1 k2 => ?_
  have hst : Step (cD X.K ca P) B H B H1 := by
    refine ⟨fun _ _ h => h, fun a o e => k1 _ _ (p.bh a o e), fun _ _ => rfl, fun a o e _ _ => k1 _ _ e, fun a e => ?_, ?_, p.av⟩
    · cases z : H a with
      | none => exact absurd z e
      | some o => rw [k1 _ _ z]; exact fun z => nomatch z
    · exact (cD X.K ca P).loc H H1 (fun a o _ e => k1 _ _ e) p.inv
  have d1 : DrIs P H1 ls r t := ⟨k1 _ _ d.d, k1 _ _ d.l, k1 _ _ d.c⟩
  cases ls with
  | nil => exact ⟨B, ρ, hst.pre, rp, hg.mn _ _ _ _ _ (fun u hu v B' H' s i => hu v B' H' (hst.trans s) (i.up hst)) (fun x z => z.step hst) q3⟩
  | cons n ls =>
    refine dr_pop h0 d1 ?_
    exact q2 n _ B _ (hst.mu p (a := P.la) (Or.inr (Or.inl rfl)) ⟨n1, n2, n3, ls, r, t, d1.setL n1 n3 rfl⟩) (.int n)
end
end Dv

set_option Elab.async false
set_option linter.all false
set_option maxRecDepth 100000
set_option maxHeartbeats 2000000
namespace Dv
open PySem PySem.Spec PyProof.Rows L2
/-! ### the law's end -/
/-- what is tracked when the law is called: the script, if the written part has not got it -/
def scrH (K : PySem.W.Frag) (a : Addr) (vs : List Value) (ns : List Int) : Hp := fun b => if b = a ∧ (K.lookup a).isNone = true then some (.frz { cls := .type "list", data := .seq vs.toArray } (.lst (ns.map V.int))) else none
theorem scrH_some {K : PySem.W.Frag} {a b : Addr} {vs : List Value} {ns : List Int} {u : HO} (h : scrH K a vs ns b = some u) : b = a ∧ (K.lookup a).isNone = true ∧ u = .frz { cls := .type "list", data := .seq vs.toArray } (.lst (ns.map V.int)) := by
  unfold scrH at h
  split at h
  · rename_i q
    exact ⟨q.1, q.2, (Option.some.inj h).symm⟩
  · cases h
theorem end_call {P : Program} {w : World} {K : PySem.W.Frag} {mg mb : Str → Option Value} {k : Nat} {fa a : Addr} {fd : FuncData} {x : Str} {sp : Sp} {s1 : Shared} {vs : List Value} {ns : List Int} (KX : K.In s1.heap) (hm : s1.heap.Ns mainGlobals mg) (hb : s1.heap.Ns builtinsNs mb)
    (hbb : ∀ x : Str, x ≠ "__name__" → mb x = bootBuiltins x) (hlim : s1.heap.NoLimit) (hg : s1.gens = #[]) (ha : s1.heap.get? a = some { cls := .type "list", data := .seq vs.toArray }) (hi : IntsAre vs ns) (hl : ns.length ≤ sizeLine) (hr : Room k callerA)
    (F : ∀ base : Heap, K.In base → base.Ns mainGlobals mg → FnD P w K mg base k fa fd [x] sp) (hbind : ∀ (s : Shared) (u : Value), BindsTo s fd ⟨[u], []⟩ [(x, u)])
    (hsp : ∀ H : Hp, SqL K H a (ns.map V.int) → sp [.ref a] H (fun v _ => v = .bl true) fun _ _ _ => False) :
    codeAny (model P w) callerA (.call (.ref fa) ⟨[.ref a], []⟩) (fun r s' => r = .ok (.ret (.bool true)) ∧ OldK s1.heap s'.heap ∧ s'.os = s1.os ∧ AllBare s'.gens) s1 := by
  have rv := vals_ints hi
  generalize hH : scrH K a vs ns = H
  have tr : ∀ b u, H b = some u → b = a ∧ (K.lookup a).isNone = true ∧ u = .frz { cls := .type "list", data := .seq vs.toArray } (.lst (ns.map V.int)) := fun b u q => by rw [← hH] at q; exact scrH_some q
  have nA : ∀ {b : Addr}, b ≠ a → H b = none := fun {b} n => by
    cases q : H b with
    | none => rfl
    | some u => exact absurd (tr b u q).1 n
  have out : ∀ {b : Addr} {o : Obj}, s1.heap.get? b = some o → H b = none → (hidT s1.heap H).get? b = some o := fun q n => hidT_get q n
  have nsK : ∀ {b : Addr} {m : Str → Option Value}, s1.heap.Ns b m → (hidT s1.heap H).Ns b m := fun {b m} z => by
    obtain ⟨o, es, ep, q, d, r⟩ := z
    refine ⟨o, es, ep, out q ?_, d, r⟩
    by_cases ba : b = a
    · subst ba
      rw [ha] at q
      cases q
      cases (show Data.seq vs.toArray _ = Data.dict es ep from d)
    · exact nA ba
  have kin : K.In (hidT s1.heap H) := fun b o q => out (KX b o q) (by
    cases z : H b with
    | none => rfl
    | some u =>
      obtain ⟨rfl, n, _⟩ := tr b u z
      rw [q] at n; cases n)
  have sq : SqL K H a (ns.map V.int) := by
    cases z : K.lookup a with
    | some o =>
      have q := KX a o z
      rw [ha] at q
      cases q
      exact .inr ⟨_, vs.toArray, _, z, rfl, rfl, rfl, by rw [List.size_toArray, hi.length]; exact hl, by simpa using rv⟩
    | none =>
      refine .inl (.inr ⟨{ cls := .type "list", data := .seq vs.toArray }, ?_⟩)
      rw [← hH]
      exact if_pos ⟨rfl, by rw [z]; rfl⟩
  have ok : HOk P w H s1.heap := fun b u q => by
    obtain ⟨rfl, _, rfl⟩ := tr b u q
    exact ⟨ha, by rw [List.length_map]; exact hl, vs, _, rv, ha⟩
  obtain ⟨mc, l1, l2⟩ := hlim
  have md : Mod K mg (hidT s1.heap H) := ⟨kin, nsK hm, ⟨mb, nsK hb, hbb⟩, ⟨mc, nsK l1, l2⟩⟩
  have e0 : Env0 P w K mg (hidT s1.heap H) callerA [] s1 H := ⟨rfl, md, fun b o q => of_hidT q, Nat.le_of_eq (hidT_size _ _), trivial, fun b z => absurd (show b ∈ ([] : List Addr) from z) (by simp), ok, .of_eq hg⟩
  refine codeAny_mono ((F _ kin (nsK hm)).run callerA [] s1 H ⟨[.ref a], []⟩ [.ref a] [.ref a] _ _ rfl hr e0 (hbind s1 (.ref a)) (.cons rfl .nil) (hsp H sq)) fun r s' h => ?_
  cases r with
  | error e =>
    obtain ⟨_, _, _, _, _, _, _, _, _, _, _, _, z⟩ := h
    exact z.elim
  | ok fl =>
    cases fl with
    | next => exact h.elim
    | brk => exact h.elim
    | cont => exact h.elim
    | ret u =>
      obtain ⟨v, H', os, bare, un, ok', r', q⟩ := h
      obtain rfl : v = .bl true := q
      obtain rfl : u = Value.bool true := r'
      refine ⟨rfl, OldK.of_keep fun b o z => ?_, os, bare⟩
      cases q : H b with
      | none => exact un.keep b o z q (fun y => absurd (show b ∈ ([] : List Addr) from y) (by simp)) (by simp)
      | some u =>
        obtain ⟨_, _, rfl⟩ := tr b u q
        have q2 := un.frzs b _ _ q
        have g1 := (ok b _ q).1
        have g2 := (ok' b _ q2).1
        rw [z] at g1; cases g1
        exact g2
theorem end_walk {l : PySem.W.OpenLaw} {n k : Nat} {q : Program} {loose : List Str} {XP : (Str → Option Value) → Heap → Prop} {YP : World → Heap → Prop} {d : DefRec} {K : Params → PySem.W.Frag} {sp : World → Sp} {x : Str}
    (hn : l.most = some n) (hn2 : n ≤ sizeLine) (hdf : d.params.defaults = []) (hr : Room k callerA) (hY : ∀ (w : World) (h : Heap), YP w h → (K w.params).In h)
    (F : ∀ (w : World) (mg : Str → Option Value) (fa : Addr) (h : Heap), (K w.params).In h → h.Ns mainGlobals mg → mg d.name = some (.ref fa) →
      ∃ fd : FuncData, (∀ (s : Shared) (u : Value), BindsTo s fd ⟨[u], []⟩ [(x, u)]) ∧ ∀ base : Heap, (K w.params).In base → base.Ns mainGlobals mg → FnD l.prog w (K w.params) mg base k fa fd [x] (sp w))
    (hsp : ∀ (w : World) (H : Hp) (a : Addr) (ns : List Int), ns.length ≤ n → SqL (K w.params) H a (ns.map V.int) → sp w [.ref a] H (fun v _ => v = .bl true) fun _ _ _ => False) :
    PySem.W.WalkO q loose XP YP l.row.toRowW d [] (fun f vs => PySem.call f vs) := by
  refine Att.attach_callB hn hdf fun w _ s1 mg mb fa _ _ _ _ a vs ns G Y _ _ _ hmg hobj hints hlen _ hg => ?_
  have KX := hY w _ Y
  obtain ⟨fd, hb, hF⟩ := F w mg fa _ KX G.T.g hmg
  exact end_call KX G.T.g G.T.b G.T.builtins G.T.nolimit hg hobj hints (Nat.le_trans hlen hn2) hr hF hb fun H hS => hsp w H a ns hlen hS

/-! ### names of classes and types; isinstance -/
section
variable {X : Cx} {c : Cn X.K} {W : WX} {e a b : Expr} {pos : Pos} {f g : DV}
theorem ev_own {x : Str} (hg : Gl X x) (hm : X.mg x = some (.ref (c.ca x))) (hd : (x == ("__debug__" : Str)) = false := by decide) : EV X c W (.Name x pos) (dC (.fn x)) := ev_const (pe_glob (v := .ref (c.ca x)) hg hm rfl hd) fun _ => .fn x
theorem ev_ty {x : Str} {T : String} (hg : Gl X x) (hm : X.mg x = none) (hv : bootBuiltins x = some (.type T)) (hn : x ≠ "__name__" := by decide) (hd : (x == ("__debug__" : Str)) = false := by decide) : EV X c W (.Name x pos) (dC (.typ T)) :=
  ev_const (pe_bltn (v := .ty T) hg hm hv rfl hn hd) fun _ => .typ T
def UsD : List String := ["NoneType", "bool", "int", "str", "tuple", "list", "dict", "float"]
def TsD : List String := ["int", "bool", "tuple", "list", "str", "dict", "float"]
def isiB (U T : String) : Bool := U == T || (U == "bool" && T == "int")
def D.tn : D → Option String
  | .non => some "NoneType"
  | .bl _ => some "bool"
  | .int _ => some "int"
  | .str _ => some "str"
  | .tup _ => some "tuple"
  | .lst _ => some "list"
  | .ro _ => some "list"
  | .dct => some "dict"
  | .flt _ => some "float"
  | _ => none
def D.cn : D → Option Str
  | .obj C _ => some C
  | _ => none
def kt1 (Cs : List Str) (d : D) (T : String) : Option Bool :=
  if TsD.contains T = true then
    match d.tn with
    | some U => some (isiB U T)
    | none => match d.cn with
      | some C => if C ∈ Cs then some false else none
      | none => none
  else none
def ktC (Cs : List Str) (d : D) (C : Str) : Option Bool :=
  if C ∈ Cs then
    match d.tn with
    | some U => some false
    | none => match d.cn with
      | some C' => if C' ∈ Cs then some (decide (C' = C)) else none
      | none => none
  else none
def ktT (Cs : List Str) (d : D) : List D → Option Bool
  | [] => some false
  | .typ T :: r => match kt1 Cs d T with
    | some true => (if (r.all fun z => z matches .typ _) = true then some true else none)
    | some false => ktT Cs d r
    | none => none
  | _ => none
def kt (Cs : List Str) (d e : D) : Option Bool := match e with
  | .typ T => kt1 Cs d T
  | .fn C => ktC Cs d C
  | .tup (e :: es) => ktT Cs d (e :: es)
  | _ => none
structure KtF (K : PySem.W.Frag) (ca : Str → Addr) (Cs : List Str) : Prop where
  bc : ∀ C ∈ Cs, ∀ U ∈ UsD, PySem.W.kitOne K (.type U) (.ref (ca C)) = some false
  cb : ∀ C ∈ Cs, ∀ T ∈ TsD, PySem.W.kitOne K (.ref (ca C)) (.type T) = some false
  cc : ∀ C ∈ Cs, ∀ C' ∈ Cs, PySem.W.kitOne K (.ref (ca C')) (.ref (ca C)) = some (decide (C' = C))
theorem kit_bb (K : PySem.W.Frag) : ∀ U ∈ UsD, ∀ T ∈ TsD, PySem.W.kitOne K (.type U) (.type T) = some (isiB U T) := by
  intro U hU T hT
  simp only [UsD, List.mem_cons, List.mem_nil_iff, or_false] at hU
  simp only [TsD, List.mem_cons, List.mem_nil_iff, or_false] at hT
  rcases hU with rfl | rfl | rfl | rfl | rfl | rfl | rfl | rfl <;> rcases hT with rfl | rfl | rfl | rfl | rfl | rfl | rfl <;> rfl
theorem tn_mem {d : D} {U : String} (h : d.tn = some U) : U ∈ UsD := by
  cases d <;> simp only [D.tn, Option.some.injEq] at h <;> first | (subst h; simp [UsD]) | (cases h)
theorem tn_ty {K : PySem.W.Frag} (c : Cn K) {d : D} {U : String} (h : d.tn = some U) : d.ty c = some (.type U) := by
  cases d <;> simp only [D.tn, Option.some.injEq] at h <;> first | (subst h; rfl) | (cases h)
theorem cn_ty {K : PySem.W.Frag} (c : Cn K) {d : D} {C : Str} (h : d.cn = some C) : d.ty c = some (.ref (c.ca C)) := by
  cases d <;> simp only [D.cn, Option.some.injEq] at h <;> first | (subst h; rfl) | (cases h)
theorem kt1_ok {K : PySem.W.Frag} {c : Cn K} {Cs : List Str} (h : KtF K c.ca Cs) {d : D} {T : String} {b : Bool} (e : kt1 Cs d T = some b) : ∃ t, d.ty c = some t ∧ PySem.W.kitOne K t (.type T) = some b := by
  unfold kt1 at e
  split at e
  · rename_i hT
    have hT' : T ∈ TsD := by simpa using hT
    split at e
    · rename_i U hU
      exact ⟨_, tn_ty c hU, e ▸ kit_bb K U (tn_mem hU) T hT'⟩
    · split at e
      · rename_i C hC
        split at e
        · rename_i m
          exact ⟨_, cn_ty c hC, e ▸ h.cb C m T hT'⟩
        · cases e
      · cases e
  · cases e
theorem ktC_ok {K : PySem.W.Frag} {c : Cn K} {Cs : List Str} (h : KtF K c.ca Cs) {d : D} {C : Str} {b : Bool} (e : ktC Cs d C = some b) : ∃ t, d.ty c = some t ∧ PySem.W.kitOne K t (.ref (c.ca C)) = some b := by
  unfold ktC at e
  split at e
  · rename_i hm
    split at e
    · rename_i U hU
      exact ⟨_, tn_ty c hU, e ▸ h.bc C hm U (tn_mem hU)⟩
    · split at e
      · rename_i C' hC
        split at e
        · rename_i m
          exact ⟨_, cn_ty c hC, e ▸ h.cc C hm C' m⟩
        · cases e
      · cases e
  · cases e
theorem typs_of : ∀ {r : List D}, (r.all fun z => z matches .typ _) = true → ∃ Ts : List String, r = Ts.map D.typ
  | [], _ => ⟨[], rfl⟩
  | z :: r, h => by
    rw [List.all_cons, Bool.and_eq_true] at h
    obtain ⟨Ts, e⟩ := typs_of h.2
    cases z with
    | typ T => exact ⟨T :: Ts, by rw [e]; rfl⟩
    | _ => exact absurd h.1 (by simp)
theorem ktT_ok {K : PySem.W.Frag} {c : Cn K} {Cs : List Str} (h : KtF K c.ca Cs) {d : D} {t : Value} (ht : d.ty c = some t) : ∀ {es : List D} {b : Bool}, ktT Cs d es = some b → ∃ Ts : List String, es = Ts.map D.typ ∧ PySem.W.kitAny K t (Ts.map Value.type) = some b
  | [], b, e => ⟨[], rfl, e⟩
  | .typ T :: r, b, e => by
    unfold ktT at e
    split at e
    · rename_i q
      split at e
      · rename_i q2
        obtain ⟨Ts, e2⟩ := typs_of q2
        obtain ⟨t', h1, h2⟩ := kt1_ok h q
        rw [ht] at h1; cases h1
        refine ⟨T :: Ts, by rw [e2]; rfl, ?_⟩
        cases e
        show (match PySem.W.kitOne K t (.type T) with | some true => some true | some false => _ | none => none) = _
        rw [h2]
      · cases e
    · rename_i q
      obtain ⟨t', h1, h2⟩ := kt1_ok h q
      rw [ht] at h1; cases h1
      obtain ⟨Ts, e2, e3⟩ := ktT_ok h ht e
      refine ⟨T :: Ts, by rw [e2]; rfl, ?_⟩
      show (match PySem.W.kitOne K t (.type T) with | some true => some true | some false => _ | none => none) = _
      rw [h2]
      exact e3
    · cases e
theorem kt_ok {K : PySem.W.Frag} {c : Cn K} {Cs : List Str} (h : KtF K c.ca Cs) : KtOk c (kt Cs) := by
  intro d e b q
  unfold kt at q
  split at q
  · obtain ⟨t, h1, h2⟩ := kt1_ok h q
    exact ⟨t, h1, .inl ⟨_, rfl, h2⟩⟩
  · obtain ⟨t, h1, h2⟩ := ktC_ok h q
    exact ⟨t, h1, .inr (.inl ⟨_, rfl, h2⟩)⟩
  · rename_i z r
    have hd : ∃ t, d.ty c = some t := by
      cases z with
      | typ T =>
        unfold ktT at q
        split at q
        · rename_i q2; obtain ⟨t, h1, _⟩ := kt1_ok h q2; exact ⟨t, h1⟩
        · rename_i q2; obtain ⟨t, h1, _⟩ := kt1_ok h q2; exact ⟨t, h1⟩
        · cases q
      | _ => cases q
    obtain ⟨t, ht⟩ := hd
    obtain ⟨Ts, h1, h2⟩ := ktT_ok h ht q
    exact ⟨t, ht, .inr (.inr ⟨Ts, by rw [h1], h2⟩)⟩
  · cases q
end
end Dv

set_option Elab.async false
set_option linter.all false
set_option maxRecDepth 100000
set_option maxHeartbeats 2000000
namespace Dv
open PySem PySem.Spec PyProof.Rows L2
/-! ### repr -/
mutual
theorem okd_noDict : ∀ (n : Nat) (d : D), d.okd n = true → d.py.hasDict = false
  | _, .non, _ => by simp [D.py, PyData.hasDict]
  | _, .bl _, _ => by simp [D.py, PyData.hasDict]
  | _, .int _, _ => by simp [D.py, PyData.hasDict]
  | _, .str x, h => by simp [D.py, PyData.hasDict]
  | n + 1, .tup ds, h => by
    have q := okdL_noDict n ds (by simpa [D.okd] using h)
    simp only [D.py, PyData.hasDict]; exact q
  | n + 1, .lst ds, h => by
    have q := okdL_noDict n ds (by simpa [D.okd] using h)
    simp only [D.py, PyData.hasDict]; exact q
  | n + 1, .ro ds, h => by
    have q := okdL_noDict n ds (by simpa [D.okd] using h)
    simp only [D.py, PyData.hasDict]; exact q
  | 0, .tup ds, h => by simp [D.okd] at h
  | 0, .lst ds, h => by simp [D.okd] at h
  | 0, .ro ds, h => by simp [D.okd] at h
  | _, .obj _ _, h => by simp [D.okd] at h
  | _, .fn _, h => by simp [D.okd] at h
  | _, .typ _, h => by simp [D.okd] at h
  | _, .drw, h => by simp [D.okd] at h
  | _, .opq _, h => by simp [D.okd] at h
  | _, .dct, h => by simp [D.okd] at h
  | _, .flt _, h => by simp [D.okd] at h
theorem okdL_noDict : ∀ (n : Nat) (ds : List D), okdL n ds = true → PyData.hasDictAll (pyL ds) = false
  | _, [], _ => by simp [pyL, PyData.hasDictAll]
  | n, d :: ds, h => by
    simp only [okdL, Bool.and_eq_true] at h
    have q1 := okd_noDict n d h.1
    have q2 := okdL_noDict n ds h.2
    simp only [pyL, PyData.hasDictAll, q1, q2, Bool.or_self]
end
def rReprD (K : PySem.W.Frag) : List V → Hp → VK → Prop := fun xs H Q => ∃ x d, xs = [x] ∧ Dp K H x d ∧ d.showable = true ∧ d.hasDict = false ∧ d.depth ≤ 60 ∧ d.shown.length ≤ sizeLine ∧ Q (.str d.shown) H
theorem cr_repr {X : Cx} (hg : X.A.guards = some []) (hu : X.A.units + 64 < cLine) : CallR X (.builtin "repr") (rReprD X.K) := by
  intro pins s σ H xs us Q I r h
  obtain ⟨x, d, rfl, hd, h1, h2, h3, h4, q⟩ := h
  obtain ⟨u, rfl, ru⟩ := vals1 r
  cases hd with
  | non =>
    obtain rfl : u = Value.none := ru
    exact PySem.P.repr_of_none ⟨.str _, H, I.tok _, ⟨_, rfl⟩, q⟩
  | bl b =>
    obtain rfl : u = Value.bool b := ru
    exact PySem.P.repr_of_bool ⟨.str _, H, I.tok _, ⟨_, rfl⟩, q⟩
  | int i =>
    obtain ⟨t, rfl⟩ := ru
    exact PySem.P.repr_of_int (by simpa [PyData.showable] using h1) ⟨.str _, H, I.tok _, ⟨_, rfl⟩, q⟩
  | str x =>
    obtain ⟨t, rfl⟩ := ru
    exact PySem.P.repr_of_str (⟨.str _, H, I.tok _, ⟨_, rfl⟩, q⟩) h4
  | lst h a =>
    have hd' := Dp.lst h a
    obtain ⟨as, rd⟩ := Dp.reads I _ _ _ hd' ru
    obtain rfl : u = Value.ref _ := ru
    exact repr_of_reads' rd h1 (PyData.noDict_hsm h2) hg (by omega) (fun _ _ e => e) (fun h' u tk hk => ⟨.str _, H, I.kept hk, ⟨_, rfl⟩, q⟩) h4
  | tup h a =>
    have hd' := Dp.tup h a
    obtain ⟨as, rd⟩ := Dp.reads I _ _ _ hd' ru
    obtain rfl : u = Value.ref _ := ru
    exact repr_of_reads' rd h1 (PyData.noDict_hsm h2) hg (by omega) (fun _ _ e => e) (fun h' u tk hk => ⟨.str _, H, I.kept hk, ⟨_, rfl⟩, q⟩) h4
def dRepr : D → (Rv → Prop) → Prop := fun d k => (d.okd 60 = true ∧ d.py.showable = true ∧ d.py.shown.length ≤ sizeLine) ∧ k (.val (.str d.py.shown))
section
variable {X : Cx} {c : Cn X.K} {W : WX} {e a b : Expr} {pos : Pos} {f g : DV}
theorem cd_repr : CallD c (rReprD X.K) (on1 dRepr) := by
  refine calld1 (fun d k k' hk q => ⟨q.1, hk _ q.2⟩) fun B H v d Q k p i q K => ?_
  exact ⟨_, _, rfl, i.dp p.bh q.1.1, q.1.2.1, okd_noDict 60 d q.1.1, (okd_lay 60 d q.1.1).2, q.1.2.2, K _ B H _ (Step.refl p) (rv_val (.str _)) q.2⟩
/-- == of texts -/
def dEqS : D → D → (Bool → Prop) → Prop
  | .str x, .str y, k => k (decide (x = y))
  | _, _, _ => False
theorem opc_eqS : OpC c rEq dEqS := by
  refine ⟨fun d e k k' hk q => ?_, ?_⟩
  · unfold dEqS at q ⊢
    split at q
    · exact hk _ q
    · exact q
  · intro B H x y d e Q k p hx hy q K
    unfold dEqS at q
    split at q
    · cases hx; cases hy
      refine ⟨rfl, ?_⟩
      rw [show decide (V.str _ = V.str _) = decide (_ = _) from decide_eq_decide.mpr ⟨fun z => V.str.inj z, fun z => by rw [z]⟩]
      exact K _ q
    · exact q.elim
theorem ev_eqS (ha : EV X c W a f) (hb : EV X c W b g) : EV X c W (.Compare a [.Eq] [b] pos) (bV (cBin f g dEqS)) := ev_cmp op_eq opc_eqS ha hb (nomark _)
theorem eb_eqS (ha : EV X c W a f) (hb : EV X c W b g) : EB X c W (.Compare a [.Eq] [b] pos) (cBin f g dEqS) := eb_cmp op_eq opc_eqS ha hb (nomark _)
end
/-! ### the draw is begun -/
def c0 (K : PySem.W.Frag) (ca : Str → Addr) : Cn K := { ca := ca, dd := 0, mu := fun _ => False, inv := fun _ => True, loc := fun _ _ _ _ => trivial, dm := fun _ _ _ m => m.elim }
def spB (K : PySem.W.Frag) (ca : Str → Addr) (o : Bool) : Sp := fun vs H Q E => ∃ (B : Hp) (a : Addr) (ns : List Int), Pre (c0 K ca) B H ∧ vs = [.ref a] ∧ SqL K B a (ns.map .int) ∧ ns.length ≤ 63 ∧
  ∀ (P : DrawP) (H' : Hp) (ls : List Int), P.o = o → Same B H' → B P.dd = none → B P.la = none → B P.cl = none → P.dd ≠ P.la → P.dd ≠ P.cl → P.la ≠ P.cl → DrIs P H' ls 0 0 → Q (.ref P.dd) H'
theorem merge_kv (P : DrawP) (r t : Int) : mergeK [] (kvD P r t) = kvD P r t := by
  have a1 : ¬ ("large" : Str) = "rest" := by decide +kernel
  have a2 : ¬ ("large" : Str) = "cells" := by decide +kernel
  have a3 : ¬ ("large" : Str) = "turn" := by decide +kernel
  have a4 : ¬ ("rest" : Str) = "cells" := by decide +kernel
  have a5 : ¬ ("rest" : Str) = "turn" := by decide +kernel
  have a6 : ¬ ("cells" : Str) = "turn" := by decide +kernel
  have a7 : ¬ ("cells" : Str) = "rest" := by decide +kernel
  unfold kvD
  cases P.o <;> simp [mergeK, putK, a1, a2, a3, a4, a5, a6, a7]
section
variable {X : Cx} {ca : Str → Addr} {W : WX} {e : Expr} {pos p1 p2 p3 p4 p5 p6 p7 dp : Pos} {f2 : DR} {f1 : DS} {k1 k2 k3 k4 k5 k6 k7 : Nat} {st1 : Stmt}
theorem int_all {K : PySem.W.Frag} {c : Cn K} {B : Hp} {vs : List V} {ds : List D} (h : IsL c B vs ds) (hi : ∀ d ∈ ds, ∃ n, d = .int n) : ∃ ls : List Int, vs = ls.map .int := by
  induction vs generalizing ds with
  | nil => exact ⟨[], rfl⟩
  | cons v vs ih =>
    cases h with
    | cons r t =>
      obtain ⟨n, rfl⟩ := hi _ List.mem_cons_self
      cases r
      obtain ⟨ls, e⟩ := ih t fun d hd => hi d (List.mem_cons_of_mem _ hd)
      exact ⟨n :: ls, by rw [e]; rfl⟩
/-- what the two statements must give: all numbers -/
def AllI (ds : List D) : Prop := ∀ d ∈ ds, ∃ n, d = .int n
theorem begun_end {Q : VK} {B0 H0 B H : Hp} {σ : L2.St} {ρ : Sl} {ds : List D} {E0 : Exn → Prop} (r : Rep (c0 X.K ca) H0 B0 B H σ ρ) (h1 : ρ[1]? = some (some (.own ds))) (hd : AllI ds) (hE : ∀ x, E0 x → ∀ Bx Hx, XK (c0 X.K ca) W Bx Hx x) (mn : Mn f2) (hq : f2 (viewN ρ) (fun rv => ∃ cs, rv = .new cs ∧ AllI cs) E0) (o : Bool)
    (kq : ∀ (P : DrawP) (H' : Hp) (ls : List Int), P.o = o → Same B0 H' → B0 P.dd = none → B0 P.la = none → B0 P.cl = none → P.dd ≠ P.la → P.dd ≠ P.cl → P.la ≠ P.cl → DrIs P H' ls 0 0 → Q (.ref P.dd) H') :
    ∃ la, σ[1]? = some (some (.ref la)) ∧ ∀ p, H p = none → (∀ Q' : VK, (∀ cl B1 H1 cs, (Q' (.ref cl) H1 ↔ Q' (.ref cl) H1) → H1 p = some (.dK []) → (∀ P : DrawP, P = ⟨p, la, cl, cs, o⟩ → Q (.ref p) (upd H1 p (.dK (mergeK [] (kvD P 0 0))))) → Step (c0 X.K ca) B (upd H p (.dK [])) B1 H1 → Q' (.ref cl) H1) → tR (c0 X.K ca) W f2 σ (upd H p (.dK [])) Q') := by
  obtain ⟨la, va, e1, e2, e3, e4, e5⟩ := r.sl 1 _ h1
  refine ⟨la, e1, fun p hp Q' hQ => ?_⟩
  have s1 := Step.lay r.pre hp (.dK [])
  refine ⟨B, viewN ρ, s1.pre, r.viewN, mn _ _ _ _ _ (fun rv hv v B1 H1 s2 ro => ?_) (fun x hx => hE x hx _ _) hq⟩
  obtain ⟨cs, rfl, hc⟩ := hv
  obtain ⟨cl, vc, rfl, g1, g2, g3, g4⟩ := ro
  obtain ⟨li, rfl⟩ := int_all e3 hd
  obtain ⟨ci, rfl⟩ := int_all g2 hc
  have npl : p ≠ la := fun z => by rw [z, e2] at hp; cases hp
  have hla : (upd H p (.dK [])) la = some (.lst (li.map .int)) := by rw [upd_ne npl.symm]; exact e2
  have npc : p ≠ cl := fun z => by rw [← z, upd_same] at g4; cases g4
  have nlc : la ≠ cl := fun z => by rw [← z, hla] at g4; cases g4
  have h2p : H1 p = some (.dK []) := s2.out p _ upd_same (fun z => z) (fun _ z => nomatch z)
  have h2l : H1 la = some (.lst (li.map .int)) := s2.out la _ hla (fun z => z) (fun _ z => nomatch z)
  have bp : B p = none := r.pre.bnone hp
  have b0 : ∀ {a}, B a = none → B0 a = none := fun {a} z => by
    cases q : B0 a with
    | none => rfl
    | some o => rw [r.st.b a o q] at z; cases z
  refine hQ cl B1 H1 ci Iff.rfl h2p (fun P hP => ?_) s2
  subst hP
  refine kq ⟨p, la, cl, ci, o⟩ _ li rfl (fun a oo z => ?_) (b0 bp) (b0 e4) (b0 ?_) npl npc nlc ⟨?_, ?_, ?_⟩
  · have nb : a ≠ p := fun y => by rw [y, b0 bp] at z; cases z
    rw [upd_ne nb]
    exact s2.bh a oo (s2.b a oo (r.st.b a oo z))
  · cases q : B cl with
    | none => rfl
    | some oo => rw [s2.b cl oo q] at g3; cases g3
  · rw [upd_same, merge_kv]
  · show (upd H1 p _) la = _
    rw [upd_ne npl.symm]; exact h2l
  · show (upd H1 p _) cl = _
    rw [upd_ne npc.symm]; exact g1
theorem begun0 (hv : PE X (.Name "large" p1) (tVar 1)) (hc : ER X (c0 X.K ca) W e f2) (h1 : SS X (c0 X.K ca) W st1 f1) :
    PSs X [st1, .Return (some (.Dict [some (.Constant (.str "large") k1 p2), some (.Constant (.str "rest") k2 p3), some (.Constant (.str "cells") k3 p4), some (.Constant (.str "turn") k4 p5)] [.Name "large" p1, .Constant (.int 0) k5 p6, e, .Constant (.int 0) k6 p7] dp)) pos]
      (tSeq (tS (c0 X.K ca) W f1) (tRet (tDisp [(tC (.str "large"), tVar 1), (tC (.str "rest"), tC (.int 0)), (tC (.str "cells"), tR (c0 X.K ca) W f2), (tC (.str "turn"), tC (.int 0))]))) :=
  pss_cons h1.ps (pss_one (ps_ret (pe_disp (pps_cons pe_str hv (pps_cons pe_str pe_int (pps_cons pe_str hc.pe (pps_cons pe_str pe_int pps_nil)))) rfl rfl (by simp) (by simp))))
theorem begun1 (hv : PE X (.Name "large" p1) (tVar 1)) (hc : ER X (c0 X.K ca) W e f2) (h1 : SS X (c0 X.K ca) W st1 f1) :
    PSs X [st1, .Return (some (.Dict [some (.Constant (.str "large") k1 p2), some (.Constant (.str "cells") k3 p4), some (.Constant (.str "rest") k2 p3), some (.Constant (.str "turn") k4 p5)] [.Name "large" p1, e, .Constant (.int 0) k5 p6, .Constant (.int 0) k6 p7] dp)) pos]
      (tSeq (tS (c0 X.K ca) W f1) (tRet (tDisp [(tC (.str "large"), tVar 1), (tC (.str "cells"), tR (c0 X.K ca) W f2), (tC (.str "rest"), tC (.int 0)), (tC (.str "turn"), tC (.int 0))]))) :=
  pss_cons h1.ps (pss_one (ps_ret (pe_disp (pps_cons pe_str hv (pps_cons pe_str hc.pe (pps_cons pe_str pe_int (pps_cons pe_str pe_int pps_nil)))) rfl rfl (by simp) (by simp))))
/-- what the comprehensions of it must do -/
def BegOk (n : Nat) (f1 : DS) (f2 : DR) : Prop := ∀ ns : List Int, ns.length ≤ 63 → f1 (some (.val (.ro (ns.map .int))) :: List.replicate n none) ⟨fun ρ => ∃ ds, ρ[1]? = some (some (.own ds)) ∧ AllI ds ∧ f2 (viewN ρ) (fun rv => ∃ cs, rv = .new cs ∧ AllI cs) (fun _ => False), fun _ => False, fun _ => False, fun _ => False⟩ (fun _ => False)
theorem begun_sem {Q : VK} {B H : Hp} {a : Addr} {ns : List Int} {Dn : Ends} {N : List Str} {n : Nat} (hN : N.length = n + 1) (hQ : Dn.rt = Q) (mn1 : MnS f1) (mn2 : Mn f2) (ok : BegOk n f1 f2) (p : Pre (c0 X.K ca) B H) (hs : SqL X.K B a (ns.map .int)) (hl : ns.length ≤ 63) (o : Bool)
    (kq : ∀ (P : DrawP) (H' : Hp) (ls : List Int), P.o = o → Same B H' → B P.dd = none → B P.la = none → B P.cl = none → P.dd ≠ P.la → P.dd ≠ P.cl → P.la ≠ P.cl → DrIs P H' ls 0 0 → Q (.ref P.dd) H') :
    tSeq (tS (c0 X.K ca) W f1) (tRet (tDisp (if o = true then [(tC (.str "large"), tVar 1), (tC (.str "cells"), tR (c0 X.K ca) W f2), (tC (.str "rest"), tC (.int 0)), (tC (.str "turn"), tC (.int 0))] else [(tC (.str "large"), tVar 1), (tC (.str "rest"), tC (.int 0)), (tC (.str "cells"), tR (c0 X.K ca) W f2), (tC (.str "turn"), tC (.int 0))]))) Dn (L2.start N [.ref a]) H := by
  have il : ∀ ns : List Int, IsL (c0 X.K ca) B (ns.map V.int) (ns.map D.int) := fun ns => by
    induction ns with
    | nil => exact .nil
    | cons n ns ih => exact .cons (.int n) ih
  have hi : IsL (c0 X.K ca) B [V.ref a] [.ro (ns.map .int)] := .cons (.ro hs (il ns)) .nil
  have r0 := rep_start (N := N) p hi (by rw [hN]; exact Nat.succ_le_succ (Nat.zero_le n))
  have hst : startD N.length [D.ro (ns.map .int)] = some (.val (.ro (ns.map .int))) :: List.replicate n none := by rw [hN]; rfl
  rw [hst] at r0
  refine ⟨H, B, B, _, r0, mn1 _ ⟨fun ρ => ∃ ds, ρ[1]? = some (some (.own ds)) ∧ AllI ds ∧ f2 (viewN ρ) (fun rv => ∃ cs, rv = .new cs ∧ AllI cs) (fun _ => False), fun _ => False, fun _ => False, fun _ => False⟩ _ _ _ ⟨fun ρ ⟨ds, g1, g2, g3⟩ σ' B' H' r' _ => ?_, fun _ z => z.elim, fun _ z => z.elim, fun _ z => z.elim⟩ (fun _ z => z.elim) (ok ns hl)⟩
  obtain ⟨la, e1, fin⟩ := begun_end (W := W) (Q := Q) r' g1 g2 (fun _ z => z.elim) mn2 g3 o kq
  show tDisp _ σ' H' Dn.rt
  rw [hQ]
  cases o
  · intro q hq
    refine ⟨_, e1, ?_⟩
    refine fin q hq _ fun cl B1 H1 cs _ k1 k2 s2 => ?_
    exact ⟨k1, kvD ⟨q, la, cl, cs, false⟩ 0 0, rfl, by simp [kvD], k2 _ rfl⟩
  · intro q hq
    refine ⟨_, e1, ?_⟩
    refine fin q hq _ fun cl B1 H1 cs _ k1 k2 s2 => ?_
    exact ⟨k1, kvD ⟨q, la, cl, cs, true⟩ 0 0, rfl, by simp [kvD], k2 _ rfl⟩
end
/-- the contract of _law_begun -/
theorem begun_fn {P : Program} {w : World} {K : PySem.W.Frag} {mg : Str → Option Value} {base : Heap} {ca : Str → Addr} {x : Str} {st : Stmt} {f : Addr} {fd : FuncData} {N : List Str} {k n : Nat} {ps : List Str} (hp : ps.length = 1) (fu : Fun K x x st f fd) (S : FnScope N ps (defScope st)) (hN : N.length = n + 1) (o : Bool) {f1 : DS} {f2 : DR} (ok : BegOk n f1 f2)
    (hbody : ∀ (cdv : Value) (A : Around) (outer : List Env) (s : Shared) (H : Hp) (E : L2.XK), Fm (FX P w K mg base N x st f cdv A outer s H E) (FW E) k → MnS f1 ∧ Mn f2 ∧ PSs (FX P w K mg base N x st f cdv A outer s H E) (defBody st)
      (tSeq (tS (c0 K ca) (FW E) f1) (tRet (tDisp (if o = true then [(tC (.str "large"), tVar 1), (tC (.str "cells"), tR (c0 K ca) (FW E) f2), (tC (.str "rest"), tC (.int 0)), (tC (.str "turn"), tC (.int 0))] else [(tC (.str "large"), tVar 1), (tC (.str "rest"), tC (.int 0)), (tC (.str "cells"), tR (c0 K ca) (FW E) f2), (tC (.str "turn"), tC (.int 0))]))))) :
    FnD P w K mg base (k + 1) f fd ps (spB K ca o) := by
  refine fnd_of fu S (fun vs H Q E ⟨B, a, ns, _, e, _⟩ => by rw [e, hp]; rfl) fun cdv A outer s H vs Q E fm ⟨B, a, ns, p, e, hs, hl, kq⟩ => ?_
  subst e
  obtain ⟨m1, m2, hb⟩ := hbody cdv A outer s H E fm
  exact ⟨_, hb, begun_sem (X := FX P w K mg base N x st f cdv A outer s H E) (W := FW E) hN rfl m1 m2 ok p hs hl o kq⟩
def stN (st : Stmt) (i : Nat) : Stmt := (defBody st).getD i (.Pass ⟨0, 0, 0, 0⟩)
def dVals : Stmt → Nat → Expr
  | .Return (some (.Dict _ vs _)) _, i => vs.getD i (.Constant .none 0 ⟨0, 0, 0, 0⟩)
  | _, _ => .Constant .none 0 ⟨0, 0, 0, 0⟩
theorem begun_gen0 {P : Program} {w : World} {K : PySem.W.Frag} {mg : Str → Option Value} {base : Heap} {ca : Str → Addr} {x : Str} {st : Stmt} {f : Addr} {fd : FuncData} {N : List Str} {k n k1 k2 k3 k4 k5 k6 : Nat} {ps : List Str} {pos p1 p2 p3 p4 p5 p6 p7 dp : Pos} (hp : ps.length = 1) (fu : Fun K x x st f fd) (S : FnScope N ps (defScope st)) (hN : N.length = n + 1) {f1 : DS} {f2 : DR} (ok : BegOk n f1 f2)
    (hN1 : N[1]? = some ("large" : Str)) (hv : Vis (defScope st) "large") (hst : defBody st = [stN st 0, .Return (some (.Dict [some (.Constant (.str "large") k1 p2), some (.Constant (.str "rest") k2 p3), some (.Constant (.str "cells") k3 p4), some (.Constant (.str "turn") k4 p5)] [.Name "large" p1, .Constant (.int 0) k5 p6, dVals (stN st 1) 2, .Constant (.int 0) k6 p7] dp)) pos])
    (hbody : ∀ (cdv : Value) (A : Around) (outer : List Env) (s : Shared) (H : Hp) (E : L2.XK), Fm (FX P w K mg base N x st f cdv A outer s H E) (FW E) k → SS (FX P w K mg base N x st f cdv A outer s H E) (c0 K ca) (FW E) (stN st 0) f1 ∧ ER (FX P w K mg base N x st f cdv A outer s H E) (c0 K ca) (FW E) (dVals (stN st 1) 2) f2) :
    FnD P w K mg base (k + 1) f fd ps (spB K ca false) :=
  begun_fn hp fu S hN false ok fun cdv A outer s H E m => by
    obtain ⟨h1, h2⟩ := hbody cdv A outer s H E m
    refine ⟨h1.mn, h2.mn, ?_⟩
    rw [hst]
    exact begun0 (pe_var hN1 hv (by decide) (by decide)) h2 h1
theorem begun_gen1 {P : Program} {w : World} {K : PySem.W.Frag} {mg : Str → Option Value} {base : Heap} {ca : Str → Addr} {x : Str} {st : Stmt} {f : Addr} {fd : FuncData} {N : List Str} {k n k1 k2 k3 k4 k5 k6 : Nat} {ps : List Str} {pos p1 p2 p3 p4 p5 p6 p7 dp : Pos} (hp : ps.length = 1) (fu : Fun K x x st f fd) (S : FnScope N ps (defScope st)) (hN : N.length = n + 1) {f1 : DS} {f2 : DR} (ok : BegOk n f1 f2)
    (hN1 : N[1]? = some ("large" : Str)) (hv : Vis (defScope st) "large") (hst : defBody st = [stN st 0, .Return (some (.Dict [some (.Constant (.str "large") k1 p2), some (.Constant (.str "cells") k3 p4), some (.Constant (.str "rest") k2 p3), some (.Constant (.str "turn") k4 p5)] [.Name "large" p1, dVals (stN st 1) 1, .Constant (.int 0) k5 p6, .Constant (.int 0) k6 p7] dp)) pos])
    (hbody : ∀ (cdv : Value) (A : Around) (outer : List Env) (s : Shared) (H : Hp) (E : L2.XK), Fm (FX P w K mg base N x st f cdv A outer s H E) (FW E) k → SS (FX P w K mg base N x st f cdv A outer s H E) (c0 K ca) (FW E) (stN st 0) f1 ∧ ER (FX P w K mg base N x st f cdv A outer s H E) (c0 K ca) (FW E) (dVals (stN st 1) 1) f2) :
    FnD P w K mg base (k + 1) f fd ps (spB K ca true) :=
  begun_fn hp fu S hN true ok fun cdv A outer s H E m => by
    obtain ⟨h1, h2⟩ := hbody cdv A outer s H E m
    refine ⟨h1.mn, h2.mn, ?_⟩
    rw [hst]
    exact begun1 (pe_var hN1 hv (by decide) (by decide)) h2 h1
end Dv

set_option Elab.async false
set_option linter.all false
set_option maxRecDepth 100000
set_option maxHeartbeats 2000000
namespace Dv
open PySem PySem.Spec PyProof.Rows L2
section
variable {X : Cx} {W : WX} {e : Expr} {es : List Expr} {pos p : Pos} {j k : Nat}
theorem pe_callF {x : Str} {st : Stmt} {f : Addr} {ps : List Str} {sp : Sp} {t : TA} {kV doc pm cdv ct : Value} {an : Option Addr} (m : Fm X W j) (F : FnD X.prog X.w X.K X.mg X.base k f (PySem.W.fnOf x x (defArgs st) (defBody st) (defScope st) .none kV doc pm an cdv ct) ps sp) (hk : k ≤ j) (hg : Gl X x) (hm : X.mg x = some (.ref f)) (kp : PySem.W.keepIn X.K (.ref f) = true) (hb : BindP x st ps [] ps.length id)
    (ha : PA X (e :: es) t) (hdb : (x == ("__debug__" : Str)) = false := by decide) (he : starEach (e :: es) X.env = (false, eval e X.env) :: starEach es X.env := by rfl) (hpl : (backTo pos (starEach es X.env)).any (·.1) = false := by rfl) :
    PE X (.Call (.Name x p) (e :: es) [] pos) (fun σ H Q => t σ H fun vs H1 => sp vs H1 Q fun cls d H' => ∀ σ', W cls d σ' H') := by
  refine ⟨fun pins s σ H Q I h => ?_⟩
  refine wpAny_Call_Name_kw (ld_glob I hg hm ?_ hdb)
  refine PySem.W.callWith_K (h₀ := X.base) I.ok.mod.kin kp (thn (ha.run pos pins s σ H _ I h) fun us s1 ⟨vs, H1, I1, r, q⟩ => ⟨I1.kIn, ?_⟩) he hpl
  have lv : us.length = ps.length := by rw [← r.length]; exact F.len _ _ _ _ q
  have hbt : BindsTo s1 (PySem.W.fnOf x x (defArgs st) (defBody st) (defScope st) .none kV doc pm an cdv ct) ⟨us, []⟩ (ps.zip us) := .of_eq (by
    have z := hb kV doc pm an cdv ct us [] lv rfl
    simpa using z)
  refine wpAny_call (codeAny_mono (run_fnD m F hk (fun cls d σ H h => h σ) I1 hbt r q) fun r s' hq => ?_)
  cases r with
  | error e => exact hq
  | ok fl =>
    cases fl with
    | ret u => exact hq
    | next => exact hq.elim
    | brk => exact hq.elim
    | cont => exact hq.elim
end
theorem pss_ex {X : Cx} {sts : List Stmt} {α : Type} {t : α → TS} (h : ∀ i, PSs X sts (t i)) : PSs X sts (fun D σ H => ∃ i, t i D σ H) := ⟨fun pins s σ H D I ⟨i, q⟩ => (h i).run pins s σ H D I q⟩
def spL (K : PySem.W.Frag) : Sp := fun vs H Q _ => ∃ (a : Addr) (ns : List Int), vs = [.ref a] ∧ SqL K H a (ns.map V.int) ∧ ns.length ≤ 63 ∧ ∀ H', Q (.bl true) H'
/-- the contract of the law -/
theorem law_fn {P : Program} {w : World} {K : PySem.W.Frag} {mg : Str → Option Value} {base : Heap} {ca : Str → Addr} {x xb xd : Str} {st stb : Stmt} {f fb : Addr} {fd : FuncData} {N ps psb : List Str} {k kb n i : Nat} {o : Bool} {b : DS} {rest : List Stmt} {pd pb ps1 pc pa : Pos} {kVb docb pmb cdvb ctb : Value} {anb : Option Addr}
    (fu : Fun K x x st f fd) (S : FnScope N ps (defScope st)) (hp : ps.length = 1) (hps : psb.length = 1) (hN : N.length = n + 1) (hi : N[i]? = some xd) (hi0 : 0 < i) (hx0 : ∃ x0, N[0]? = some x0 ∧ Vis (defScope st) x0 ∧ (x0 == ("__debug__" : Str)) = false ∧ (x0 == ("__classdict__" : Str)) = false ∧ defBody st = .Assign [.Name xd pd] (.Call (.Name xb pb) [.Name x0 pa] [] pc) ps1 :: rest)
    (hl : Loc (defScope st) xd) (hlf : (defScope st).names.lookup xd = some .local) (hgb : ∀ (cdv : Value) (A : Around) (outer : List Env) (s : Shared) (H : Hp) (E : L2.XK), Gl (FX P w K mg base N x st f cdv A outer s H E) xb) (hdb : (xb == ("__debug__" : Str)) = false)
    (hsw : ∀ (cdv : Value) (A : Around) (outer : List Env) (s : Shared) (H : Hp) (E : L2.XK) (x0 : Str), swapsWith (.Call (.Name xb pb) [.Name x0 pa] [] pc) (some (.Name xd pd)) ps1.line (FX P w K mg base N x st f cdv A outer s H E).env = pure false)
    (hse : ∀ (cdv : Value) (A : Around) (outer : List Env) (s : Shared) (H : Hp) (E : L2.XK) (x0 : Str), starEach [.Name x0 pa] (FX P w K mg base N x st f cdv A outer s H E).env = (false, eval (.Name x0 pa) (FX P w K mg base N x st f cdv A outer s H E).env) :: starEach [] (FX P w K mg base N x st f cdv A outer s H E).env)
    (mb : mg xb = some (.ref fb)) (kpb : PySem.W.keepIn K (.ref fb) = true) (FB : FnD P w K mg base kb fb (PySem.W.fnOf xb xb (defArgs stb) (defBody stb) (defScope stb) .none kVb docb pmb anb cdvb ctb) psb (spB K ca o)) (hkb : kb ≤ k) (hbb : BindP xb stb psb [] psb.length id)
    (hrest : ∀ (cdv : Value) (A : Around) (outer : List Env) (s : Shared) (H : Hp) (E : L2.XK), Fm (FX P w K mg base N x st f cdv A outer s H E) (FW E) k → ∀ Pd : DrawP, SB (FX P w K mg base N x st f cdv A outer s H E) (cD K ca Pd) (FW E) rest b)
    (hF : ∀ ns : List Int, ns.length ≤ 63 → b ((some (.val (.ro (ns.map .int))) :: List.replicate n none).set i (some (.val .drw))) ⟨fun _ => False, fun r => r = .val (.bl true), fun _ => False, fun _ => False⟩ (fun _ => False)) :
    FnD P w K mg base (k + 1) f fd ps (spL K) := by
  refine fnd_of fu S (fun vs H Q E ⟨a, ns, e, _⟩ => by rw [e, hp]; rfl) fun cdv A outer s H vs Q E m ⟨a, ns, e, hs, hlen, kq⟩ => ?_
  subst e
  obtain ⟨x0, hN0, hv0, hd0, hc0, hbody⟩ := hx0
  have hr := hrest cdv A outer s H E m
  have pv0 : PE (FX P w K mg base N x st f cdv A outer s H E) (.Name x0 pa) (tVar 0) := pe_var hN0 hv0 hd0 hc0
  have call := pe_callF (p := pb) (pos := pc) (st := stb) m FB hkb (hgb cdv A outer s H E) mb kpb hbb (pa_cons pv0 pa_nil (hse cdv A outer s H E x0)) hdb (hse cdv A outer s H E x0) rfl
  have st0 := ps_set (pos' := pd) (pos := ps1) m.nd hi hl call (hsw cdv A outer s H E x0) (.inr hlf)
  refine ⟨_, hbody ▸ pss_cons st0 (pss_ex fun Pd => (hr Pd).ps), ?_⟩
  have h0 : (L2.start N [.ref a])[0]? = some (some (.ref a)) := rfl
  refine ⟨_, h0, H, a, ns, ⟨Same.refl H, trivial, fun _ z => z.elim⟩, rfl, hs, hlen, fun Pd H' ls ho sm z1 z2 z3 n1 n2 n3 dr => ?_⟩
  have p1 : Pre (cD K ca Pd) H H' := ⟨sm, ⟨n1, n2, n3, ls, 0, 0, dr⟩, fun b m => by
    rcases m with rfl | rfl | rfl
    · exact z1
    · exact z2
    · exact z3⟩
  have il : ∀ ns : List Int, IsL (cD K ca Pd) H (ns.map V.int) (ns.map D.int) := fun ns => by
    induction ns with
    | nil => exact .nil
    | cons n ns ih => exact .cons (.int n) ih
  have r0 := rep_start (N := N) p1 (.cons (.ro hs (il ns)) .nil) (by rw [hN]; exact Nat.succ_le_succ (Nat.zero_le n))
  have hst : startD N.length [D.ro (ns.map .int)] = some (.val (.ro (ns.map .int))) :: List.replicate n none := by rw [hN]; rfl
  rw [hst] at r0
  have hil : i < N.length := (List.getElem?_eq_some_iff.mp hi).1
  have r1 := r0.setV (i := i) (v := .ref Pd.dd) (d := .drw) .drw
  refine ⟨Pd, H', H, H, _, r1, (hr Pd).mn _ ⟨fun _ => False, fun r => r = .val (.bl true), fun _ => False, fun _ => False⟩ _ (fun _ => False) _ ⟨fun _ z => z.elim, fun r e v B' H2 st ro => ?_, fun _ z => z.elim, fun _ z => z.elim⟩ (fun _ z => z.elim) (hF ns hlen)⟩
  subst e
  cases ro
  exact kq H2
end Dv

set_option Elab.async false
set_option linter.all false
set_option maxRecDepth 100000
set_option maxHeartbeats 2000000
namespace Dv
open PySem PySem.Spec PyProof.Rows L2
theorem Fm.hu {X : Cx} {W : WX} {j : Nat} (m : Fm X W j) : X.A.units + 64 < cLine := m.room.units
theorem Fm.hu1 {X : Cx} {W : WX} {j : Nat} (m : Fm X W j) : X.A.units + 1 < cLine := by have := m.hu; omega
section
variable {X : Cx} {c : Cn X.K} {W : WX} {e a b x : Expr} {es : List Expr} {pos p : Pos} {f g h : DV} {j k : Nat} {l : DL}
/-! ### calls of built-ins, in short -/
theorem er_abs (m : Fm X W j) (hm : X.mg "abs" = none) (ha : EA X c W (e :: es) l) (hg : Gl X "abs" := by rfl) (he : starEach (e :: es) X.env = (false, eval e X.env) :: starEach es X.env := by rfl) (hpl : (backTo pos (starEach es X.env)).any (·.1) = false := by rfl) : ER X c W (.Call (.Name "abs" p) (e :: es) [] pos) (rCall l (on1 (i1 iAbs))) :=
  er_callB call_abs cd_abs hg hm (by decide +kernel) ha (by decide) (by decide) he hpl
theorem er_int (m : Fm X W j) (hm : X.mg "int" = none) (ha : EA X c W (e :: es) l) (hg : Gl X "int" := by rfl) (he : starEach (e :: es) X.env = (false, eval e X.env) :: starEach es X.env := by rfl) (hpl : (backTo pos (starEach es X.env)).any (·.1) = false := by rfl) : ER X c W (.Call (.Name "int" p) (e :: es) [] pos) (rCall l (on1 dInt)) :=
  er_callTy call_int1 cd_int hg hm (by decide +kernel) ha (by decide) (by decide) he hpl
theorem er_max2 (m : Fm X W j) (hm : X.mg "max" = none) (ha : EA X c W (e :: es) l) (hg : Gl X "max" := by rfl) (he : starEach (e :: es) X.env = (false, eval e X.env) :: starEach es X.env := by rfl) (hpl : (backTo pos (starEach es X.env)).any (·.1) = false := by rfl) : ER X c W (.Call (.Name "max" p) (e :: es) [] pos) (rCall l (on2 (i2 iMax))) :=
  er_callB (call_max2 m.calm) cd_i2 hg hm (by decide +kernel) ha (by decide) (by decide) he hpl
theorem er_min2 (m : Fm X W j) (hm : X.mg "min" = none) (ha : EA X c W (e :: es) l) (hg : Gl X "min" := by rfl) (he : starEach (e :: es) X.env = (false, eval e X.env) :: starEach es X.env := by rfl) (hpl : (backTo pos (starEach es X.env)).any (·.1) = false := by rfl) : ER X c W (.Call (.Name "min" p) (e :: es) [] pos) (rCall l (on2 (i2 iMin))) :=
  er_callB (call_min2 m.calm) cd_i2 hg hm (by decide +kernel) ha (by decide) (by decide) he hpl
theorem er_maxL (m : Fm X W j) (hm : X.mg "max" = none) (ha : EA X c W (e :: es) l) (hg : Gl X "max" := by rfl) (he : starEach (e :: es) X.env = (false, eval e X.env) :: starEach es X.env := by rfl) (hpl : (backTo pos (starEach es X.env)).any (·.1) = false := by rfl) : ER X c W (.Call (.Name "max" p) (e :: es) [] pos) (rCall l (on1 dMaxL)) :=
  er_callB (cr_max m.calm) cd_maxL hg hm (by decide +kernel) ha (by decide) (by decide) he hpl
theorem er_minL (m : Fm X W j) (hm : X.mg "min" = none) (ha : EA X c W (e :: es) l) (hg : Gl X "min" := by rfl) (he : starEach (e :: es) X.env = (false, eval e X.env) :: starEach es X.env := by rfl) (hpl : (backTo pos (starEach es X.env)).any (·.1) = false := by rfl) : ER X c W (.Call (.Name "min" p) (e :: es) [] pos) (rCall l (on1 dMinL)) :=
  er_callB (cr_min m.calm) cd_minL hg hm (by decide +kernel) ha (by decide) (by decide) he hpl
theorem er_sum (m : Fm X W j) (hm : X.mg "sum" = none) (ha : EA X c W (e :: es) l) (hg : Gl X "sum" := by rfl) (he : starEach (e :: es) X.env = (false, eval e X.env) :: starEach es X.env := by rfl) (hpl : (backTo pos (starEach es X.env)).any (·.1) = false := by rfl) : ER X c W (.Call (.Name "sum" p) (e :: es) [] pos) (rCall l (on1 dSum)) :=
  er_callB (cr_sum m.calm) cd_sum hg hm (by decide +kernel) ha (by decide) (by decide) he hpl
theorem er_all (m : Fm X W j) (hm : X.mg "all" = none) (ha : EA X c W (e :: es) l) (hg : Gl X "all" := by rfl) (he : starEach (e :: es) X.env = (false, eval e X.env) :: starEach es X.env := by rfl) (hpl : (backTo pos (starEach es X.env)).any (·.1) = false := by rfl) : ER X c W (.Call (.Name "all" p) (e :: es) [] pos) (rCall l (on1 dAll)) :=
  er_callB (cr_all m.calm) cd_all hg hm (by decide +kernel) ha (by decide) (by decide) he hpl
theorem er_any (m : Fm X W j) (hm : X.mg "any" = none) (ha : EA X c W (e :: es) l) (hg : Gl X "any" := by rfl) (he : starEach (e :: es) X.env = (false, eval e X.env) :: starEach es X.env := by rfl) (hpl : (backTo pos (starEach es X.env)).any (·.1) = false := by rfl) : ER X c W (.Call (.Name "any" p) (e :: es) [] pos) (rCall l (on1 dAny)) :=
  er_callB (cr_any m.calm) cd_any hg hm (by decide +kernel) ha (by decide) (by decide) he hpl
theorem er_listOf (m : Fm X W j) (hm : X.mg "list" = none) (ha : EA X c W (e :: es) l) (hg : Gl X "list" := by rfl) (he : starEach (e :: es) X.env = (false, eval e X.env) :: starEach es X.env := by rfl) (hpl : (backTo pos (starEach es X.env)).any (·.1) = false := by rfl) : ER X c W (.Call (.Name "list" p) (e :: es) [] pos) (rCall l (on1 dList)) :=
  er_callTy call_list_of cd_list hg hm (by decide +kernel) ha (by decide) (by decide) he hpl
theorem er_tupleOf (m : Fm X W j) (hm : X.mg "tuple" = none) (ha : EA X c W (e :: es) l) (hg : Gl X "tuple" := by rfl) (he : starEach (e :: es) X.env = (false, eval e X.env) :: starEach es X.env := by rfl) (hpl : (backTo pos (starEach es X.env)).any (·.1) = false := by rfl) : ER X c W (.Call (.Name "tuple" p) (e :: es) [] pos) (rCall l (on1 dTuple)) :=
  er_callTy call_tuple_of cd_tuple hg hm (by decide +kernel) ha (by decide) (by decide) he hpl
theorem er_reprOf (m : Fm X W j) (hm : X.mg "repr" = none) (ha : EA X c W (e :: es) l) (hg : Gl X "repr" := by rfl) (he : starEach (e :: es) X.env = (false, eval e X.env) :: starEach es X.env := by rfl) (hpl : (backTo pos (starEach es X.env)).any (·.1) = false := by rfl) : ER X c W (.Call (.Name "repr" p) (e :: es) [] pos) (rCall l (on1 dRepr)) :=
  er_callB (cr_repr m.gd m.hu) cd_repr hg hm (by decide +kernel) ha (by decide) (by decide) he hpl
theorem er_gcd (m : Fm X W j) (hm : X.mg "gcd" = some (.builtin "math.gcd")) (ha : EA X c W (e :: es) l) (hg : Gl X "gcd" := by rfl) (he : starEach (e :: es) X.env = (false, eval e X.env) :: starEach es X.env := by rfl) (hpl : (backTo pos (starEach es X.env)).any (·.1) = false := by rfl) : ER X c W (.Call (.Name "gcd" p) (e :: es) [] pos) (rCall l (on2 (i2 iGcd))) :=
  er_callM cr_gcd (cd_i2 (g := iGcd)) hg hm ha (by decide) he hpl
theorem er_isi {Cs : List Str} (m : Fm X W j) (hk : KtF X.K c.ca Cs) (hm : X.mg "isinstance" = none) (ha : EA X c W (e :: es) l) (hg : Gl X "isinstance" := by rfl) (he : starEach (e :: es) X.env = (false, eval e X.env) :: starEach es X.env := by rfl) (hpl : (backTo pos (starEach es X.env)).any (·.1) = false := by rfl) : ER X c W (.Call (.Name "isinstance" p) (e :: es) [] pos) (rCall l (on2 (dIsi (kt Cs)))) :=
  er_callB (r := fun xs H Q => rIsi X.K xs H Q ∨ rIsiT X.K xs H Q) (fun pins s σ H xs us Q I r q => q.elim (call_isi pins s σ H xs us Q I r) (call_isiT pins s σ H xs us Q I r)) (cd_isi (kt_ok hk)) hg hm (by decide +kernel) ha (by decide) (by decide) he hpl
/-! ### chains -/
theorem ev_ltlt (ha : EV X c W a f) (hb : EV X c W b g) (hc : EV X c W x h) : EV X c W (.Compare a [.Lt, .Lt] [b, x] pos) (bV (cChain f g h dLt dLt)) := ev_chain opc_I opc_I ha hb hc (pe_chain op_lt op_lt ha.pe hb.pe hc.pe (show lastMarks _ _ = false from nomark x))
theorem ev_ltle (ha : EV X c W a f) (hb : EV X c W b g) (hc : EV X c W x h) : EV X c W (.Compare a [.Lt, .LtE] [b, x] pos) (bV (cChain f g h dLt dLe)) := ev_chain opc_I opc_I ha hb hc (pe_chain op_lt op_le ha.pe hb.pe hc.pe (show lastMarks _ _ = false from nomark x))
theorem ev_lelt (ha : EV X c W a f) (hb : EV X c W b g) (hc : EV X c W x h) : EV X c W (.Compare a [.LtE, .Lt] [b, x] pos) (bV (cChain f g h dLe dLt)) := ev_chain opc_I opc_I ha hb hc (pe_chain op_le op_lt ha.pe hb.pe hc.pe (show lastMarks _ _ = false from nomark x))
theorem ev_lele (ha : EV X c W a f) (hb : EV X c W b g) (hc : EV X c W x h) : EV X c W (.Compare a [.LtE, .LtE] [b, x] pos) (bV (cChain f g h dLe dLe)) := ev_chain opc_I opc_I ha hb hc (pe_chain op_le op_le ha.pe hb.pe hc.pe (show lastMarks _ _ = false from nomark x))
theorem eb_ltlt (ha : EV X c W a f) (hb : EV X c W b g) (hc : EV X c W x h) : EB X c W (.Compare a [.Lt, .Lt] [b, x] pos) (cChain f g h dLt dLt) := eb_chain op_lt op_lt opc_I opc_I ha hb hc (pt_chain op_lt op_lt ha.pe hb.pe hc.pe (show lastMarks _ _ = false from nomark x))
theorem eb_ltle (ha : EV X c W a f) (hb : EV X c W b g) (hc : EV X c W x h) : EB X c W (.Compare a [.Lt, .LtE] [b, x] pos) (cChain f g h dLt dLe) := eb_chain op_lt op_le opc_I opc_I ha hb hc (pt_chain op_lt op_le ha.pe hb.pe hc.pe (show lastMarks _ _ = false from nomark x))
theorem eb_lelt (ha : EV X c W a f) (hb : EV X c W b g) (hc : EV X c W x h) : EB X c W (.Compare a [.LtE, .Lt] [b, x] pos) (cChain f g h dLe dLt) := eb_chain op_le op_lt opc_I opc_I ha hb hc (pt_chain op_le op_lt ha.pe hb.pe hc.pe (show lastMarks _ _ = false from nomark x))
theorem eb_lele (ha : EV X c W a f) (hb : EV X c W b g) (hc : EV X c W x h) : EB X c W (.Compare a [.LtE, .LtE] [b, x] pos) (cChain f g h dLe dLe) := eb_chain op_le op_le opc_I opc_I ha hb hc (pt_chain op_le op_le ha.pe hb.pe hc.pe (show lastMarks _ _ = false from nomark x))
/-- y = a comprehension, y no list of its own -/
theorem setR_ok {f : DR} {i : Nat} (h : ER X c W e f) : MnS (sSetN i (vR f)) ∧ ∀ D σ H, tS c W (sSetN i (vR f)) D σ H → tAsg (tR c W f) (gName i) D σ H := by
  refine ⟨(setN_ok h.v).1, ?_⟩
  rintro D σ H ⟨H0, B0, B, ρ, r, q⟩
  refine ⟨B, _, r.pre, r.viewN, h.mn _ _ _ _ _ (fun rv hd v B1 H1 s ro => ?_) (fun x hx => hx.repN r) q⟩
  obtain ⟨B'', s', sb, is⟩ := ro.freeze r.pre s
  exact hd _ B'' H1 ((r.goN s').setV is) s'.b
end
/-! ### the contract of a def, its reading being its promise -/
def dfS (n : Nat) (b : DS) : DF := fun ds k E => b (startD n ds) ⟨fun _ => k (.val .non), k, fun _ => False, fun _ => False⟩ E
theorem dfS_mn {n : Nat} {b : DS} (h : MnS b) : MnF (dfS n b) := fun ds k k' E E' hk hE q => h _ ⟨fun _ => k (.val .non), k, fun _ => False, fun _ => False⟩ ⟨fun _ => k' (.val .non), k', fun _ => False, fun _ => False⟩ E E' ⟨fun _ => hk _, hk, fun _ z => z, fun _ z => z⟩ hE q
theorem df_gen {P : Program} {w : World} {K : PySem.W.Frag} {mg : Str → Option Value} {base : Heap} {c : Cn K} {x : Str} {st : Stmt} {N ps : List Str} {k : Nat} {b : DS} (hg : mg x = some (.ref (c.ca x))) (fu : ∃ fd, Fun K x x st (c.ca x) fd) (S : FnScope N ps (defScope st)) (hr : Room (k + 1) callerA)
    (hbody : ∀ (cdv : Value) (A : Around) (outer : List Env) (s : Shared) (H : Hp) (E : L2.XK), Fm (FX P w K mg base N x st (c.ca x) cdv A outer s H E) (FW E) k → SB (FX P w K mg base N x st (c.ca x) cdv A outer s H E) c (FW E) (defBody st) b) : Df P w K mg base c (k + 1) x st ps (dfS N.length b) := by
  obtain ⟨fd, fu⟩ := fu
  have mb : MnS b := (hbody .none callerA [] {} (fun _ => none) (fun _ _ _ => False) (fm_of S (hr.deeper _) rfl)).mn
  exact df_of hg fu S (dfS_mn mb) hbody fun ds k E _ q => q
def dmS (C : Str) (n : Nat) (oc : List (Str × D) → Prop) (h : DJ) : DF := fun ds k E => ∀ x, h x (startD n (.opq x :: ds)) (fun fs => oc fs ∧ k (.val (.obj C fs))) E
theorem dm_gen {P : Program} {w : World} {K : PySem.W.Frag} {mg : Str → Option Value} {base : Heap} {c : Cn K} {C q : Str} {st : Stmt} {N ps : List Str} {k : Nat} {h : DJ} {oc : List (Str × D) → Prop} (hg : mg C = some (.ref (c.ca C))) (fu : ∃ fI fd, Mk K (c.ca C) fI ∧ Fun K "__init__" q st fI fd) (S : FnScope N (("self" : Str) :: ps) (defScope st)) (hr : Room (k + 1) callerA)
    (hoc : ∀ fs, oc fs → OwnC K (c.ca C) (fs.map (·.1)))
    (hbody : ∀ (fI : Addr) (cdv : Value) (A : Around) (outer : List Env) (s : Shared) (H : Hp) (E : L2.XK), Fm (FX P w K mg base N q st fI cdv A outer s H E) (FW E) k → IB (FX P w K mg base N q st fI cdv A outer s H E) c (FW E) C (defBody st) h) : Dm P w K mg base c (k + 1) C q st ps (dmS C N.length oc h) := by
  obtain ⟨fI, fd, M, fu⟩ := fu
  have mb := (hbody fI .none callerA [] {} (fun _ => none) (fun _ _ _ => False) (fm_of S (hr.deeper _) rfl)).mn
  refine dm_of hg M fu S (fun ds k k' E E' hk hE z x => mb _ _ _ _ _ _ (fun f ⟨h1, h2⟩ => ⟨h1, hk _ h2⟩) hE (z x)) (hbody fI) fun ds k E x _ z => ?_
  exact mb _ _ _ _ _ _ (fun f ⟨h1, h2⟩ => ⟨hoc f h1, h2⟩) (fun _ z => z) (z x)
end Dv

set_option Elab.async false
set_option linter.all false
set_option maxRecDepth 100000
set_option maxHeartbeats 2000000
namespace Dv
open PySem PySem.Spec PyProof.Rows L2
def caAll (ca : Str → Addr) : List (Str × Addr) → Prop
  | [] => True
  | (x, a) :: r => a = ca x ∧ caAll ca r
theorem caAll_mono {ca cb : Str → Addr} : ∀ {l : List (Str × Addr)}, (∀ p ∈ l, ca p.1 = cb p.1) → caAll ca l → caAll cb l
  | [], _, _ => trivial
  | (x, a) :: r, h, ⟨h1, h2⟩ => ⟨h1.trans (h (x, a) List.mem_cons_self), caAll_mono (fun p hp => h p (List.mem_cons_of_mem _ hp)) h2⟩
theorem exists_ca : ∀ l : List (Str × Addr), (l.map (·.1)).Nodup → ∃ ca : Str → Addr, caAll ca l
  | [], _ => ⟨fun _ => 0, trivial⟩
  | (x, a) :: r, h => by
    rw [List.map_cons, List.nodup_cons] at h
    obtain ⟨ca, hc⟩ := exists_ca r h.2
    refine ⟨fun y => if y = x then a else ca y, by simp, caAll_mono (fun p hp => ?_) hc⟩
    have n : p.1 ≠ x := fun z => h.1 (by rw [← z]; exact List.mem_map.mpr ⟨p, hp, rfl⟩)
    show _ = if p.1 = x then a else ca p.1
    rw [if_neg n]
theorem kitC {K : PySem.W.Frag} {t : Value} {C : Addr} {b : Bool} (h0 : (t == Value.ref C) = false) (h1 : PySem.W.isClsIn K C = true) (h2 : PySem.W.typeIn K (.ref C) = some (.type "type")) (h3 : PySem.W.subIn K t (.ref C) = some b) : PySem.W.kitOne K t (.ref C) = some b := by
  unfold PySem.W.kitOne
  rw [h0, if_neg Bool.false_ne_true]
  unfold PySem.W.kitCls
  have h1' : (PySem.W.clsIn K C).isSome = true := h1
  show (if ((PySem.W.clsIn K C).isSome && PySem.W.typeIn K (.ref C) == some (.type "type")) = true then PySem.W.subIn K t (.ref C) else none) = _
  rw [h1', h2]
  exact h3
theorem kitCB {K : PySem.W.Frag} {C : Addr} {T : String} (hm : PySem.W.kitMeta T = true) (h : PySem.W.mroIn K C (.type T) = some false) : PySem.W.kitOne K (.ref C) (.type T) = some false := by
  unfold PySem.W.kitOne
  have h0 : (Value.ref C == Value.type T) = false := rfl
  rw [h0, if_neg Bool.false_ne_true]
  show (if PySem.W.kitMeta T = true then PySem.W.subIn K (.ref C) (.type T) else none) = _
  rw [if_pos hm]
  exact h
theorem kitCS {K : PySem.W.Frag} {C : Addr} : PySem.W.kitOne K (.ref C) (.ref C) = some true := by
  unfold PySem.W.kitOne
  rw [if_pos (beq_self_eq_true _)]
theorem kitCC {K : PySem.W.Frag} {C C' : Addr} (h1 : PySem.W.isClsIn K C = true) (h2 : PySem.W.typeIn K (.ref C) = some (.type "type")) (hs : PySem.W.mroIn K C (.ref C) = some true) (h : PySem.W.mroIn K C' (.ref C) = some false) : PySem.W.kitOne K (.ref C') (.ref C) = some false := by
  refine kitC ?_ h1 h2 h
  cases q : (Value.ref C' == Value.ref C) with
  | false => rfl
  | true =>
    have e := beq_iff_eq.mp q
    cases e
    rw [hs] at h
    cases h
end Dv

set_option Elab.async false
set_option linter.all false
set_option maxRecDepth 100000
set_option maxHeartbeats 2000000
namespace Dv
open PySem PySem.Spec PyProof.Rows L2
/-! ### readings of loops, by invariants -/
inductive A2 (Pd : D → D → Prop) : List D → List D → Prop
  | nil : A2 Pd [] []
  | cons {d y : D} {ds ys : List D} : Pd d y → A2 Pd ds ys → A2 Pd (d :: ds) (y :: ys)
theorem compD_all {g : DG} {fe : DV} {ρ : View} {Pd : D → D → Prop} {k : List D → Prop} : ∀ (ds acc : List D), (∀ d ∈ ds, ∀ κ : D → Prop, (∀ y, Pd d y → κ y) → g d (toSl ρ) fun ρ' => fe (viewN ρ') κ fun _ => False) → acc.length + ds.length ≤ sizeLine → (∀ ys, A2 Pd ds ys → k (acc ++ ys)) → compD g bYes fe ρ ds acc k
  | [], acc, _, _, hk => by have := hk [] .nil; rw [List.append_nil] at this; exact this
  | d :: ds, acc, h, hl, hk => by
    have hm : ∀ (ρ' : Sl) (κ κ' : D → Prop), True := fun _ _ _ => trivial
    show g d (toSl ρ) fun ρ' => bYes (viewN ρ') (fun b => (b = true → fe (viewN ρ') (fun y => acc.length < sizeLine ∧ compD g bYes fe ρ ds (acc ++ [y]) k) fun _ => False) ∧ (b = false → compD g bYes fe ρ ds acc k)) fun _ => False
    have z := h d List.mem_cons_self (fun y => acc.length < sizeLine ∧ compD g bYes fe ρ ds (acc ++ [y]) k) (fun y py => by
      rw [List.length_cons] at hl
      refine ⟨by omega, compD_all ds (acc ++ [y]) (fun d' h' => h d' (List.mem_cons_of_mem _ h')) (by rw [List.length_append, List.length_singleton]; omega) fun ys a => ?_⟩
      rw [List.append_assoc]
      exact hk (y :: ys) (.cons py a))
    have e : (fun ρ' : Sl => bYes (viewN ρ') (fun b => (b = true → fe (viewN ρ') (fun y => acc.length < sizeLine ∧ compD g bYes fe ρ ds (acc ++ [y]) k) fun _ => False) ∧ (b = false → compD g bYes fe ρ ds acc k)) fun _ => False) = (fun ρ' => fe (viewN ρ') (fun y => acc.length < sizeLine ∧ compD g bYes fe ρ ds (acc ++ [y]) k) fun _ => False) := by
      funext ρ'
      simp [bYes]
    rw [e]
    exact z
theorem A2.map {f : D → D} : ∀ {ds ys : List D}, A2 (fun d y => y = f d) ds ys → ys = ds.map f
  | _, _, .nil => rfl
  | _, _, .cons h t => by rw [h, A2.map t]; rfl
theorem A2.length {Pd : D → D → Prop} : ∀ {ds ys : List D}, A2 Pd ds ys → ys.length = ds.length
  | _, _, .nil => rfl
  | _, _, .cons h t => congrArg (· + 1) (A2.length t)
theorem compD_map {g : DG} {fe : DV} {ρ : View} {k : List D → Prop} (f : D → D) (ds acc : List D) (h : ∀ d ∈ ds, ∀ κ : D → Prop, κ (f d) → g d (toSl ρ) fun ρ' => fe (viewN ρ') κ fun _ => False) (hl : acc.length + ds.length ≤ sizeLine) (hk : k (acc ++ ds.map f)) : compD g bYes fe ρ ds acc k :=
  compD_all (Pd := fun d y => y = f d) ds acc (fun d hd κ hκ => h d hd κ (hκ _ rfl)) hl fun ys a => by rw [a.map]; exact hk
/-- with a test -/
theorem compD_flt {g : DG} {ft : DB} {fe : DV} {ρ : View} {k : List D → Prop} (t : D → Bool) (f : D → D) : ∀ (ds acc : List D), (∀ d ∈ ds, ∀ κ κ' : Prop, ∀ κ1 : D → Prop, (t d = true → κ1 (f d)) → (t d = false → κ') → g d (toSl ρ) fun ρ' => ft (viewN ρ') (fun b => (b = true → fe (viewN ρ') κ1 fun _ => False) ∧ (b = false → κ')) fun _ => False) → acc.length + ds.length ≤ sizeLine → k (acc ++ (ds.filter t).map f) → compD g ft fe ρ ds acc k
  | [], acc, _, _, hk => by simpa [compD] using hk
  | d :: ds, acc, h, hl, hk => by
    show g d (toSl ρ) fun ρ' => ft (viewN ρ') (fun b => (b = true → fe (viewN ρ') (fun y => acc.length < sizeLine ∧ compD g ft fe ρ ds (acc ++ [y]) k) fun _ => False) ∧ (b = false → compD g ft fe ρ ds acc k)) fun _ => False
    rw [List.length_cons] at hl
    refine h d List.mem_cons_self True _ _ (fun ht => ⟨by omega, compD_flt t f ds (acc ++ [f d]) (fun d' h' => h d' (List.mem_cons_of_mem _ h')) (by rw [List.length_append, List.length_singleton]; omega) ?_⟩) fun ht => compD_flt t f ds acc (fun d' h' => h d' (List.mem_cons_of_mem _ h')) (by omega) ?_
    · rw [List.filter_cons_of_pos ht] at hk
      simpa using hk
    · rw [List.filter_cons_of_neg (by rw [ht]; exact Bool.false_ne_true)] at hk
      exact hk
theorem forD_inv {g : DG} {f : DS} {k : Ks} {E : Exn → Prop} (I : List D → Sl → Prop) (h : ∀ d r ρ, I (d :: r) ρ → ∀ κ : Sl → Prop, (∀ ρ2, I r ρ2 → κ ρ2) → g d ρ fun ρ' => f ρ' ⟨κ, k.rt, k.nx, κ⟩ E) (h0 : ∀ ρ, I [] ρ → k.nx ρ) : ∀ ds ρ, I ds ρ → forD g f ds ρ k E
  | [], ρ, i => h0 ρ i
  | d :: ds, ρ, i => h d ds ρ i _ fun ρ2 i2 => forD_inv I h h0 ds ρ2 i2
theorem while_inv {t : DB} {f : DS} {k : Ks} {E : Exn → Prop} (I : Nat → Sl → Prop) (h : ∀ n ρ, I n ρ → ∀ κ : Sl → Prop, (∀ m ρ2, m < n → I m ρ2 → κ ρ2) → t (viewB ρ) (fun b => (b = true → f ρ ⟨κ, k.rt, k.nx, κ⟩ E) ∧ (b = false → k.nx ρ)) E) (n : Nat) (ρ : Sl) (i : I n ρ) : sWhile t f ρ k E := by
  have key : ∀ N m ρ, m < N → I m ρ → whN t f N ρ k E := by
    intro N
    induction N with
    | zero => intro m ρ h; omega
    | succ N ih =>
      intro m ρ hm i
      exact h m ρ i _ fun m2 ρ2 h2 i2 => ih m2 ρ2 (by omega) i2
  exact ⟨n + 1, key (n + 1) n ρ (Nat.lt_succ_self n) i⟩
/-! ### readings in short, for simp -/
theorem gCons_c {g : DG} {h : DGs} {d : D} {r : List D} {ρ : Sl} {k : Sl → Prop} : gCons g h (d :: r) ρ k = g d ρ (fun ρ' => h r ρ' k) :=
  propext ⟨fun ⟨_, _, e, q⟩ => by cases e; exact q, fun q => ⟨_, _, rfl, q⟩⟩
theorem gCons_n {g : DG} {h : DGs} {ρ : Sl} {k : Sl → Prop} : gCons g h [] ρ k = False := propext ⟨fun ⟨_, _, e, q⟩ => (nomatch e), False.elim⟩
theorem gNil_n {ρ : Sl} {k : Sl → Prop} : gNil [] ρ k = k ρ := propext ⟨fun q => q.2, fun q => ⟨rfl, q⟩⟩
theorem gNil_c {d : D} {r : List D} {ρ : Sl} {k : Sl → Prop} : gNil (d :: r) ρ k = False := propext ⟨fun q => (nomatch q.1), False.elim⟩
theorem gTup_t {n : Nat} {h : DGs} {ds : List D} {ρ : Sl} {k : Sl → Prop} : gTup n h (.tup ds) ρ k = (ds.length = n ∧ h ds ρ k) := propext ⟨fun ⟨_, e, q⟩ => by cases e; exact q, fun q => ⟨_, rfl, q⟩⟩
theorem zip2_e {d e : D} {k : List D → Prop} : zip2 [d, e] k = ∃ ds, d.items = some ds ∧ ∃ es, e.items = some es ∧ k (zipD ds es) :=
  propext ⟨fun ⟨_, _, ds, es, q, h1, h2, h3⟩ => by cases q; exact ⟨ds, h1, es, h2, h3⟩, fun ⟨ds, h1, es, h2, h3⟩ => ⟨d, e, ds, es, rfl, h1, h2, h3⟩⟩
theorem enu1_e {d : D} {k : List D → Prop} : enu1 [d] k = ∃ ds, d.items = some ds ∧ k (enuD ds) :=
  propext ⟨fun ⟨_, ds, q, h1, h3⟩ => by cases q; exact ⟨ds, h1, h3⟩, fun ⟨ds, h1, h3⟩ => ⟨d, ds, rfl, h1, h3⟩⟩
theorem compD_ml {α : Type} (h f : α → D) {g : DG} {fe : DV} {ρ : View} {k : List D → Prop} (xs : List α) (acc : List D) (hs : ∀ x ∈ xs, ∀ κ : D → Prop, κ (f x) → g (h x) (toSl ρ) fun ρ' => fe (viewN ρ') κ fun _ => False) (hl : acc.length + xs.length ≤ sizeLine) (hk : k (acc ++ xs.map f)) : compD g bYes fe ρ (xs.map h) acc k := by
  induction xs generalizing acc with
  | nil => simpa [compD] using hk
  | cons x xs ih =>
    rw [List.map_cons]
    rw [List.length_cons] at hl
    have z := hs x List.mem_cons_self (fun y => acc.length < sizeLine ∧ compD g bYes fe ρ (xs.map h) (acc ++ [y]) k) ⟨by omega, ih (acc ++ [f x]) (fun y hy => hs y (List.mem_cons_of_mem _ hy)) (by rw [List.length_append, List.length_singleton]; omega) (by rw [List.append_assoc]; exact hk)⟩
    show g (h x) (toSl ρ) fun ρ' => bYes (viewN ρ') (fun b => (b = true → fe (viewN ρ') (fun y => acc.length < sizeLine ∧ compD g bYes fe ρ (xs.map h) (acc ++ [y]) k) fun _ => False) ∧ (b = false → compD g bYes fe ρ (xs.map h) acc k)) fun _ => False
    have e : (fun ρ' : Sl => bYes (viewN ρ') (fun b => (b = true → fe (viewN ρ') (fun y => acc.length < sizeLine ∧ compD g bYes fe ρ (xs.map h) (acc ++ [y]) k) fun _ => False) ∧ (b = false → compD g bYes fe ρ (xs.map h) acc k)) fun _ => False) = (fun ρ' => fe (viewN ρ') (fun y => acc.length < sizeLine ∧ compD g bYes fe ρ (xs.map h) (acc ++ [y]) k) fun _ => False) := by
      funext ρ'
      simp [bYes]
    rw [e]
    exact z
/-- many answers: each item's answer is one of R -/
inductive A3 {α β : Type} (R : α → β → Prop) : List α → List β → Prop
  | nil : A3 R [] []
  | cons {x : α} {y : β} {xs : List α} {ys : List β} : R x y → A3 R xs ys → A3 R (x :: xs) (y :: ys)
theorem A3.length {α β : Type} {R : α → β → Prop} : ∀ {xs : List α} {ys : List β}, A3 R xs ys → ys.length = xs.length
  | _, _, .nil => rfl
  | _, _, .cons _ t => congrArg (· + 1) (A3.length t)
theorem A3.all {α β : Type} {R : α → β → Prop} {S : β → Prop} (h : ∀ x y, R x y → S y) : ∀ {xs : List α} {ys : List β}, A3 R xs ys → ∀ y ∈ ys, S y
  | _, _, .nil => fun _ hy => absurd hy (by simp)
  | _, _, .cons r t => fun y hy => by
    rcases List.mem_cons.mp hy with e | e
    · exact e ▸ h _ _ r
    · exact A3.all h t y e
theorem compD_mr {α β : Type} (h : α → D) (f : β → D) (R : α → β → Prop) {g : DG} {fe : DV} {ρ : View} {k : List D → Prop} (xs : List α) (acc : List D) (hs : ∀ x ∈ xs, ∀ κ : D → Prop, (∀ y, R x y → κ (f y)) → g (h x) (toSl ρ) fun ρ' => fe (viewN ρ') κ fun _ => False) (hl : acc.length + xs.length ≤ sizeLine) (hk : ∀ ys, A3 R xs ys → k (acc ++ ys.map f)) : compD g bYes fe ρ (xs.map h) acc k := by
  induction xs generalizing acc with
  | nil => simpa [compD] using hk [] .nil
  | cons x xs ih =>
    rw [List.map_cons]
    rw [List.length_cons] at hl
    have z := hs x List.mem_cons_self (fun y => acc.length < sizeLine ∧ compD g bYes fe ρ (xs.map h) (acc ++ [y]) k) fun y hy => ⟨by omega, ih (acc ++ [f y]) (fun y hy => hs y (List.mem_cons_of_mem _ hy)) (by rw [List.length_append, List.length_singleton]; omega) (fun ys a => by rw [List.append_assoc]; exact hk (y :: ys) (.cons hy a))⟩
    show g (h x) (toSl ρ) fun ρ' => bYes (viewN ρ') (fun b => (b = true → fe (viewN ρ') (fun y => acc.length < sizeLine ∧ compD g bYes fe ρ (xs.map h) (acc ++ [y]) k) fun _ => False) ∧ (b = false → compD g bYes fe ρ (xs.map h) acc k)) fun _ => False
    have e : (fun ρ' : Sl => bYes (viewN ρ') (fun b => (b = true → fe (viewN ρ') (fun y => acc.length < sizeLine ∧ compD g bYes fe ρ (xs.map h) (acc ++ [y]) k) fun _ => False) ∧ (b = false → compD g bYes fe ρ (xs.map h) acc k)) fun _ => False) = (fun ρ' => fe (viewN ρ') (fun y => acc.length < sizeLine ∧ compD g bYes fe ρ (xs.map h) (acc ++ [y]) k) fun _ => False) := by
      funext ρ'
      simp [bYes]
    rw [e]
    exact z
theorem forD_ml {α : Type} (h : α → D) {g : DG} {f : DS} {k : Ks} {E : Exn → Prop} (I : List α → Sl → Prop) (hs : ∀ x r ρ, I (x :: r) ρ → ∀ κ : Sl → Prop, (∀ ρ2, I r ρ2 → κ ρ2) → g (h x) ρ fun ρ' => f ρ' ⟨κ, k.rt, k.nx, κ⟩ E) (h0 : ∀ ρ, I [] ρ → k.nx ρ) : ∀ xs ρ, I xs ρ → forD g f (xs.map h) ρ k E
  | [], ρ, i => h0 ρ i
  | x :: xs, ρ, i => hs x xs ρ i _ fun ρ2 i2 => forD_ml h I hs h0 xs ρ2 i2
theorem ints_map {α : Type} (f : α → Int) : ∀ xs : List α, D.ints (xs.map fun x => .int (f x)) = some (xs.map f)
  | [] => rfl
  | x :: xs => by simp only [List.map_cons, D.ints, ints_map f xs, Option.map_some]
theorem bls_map {α : Type} (f : α → Bool) : ∀ xs : List α, D.bls (xs.map fun x => .bl (f x)) = some (xs.map f)
  | [] => rfl
  | x :: xs => by simp only [List.map_cons, D.bls, bls_map f xs, Option.map_some]
theorem zipD_map {α β : Type} (f : α → D) (g : β → D) : ∀ (xs : List α) (ys : List β), zipD (xs.map f) (ys.map g) = (xs.zip ys).map fun p => .tup [f p.1, g p.2]
  | [], _ => by simp [zipD]
  | _ :: _, [] => by simp [zipD]
  | x :: xs, y :: ys => by
    have := zipD_map f g xs ys
    unfold zipD at this ⊢
    simp [this]
theorem rngD_map (n : Nat) : rngD 0 n = (List.range n).map fun i => .int (i : Nat) := by
  unfold rngD
  simp
end Dv
namespace Dv
theorem sCons_seq {f g : DS} {ρ : Sl} {k : Ks} {E : Exn → Prop} (Mid : Sl → Prop) (h1 : ∀ κ : Sl → Prop, (∀ ρ', Mid ρ' → κ ρ') → f ρ ⟨κ, k.rt, k.bk, k.ct⟩ E) (h2 : ∀ ρ', Mid ρ' → g ρ' k E) : sCons f g ρ k E := h1 _ h2
end Dv


set_option Elab.async false
set_option linter.all false
set_option maxRecDepth 100000
set_option maxHeartbeats 4000000
namespace K58
open PySem PySem.Spec PyProof.Rows L2 Dv
def top (i : Nat) : Stmt := PySem.Challenge.pw_ringstream_k58_whole_normal_vectors.main.body.getD i (.Pass ⟨0, 0, 0, 0⟩)
def Cs : List Str := ["Stream"]
abbrev st__law_begun : Stmt := top 45
abbrev st__law_mixed : Stmt := top 46
abbrev st__law_take : Stmt := top 47
abbrev st__law_common : Stmt := top 50
abbrev st__law_pair : Stmt := top 54
abbrev st__law_parts : Stmt := top 51
abbrev st__law_e : Stmt := top 52
abbrev st__law_pick : Stmt := top 48
abbrev st__law_lower : Stmt := top 55
abbrev st__law_span : Stmt := top 53
abbrev st__law_narrow : Stmt := top 56
abbrev st_is_list : Stmt := top 11
abbrev st_is_tuple : Stmt := top 12
abbrev st_is_number : Stmt := top 9
abbrev st_is_number_pair : Stmt := top 22
abbrev st_are_pairs : Stmt := top 23
abbrev st_is_between : Stmt := top 10
abbrev st_Stream : Stmt := inClass (top 24) 0
abbrev st__law_vector : Stmt := top 61
abbrev st__law_count : Stmt := top 57
abbrev st__law_first_above : Stmt := top 59
abbrev st__law_reduced : Stmt := top 58
abbrev st__law_normal : Stmt := top 60
abbrev st__law_says : Stmt := top 49
abbrev st_need_stream : Stmt := top 25
abbrev st_least_ratio : Stmt := top 16
abbrev st_ratio_plus : Stmt := top 17
abbrev st_e_of : Stmt := top 26
abbrev st_need_below : Stmt := top 31
abbrev st_is_vector : Stmt := top 32
abbrev st_need_vector : Stmt := top 33
abbrev st_need_few : Stmt := top 14
abbrev st_span_of : Stmt := top 36
abbrev st_need_span : Stmt := top 37
abbrev st_reduced : Stmt := top 39
abbrev st_count_in : Stmt := top 34
abbrev st_later : Stmt := top 40
abbrev st_normal_in : Stmt := top 41
abbrev st_normal : Stmt := top 42
abbrev st__law_moved_vector : Stmt := top 63
abbrev st_of_one_class : Stmt := top 38
abbrev st__law_odd : Stmt := top 62
abbrev st_is_normal : Stmt := top 43
abbrev st__law_is_own_normal : Stmt := top 64
abbrev st_need_between : Stmt := top 13
abbrev st_count_at : Stmt := top 35
abbrev st_law : Stmt := top 65
structure Txt (K : PySem.W.Frag) (mg : Str → Option Value) (ca : Str → Addr) : Prop where
  g__law_begun : mg "_law_begun" = some (.ref (ca "_law_begun"))
  f__law_begun : ∃ fd, Fun K "_law_begun" "_law_begun" st__law_begun (ca "_law_begun") fd
  g__law_mixed : mg "_law_mixed" = some (.ref (ca "_law_mixed"))
  f__law_mixed : ∃ fd, Fun K "_law_mixed" "_law_mixed" st__law_mixed (ca "_law_mixed") fd
  g__law_take : mg "_law_take" = some (.ref (ca "_law_take"))
  f__law_take : ∃ fd, Fun K "_law_take" "_law_take" st__law_take (ca "_law_take") fd
  g__law_common : mg "_law_common" = some (.ref (ca "_law_common"))
  f__law_common : ∃ fd, Fun K "_law_common" "_law_common" st__law_common (ca "_law_common") fd
  g__law_pair : mg "_law_pair" = some (.ref (ca "_law_pair"))
  f__law_pair : ∃ fd, Fun K "_law_pair" "_law_pair" st__law_pair (ca "_law_pair") fd
  g__law_parts : mg "_law_parts" = some (.ref (ca "_law_parts"))
  f__law_parts : ∃ fd, Fun K "_law_parts" "_law_parts" st__law_parts (ca "_law_parts") fd
  g__law_e : mg "_law_e" = some (.ref (ca "_law_e"))
  f__law_e : ∃ fd, Fun K "_law_e" "_law_e" st__law_e (ca "_law_e") fd
  g__law_pick : mg "_law_pick" = some (.ref (ca "_law_pick"))
  f__law_pick : ∃ fd, Fun K "_law_pick" "_law_pick" st__law_pick (ca "_law_pick") fd
  g__law_lower : mg "_law_lower" = some (.ref (ca "_law_lower"))
  f__law_lower : ∃ fd, Fun K "_law_lower" "_law_lower" st__law_lower (ca "_law_lower") fd
  g__law_span : mg "_law_span" = some (.ref (ca "_law_span"))
  f__law_span : ∃ fd, Fun K "_law_span" "_law_span" st__law_span (ca "_law_span") fd
  g__law_narrow : mg "_law_narrow" = some (.ref (ca "_law_narrow"))
  f__law_narrow : ∃ fd, Fun K "_law_narrow" "_law_narrow" st__law_narrow (ca "_law_narrow") fd
  g_is_list : mg "is_list" = some (.ref (ca "is_list"))
  f_is_list : ∃ fd, Fun K "is_list" "is_list" st_is_list (ca "is_list") fd
  g_is_tuple : mg "is_tuple" = some (.ref (ca "is_tuple"))
  f_is_tuple : ∃ fd, Fun K "is_tuple" "is_tuple" st_is_tuple (ca "is_tuple") fd
  g_is_number : mg "is_number" = some (.ref (ca "is_number"))
  f_is_number : ∃ fd, Fun K "is_number" "is_number" st_is_number (ca "is_number") fd
  g_is_number_pair : mg "is_number_pair" = some (.ref (ca "is_number_pair"))
  f_is_number_pair : ∃ fd, Fun K "is_number_pair" "is_number_pair" st_is_number_pair (ca "is_number_pair") fd
  g_are_pairs : mg "are_pairs" = some (.ref (ca "are_pairs"))
  f_are_pairs : ∃ fd, Fun K "are_pairs" "are_pairs" st_are_pairs (ca "are_pairs") fd
  g_is_between : mg "is_between" = some (.ref (ca "is_between"))
  f_is_between : ∃ fd, Fun K "is_between" "is_between" st_is_between (ca "is_between") fd
  g__law_vector : mg "_law_vector" = some (.ref (ca "_law_vector"))
  f__law_vector : ∃ fd, Fun K "_law_vector" "_law_vector" st__law_vector (ca "_law_vector") fd
  g__law_count : mg "_law_count" = some (.ref (ca "_law_count"))
  f__law_count : ∃ fd, Fun K "_law_count" "_law_count" st__law_count (ca "_law_count") fd
  g__law_first_above : mg "_law_first_above" = some (.ref (ca "_law_first_above"))
  f__law_first_above : ∃ fd, Fun K "_law_first_above" "_law_first_above" st__law_first_above (ca "_law_first_above") fd
  g__law_reduced : mg "_law_reduced" = some (.ref (ca "_law_reduced"))
  f__law_reduced : ∃ fd, Fun K "_law_reduced" "_law_reduced" st__law_reduced (ca "_law_reduced") fd
  g__law_normal : mg "_law_normal" = some (.ref (ca "_law_normal"))
  f__law_normal : ∃ fd, Fun K "_law_normal" "_law_normal" st__law_normal (ca "_law_normal") fd
  g__law_says : mg "_law_says" = some (.ref (ca "_law_says"))
  f__law_says : ∃ fd, Fun K "_law_says" "_law_says" st__law_says (ca "_law_says") fd
  g_need_stream : mg "need_stream" = some (.ref (ca "need_stream"))
  f_need_stream : ∃ fd, Fun K "need_stream" "need_stream" st_need_stream (ca "need_stream") fd
  g_least_ratio : mg "least_ratio" = some (.ref (ca "least_ratio"))
  f_least_ratio : ∃ fd, Fun K "least_ratio" "least_ratio" st_least_ratio (ca "least_ratio") fd
  g_ratio_plus : mg "ratio_plus" = some (.ref (ca "ratio_plus"))
  f_ratio_plus : ∃ fd, Fun K "ratio_plus" "ratio_plus" st_ratio_plus (ca "ratio_plus") fd
  g_e_of : mg "e_of" = some (.ref (ca "e_of"))
  f_e_of : ∃ fd, Fun K "e_of" "e_of" st_e_of (ca "e_of") fd
  g_need_below : mg "need_below" = some (.ref (ca "need_below"))
  f_need_below : ∃ fd, Fun K "need_below" "need_below" st_need_below (ca "need_below") fd
  g_is_vector : mg "is_vector" = some (.ref (ca "is_vector"))
  f_is_vector : ∃ fd, Fun K "is_vector" "is_vector" st_is_vector (ca "is_vector") fd
  g_need_vector : mg "need_vector" = some (.ref (ca "need_vector"))
  f_need_vector : ∃ fd, Fun K "need_vector" "need_vector" st_need_vector (ca "need_vector") fd
  g_need_few : mg "need_few" = some (.ref (ca "need_few"))
  f_need_few : ∃ fd, Fun K "need_few" "need_few" st_need_few (ca "need_few") fd
  g_span_of : mg "span_of" = some (.ref (ca "span_of"))
  f_span_of : ∃ fd, Fun K "span_of" "span_of" st_span_of (ca "span_of") fd
  g_need_span : mg "need_span" = some (.ref (ca "need_span"))
  f_need_span : ∃ fd, Fun K "need_span" "need_span" st_need_span (ca "need_span") fd
  g_reduced : mg "reduced" = some (.ref (ca "reduced"))
  f_reduced : ∃ fd, Fun K "reduced" "reduced" st_reduced (ca "reduced") fd
  g_count_in : mg "count_in" = some (.ref (ca "count_in"))
  f_count_in : ∃ fd, Fun K "count_in" "count_in" st_count_in (ca "count_in") fd
  g_later : mg "later" = some (.ref (ca "later"))
  f_later : ∃ fd, Fun K "later" "later" st_later (ca "later") fd
  g_normal_in : mg "normal_in" = some (.ref (ca "normal_in"))
  f_normal_in : ∃ fd, Fun K "normal_in" "normal_in" st_normal_in (ca "normal_in") fd
  g_normal : mg "normal" = some (.ref (ca "normal"))
  f_normal : ∃ fd, Fun K "normal" "normal" st_normal (ca "normal") fd
  g__law_moved_vector : mg "_law_moved_vector" = some (.ref (ca "_law_moved_vector"))
  f__law_moved_vector : ∃ fd, Fun K "_law_moved_vector" "_law_moved_vector" st__law_moved_vector (ca "_law_moved_vector") fd
  g_of_one_class : mg "of_one_class" = some (.ref (ca "of_one_class"))
  f_of_one_class : ∃ fd, Fun K "of_one_class" "of_one_class" st_of_one_class (ca "of_one_class") fd
  g__law_odd : mg "_law_odd" = some (.ref (ca "_law_odd"))
  f__law_odd : ∃ fd, Fun K "_law_odd" "_law_odd" st__law_odd (ca "_law_odd") fd
  g_is_normal : mg "is_normal" = some (.ref (ca "is_normal"))
  f_is_normal : ∃ fd, Fun K "is_normal" "is_normal" st_is_normal (ca "is_normal") fd
  g__law_is_own_normal : mg "_law_is_own_normal" = some (.ref (ca "_law_is_own_normal"))
  f__law_is_own_normal : ∃ fd, Fun K "_law_is_own_normal" "_law_is_own_normal" st__law_is_own_normal (ca "_law_is_own_normal") fd
  g_need_between : mg "need_between" = some (.ref (ca "need_between"))
  f_need_between : ∃ fd, Fun K "need_between" "need_between" st_need_between (ca "need_between") fd
  g_count_at : mg "count_at" = some (.ref (ca "count_at"))
  f_count_at : ∃ fd, Fun K "count_at" "count_at" st_count_at (ca "count_at") fd
  f_law : ∃ fd, Fun K "law" "law" st_law (ca "law") fd
  g_Stream : mg "Stream" = some (.ref (ca "Stream"))
  f_Stream : ∃ fI fd, Mk K (ca "Stream") fI ∧ Fun K "__init__" "Stream.__init__" st_Stream fI fd
  cl_Stream : Cls K (ca "Stream")
  ha_Stream : PySem.W.findIn K (.ref (ca "Stream")) "__class__" = some (some (.builtin "object.__class__"))
  hm_Stream : PySem.W.mroIn K (ca "Stream") (.type "object") = some true
  na_Stream_whole : NoAttr K (ca "Stream") "whole"
  na_Stream_pairs : NoAttr K (ca "Stream") "pairs"
  hn : PySem.W.specialIn K (.builtin "object.__class__") "__get__" = some (some (.builtin "getset_descriptor.__get__"))
  htk : PySem.W.takesIn K (.builtin "object.__class__") = some true
  kt : KtF K ca Cs
  b_abs : mg "abs" = none
  b_all : mg "all" = none
  b_bool : mg "bool" = none
  b_enumerate : mg "enumerate" = none
  b_int : mg "int" = none
  b_isinstance : mg "isinstance" = none
  b_len : mg "len" = none
  b_list : mg "list" = none
  b_min : mg "min" = none
  b_range : mg "range" = none
  b_repr : mg "repr" = none
  b_sum : mg "sum" = none
  b_tuple : mg "tuple" = none
  b_zip : mg "zip" = none
  m_gcd : mg "gcd" = some (.builtin "math.gcd")
  i_MOST_ITEM : ∃ t, mg "MOST_ITEM" = some (.int 1000000000 t)
  i_MOST_PAIRS : ∃ t, mg "MOST_PAIRS" = some (.int 6 t)
  i_MOST_PART : ∃ t, mg "MOST_PART" = some (.int 60 t)
  i_MOST_PLACE : ∃ t, mg "MOST_PLACE" = some (.int 1000000000000000000000000000000 t)
  i_MOST_SPAN : ∃ t, mg "MOST_SPAN" = some (.int 20000 t)
  i_MOST_WHOLE : ∃ t, mg "MOST_WHOLE" = some (.int 20 t)
def b1_law_begun : DS := (sOwnN 1 (rComp (iOf (dVar 0)) (gN 3) (cBin (vR (rCall (aCons (dVar 3) aNil) (on1 (i1 iAbs)))) (vR (rBin (dC (.int 10)) (dC (.int 18)) dPw)) dGe) (vR (rBin (vR (rCall (aCons (dVar 3) aNil) (on1 (i1 iAbs)))) (vR (rBin (dC (.int 10)) (dC (.int 18)) dPw)) dSub)) [2, 3]))
def b2_law_begun : DR := (rComp (iOf (dVar 0)) (gN 3) bYes (vR (rCall (aCons (dVar 3) aNil) (on1 (i1 iAbs)))) [2, 3])
def F__law_mixed : DF := dfS 6
  (sCons (sDrPut 0 (vR (rBin (vDr 0) (dC (.int 1)) dAdd)))
  (sCons (sParN 1 2 false false (rCall (aCons (vDr 0) aNil) (on1 dInt)) (rV (dC (.int 0))))
  (sCons (sFor (iOf (vR (dLst (aCons (dC (.int 2147483647)) (aCons (dC (.int 2147483629)) (aCons (dC (.int 2147483587)) aNil)))))) (gN 3) (sCons (sSetN 4 (vR (rBin (vR (rBin (vR (rBin (dVar 1) (dC (.int 48271)) dMul)) (vR (rBin (dVar 3) (dC (.int 11)) dFd)) dAdd)) (dVar 3) dMd)))
  (sCons (sFor (iDr 0) (gN 5) (sCons (sSetN 4 (vR (rBin (vR (rBin (vR (rBin (vR (rBin (dVar 4) (dC (.int 69621)) dMul)) (vR (rCall (aCons (dVar 5) aNil) (on1 dInt))) dAdd)) (dVar 1) dAdd)) (dVar 3) dMd)))
  sNil))
  (sCons (sSetN 2 (vR (rBin (vR (rBin (dVar 2) (dC (.int 2147483659)) dMul)) (vR (rBin (vR (rBin (dVar 4) (dC (.int 5)) dPw)) (dVar 3) dMd)) dAdd)))
  sNil))))
  (sCons (sRetB (rV (dVar 2)))
  sNil))))
def F__law_take : DF := dfS 3
  (sCons (sIf (cBin (vDr 0) (dC (.int 0)) dEq) (sCons (sDrPut 0 (vR (rDrNext 0 (dCall (aCons (dVar 0) aNil) F__law_mixed))))
  sNil) sNil)
  (sCons (sSetN 2 (vR (rBin (vR (rCall (aCons (vDr 0) aNil) (on1 dInt))) (dVar 1) dMd)))
  (sCons (sDrPut 0 (vR (rBin (vR (rCall (aCons (vDr 0) aNil) (on1 dInt))) (dVar 1) dFd)))
  (sCons (sRetB (rV (dVar 2)))
  sNil))))
def F__law_common : DF := dfS 2
  (sCons (sParN 0 1 false false (rCall (aCons (dVar 0) aNil) (on1 (i1 iAbs))) (rCall (aCons (dVar 1) aNil) (on1 (i1 iAbs))))
  (sCons (sWhile (cBin (dVar 1) (dC (.int 0)) dNe) (sCons (sParN 0 1 false false (rV (dVar 1)) (rBin (vR (rCall (aCons (dVar 0) aNil) (on1 dInt))) (dVar 1) dMd))
  sNil))
  (sCons (sRetB (rV (dVar 0)))
  sNil)))
def F__law_pair : DF := dfS 4
  (sCons (sSetN 2 (vR (rBin (dC (.int 2)) (vR (dCall (aCons (dVar 0) (aCons (vR (rBin (dVar 1) (dC (.int 1)) dSub)) aNil)) F__law_take)) dAdd)))
  (sCons (sSetN 3 (vR (rBin (dC (.int 1)) (vR (dCall (aCons (dVar 0) (aCons (vR (rBin (dVar 2) (dC (.int 1)) dSub)) aNil)) F__law_take)) dAdd)))
  (sCons (sWhile (cBin (vR (dCall (aCons (dVar 3) (aCons (dVar 2) aNil)) F__law_common)) (dC (.int 1)) dGt) (sCons (sSetN 3 (vR (rIf (cBin (dVar 3) (vR (rBin (dVar 2) (dC (.int 1)) dSub)) dLt) (rBin (dVar 3) (dC (.int 1)) dAdd) (rV (dC (.int 1))))))
  sNil))
  (sCons (sRetB (rV (dTup (aCons (dVar 3) (aCons (dVar 2) aNil)))))
  sNil))))
def F__law_parts : DF := dfS 4
  (sCons (sSetN 1 (dC (.int 1)))
  (sCons (sFor (iOf (dVar 0)) (gTup 2 (gCons (gN 2) (gCons (gN 3) gNil))) (sCons (sSetN 1 (vR (rBin (dVar 1) (dVar 3) dMul)))
  sNil))
  (sCons (sRetB (rV (dVar 1)))
  sNil)))
def F__law_e : DF := dfS 6
  (sCons (sSetN 2 (vR (dCall (aCons (dVar 1) aNil) F__law_parts)))
  (sCons (sRetB (rV (dTup (aCons (vR (rBin (vR (rBin (dVar 0) (dVar 2) dMul)) (vR (rCall (aCons (vR (rComp (iOf (dVar 1)) (gTup 2 (gCons (gN 4) (gCons (gN 5) gNil))) bYes (vR (rBin (dVar 4) (vR (rBin (dVar 2) (dVar 5) dFd)) dMul)) [3, 4, 5])) aNil) (on1 dSum))) dAdd)) (aCons (dVar 2) aNil)))))
  sNil))
def F__law_pick : DF := dfS 2
  (sCons (sRetB (rBin (dVar 1) (vR (dCall (aCons (dVar 0) (aCons (vR (rCall (aCons (dVar 1) aNil) (on1 dLen))) aNil)) F__law_take)) dIx))
  sNil)
def F__law_lower : DF := dfS 8
  (sCons (sSetN 3 (vR (rCall (aCons (vR (rComp (iArg (aCons (vR (dCall (aCons (dVar 0) (aCons (vR (rBin (dVar 1) (dC (.int 1)) dAdd)) aNil)) F__law_take)) aNil) rng1) (gN 7) bYes (vR (dCall (aCons (dVar 0) (aCons (dVar 2) aNil)) F__law_pair)) [6, 7])) aNil) (on1 dTuple))))
  (sCons (sAsgN (vR (dCall (aCons (dC (.int 0)) (aCons (dVar 3) aNil)) F__law_e)) (gTup 2 (gCons (gN 4) (gCons (gN 5) gNil))))
  (sCons (sRetB (rV (dTup (aCons (vR (rBin (vR (rBin (vR (rBin (dC (.int 0)) (vR (rBin (dVar 4) (dVar 5) dFd)) dSub)) (dC (.int 1)) dSub)) (vR (dCall (aCons (dVar 0) (aCons (vR (dLst (aCons (dC (.int 0)) (aCons (dC (.int 0)) (aCons (dC (.int 0)) (aCons (dC (.int 1)) (aCons (dC (.int 2)) aNil))))))) aNil)) F__law_pick)) dSub)) (aCons (dVar 3) aNil)))))
  sNil)))
def F__law_span : DF := dfS 4
  (sCons (sAsgN (vR (dCall (aCons (dVar 0) (aCons (dVar 1) aNil)) F__law_e)) (gTup 2 (gCons (gN 2) (gCons (gN 3) gNil))))
  (sCons (sRetB (rBin (vR (rBin (vR (rBin (vR (rBin (vR (rBin (vR (rCall (aCons (dVar 1) aNil) (on1 dLen))) (dC (.int 1)) dAdd)) (dVar 3) dMul)) (dVar 2) dSub)) (dC (.int 1)) dSub)) (vR (rBin (dC (.int 0)) (dVar 2) dSub)) dFd))
  sNil))
def F__law_narrow : DF := dfS 7
  (sCons (sFor (iArg (aCons (dC (.int 12)) aNil) rng1) (gN 4) (sCons (sAsgN (vR (dCall (aCons (dVar 0) (aCons (dVar 1) (aCons (dVar 2) aNil))) F__law_lower)) (gTup 2 (gCons (gN 5) (gCons (gN 6) gNil))))
  (sCons (sIf (bAnd (cBin (vR (dCall (aCons (dVar 5) (aCons (dVar 6) aNil)) F__law_span)) (dVar 3) dLe) (cBin (vR (rCall (aCons (vR (rBin (vR (dCall (aCons (dVar 5) (aCons (dVar 6) aNil)) F__law_e)) (dC (.int 0)) dIx)) aNil) (on1 (i1 iAbs)))) (dVar 3) dLe)) (sCons (sRetB (rV (dTup (aCons (dVar 5) (aCons (dVar 6) aNil)))))
  sNil) sNil)
  sNil)))
  (sCons (sRetB (rV (dTup (aCons (dNeg (dC (.int 2))) (aCons (dTup (aCons (dTup (aCons (dC (.int 1)) (aCons (dC (.int 2)) aNil))) (aCons (dTup (aCons (dC (.int 2)) (aCons (dC (.int 3)) aNil))) (aCons (dTup (aCons (dC (.int 4)) (aCons (dC (.int 5)) aNil))) aNil)))) aNil)))))
  sNil))
def F_is_list : DF := dfS 1
  (sCons (sRetB (rCall (aCons (dVar 0) (aCons (dTup (aCons (dC (.typ "list")) (aCons (dC (.typ "tuple")) aNil))) aNil)) (on2 (dIsi (kt Cs)))))
  sNil)
def F_is_tuple : DF := dfS 2
  (sCons (sRetB (rV (vAnd (vR (rCall (aCons (dVar 0) (aCons (dC (.typ "tuple")) aNil)) (on2 (dIsi (kt Cs))))) (bV (cBin (vR (rCall (aCons (dVar 0) aNil) (on1 dLen))) (dVar 1) dEq)))))
  sNil)
def F_is_number : DF := dfS 1
  (sCons (sRetB (rV (vAnd (vR (rCall (aCons (dVar 0) (aCons (dC (.typ "int")) aNil)) (on2 (dIsi (kt Cs))))) (vNot (vR (rCall (aCons (dVar 0) (aCons (dC (.typ "bool")) aNil)) (on2 (dIsi (kt Cs)))))))))
  sNil)
def F_is_number_pair : DF := dfS 1
  (sCons (sIf (bOr (bNot (bTru (vR (dCall (aCons (dVar 0) (aCons (dC (.int 2)) aNil)) F_is_tuple)))) (bOr (bNot (bTru (vR (dCall (aCons (vR (rBin (dVar 0) (dC (.int 0)) dIx)) aNil) F_is_number)))) (bNot (bTru (vR (dCall (aCons (vR (rBin (dVar 0) (dC (.int 1)) dIx)) aNil) F_is_number)))))) (sCons (sRetB (rV (dC (.bl false))))
  sNil) sNil)
  (sCons (sRetB (rV (vAnd (bV (cChain (dC (.int 0)) (vR (rBin (dVar 0) (dC (.int 0)) dIx)) (vR (rBin (dVar 0) (dC (.int 1)) dIx)) dLt dLt)) (bV (cBin (vR (rCall (aCons (vR (rBin (dVar 0) (dC (.int 0)) dIx)) (aCons (vR (rBin (dVar 0) (dC (.int 1)) dIx)) aNil)) (on2 (i2 iGcd)))) (dC (.int 1)) dEq)))))
  sNil))
def F_are_pairs : DF := dfS 3
  (sCons (sIf (bOr (bNot (bTru (vR (dCall (aCons (dVar 0) aNil) F_is_list)))) (cBin (vR (rCall (aCons (dVar 0) aNil) (on1 dLen))) (dC (.int 6)) dGt)) (sCons (sRetB (rV (dC (.bl false))))
  sNil) sNil)
  (sCons (sRetB (rCall (aCons (vR (rComp (iOf (dVar 0)) (gN 2) bYes (vAnd (vR (dCall (aCons (dVar 2) aNil) F_is_number_pair)) (bV (cBin (vR (rBin (dVar 2) (dC (.int 1)) dIx)) (dC (.int 60)) dLe))) [1, 2])) aNil) (on1 dAll)))
  sNil))
def F_is_between : DF := dfS 3
  (sCons (sRetB (rV (vAnd (vR (dCall (aCons (dVar 0) aNil) F_is_number)) (bV (cChain (dVar 1) (dVar 0) (dVar 2) dLe dLe)))))
  sNil)
def F_Stream : DF := dmS "Stream" 3 (fun fs => fs.map (·.1) = (["whole", "pairs"] : List Str)) (jCons (sIf (bNot (bTru (vR (dCall (aCons (dVar 2) aNil) F_are_pairs)))) (sCons sNever
  sNil) sNil) (jCons (sIf (bNot (bTru (vR (dCall (aCons (dVar 1) (aCons (vR (rBin (vR (rBin (dC (.int 0)) (dC (.int 20)) dSub)) (vR (rCall (aCons (dVar 2) aNil) (on1 dLen))) dSub)) (aCons (dC (.int 20)) aNil))) F_is_between)))) (sCons sNever
  sNil) sNil) (jFlds (iCons (dVar 1) "whole" (iCons (vR (rCall (aCons (dVar 2) aNil) (on1 dTuple))) "pairs" iNil)))))
def F__law_vector : DF := dfS 5
  (sCons (sRetB (rCall (aCons (vR (rComp (iArg (aCons (vR (rBin (vR (rCall (aCons (dVar 1) aNil) (on1 dLen))) (dC (.int 1)) dAdd)) aNil) rng1) (gN 4) bYes (vR (rBin (vR (dCall (aCons (dVar 0) (aCons (vR (rBin (vR (rBin (dC (.int 2)) (dVar 2) dMul)) (dC (.int 1)) dAdd)) aNil)) F__law_take)) (dVar 2) dSub)) [3, 4])) aNil) (on1 dTuple)))
  sNil)
def F__law_count : DF := dfS 8
  (sCons (sRetB (rBin (vR (rBin (vR (rBin (dC (.int 1)) (vR (rBin (dVar 2) (dC (.int 0)) dIx)) dAdd)) (vR (rBin (dVar 0) (dVar 3) dMul)) dSub)) (vR (rCall (aCons (vR (rComp (iArg (aCons (vR (rCut (dVar 2) (oSome (dC (.int 1))) oNone)) (aCons (dVar 1) aNil)) zip2) (gTup 2 (gCons (gN 5) (gCons (gTup 2 (gCons (gN 6) (gCons (gN 7) gNil))) gNil))) bYes (vR (rBin (vR (rBin (dVar 5) (vR (rBin (dVar 3) (dVar 6) dMul)) dSub)) (dVar 7) dFd)) [4, 5, 6, 7])) aNil) (on1 dSum))) dAdd))
  sNil)
def F__law_first_above : DF := dfS 10
  (sCons (sAsgN (vR (dCall (aCons (dVar 0) (aCons (dVar 1) aNil)) F__law_e)) (gTup 2 (gCons (gN 3) (gCons (gN 4) gNil))))
  (sCons (sSetN 5 (vR (rBin (dC (.int 0)) (vR (rBin (vR (rBin (vR (rBin (dC (.int 1)) (vR (rBin (dVar 2) (dC (.int 0)) dIx)) dAdd)) (dVar 4) dMul)) (vR (rCall (aCons (vR (rComp (iArg (aCons (vR (rCut (dVar 2) (oSome (dC (.int 1))) oNone)) (aCons (dVar 1) aNil)) zip2) (gTup 2 (gCons (gN 7) (gCons (gTup 2 (gCons (gN 8) (gCons (gN 9) gNil))) gNil))) bYes (vR (rBin (dVar 7) (vR (rBin (dVar 4) (dVar 9) dFd)) dMul)) [6, 7, 8, 9])) aNil) (on1 dSum))) dAdd)) dSub)))
  (sCons (sSetN 5 (vR (rBin (dVar 5) (vR (rBin (dC (.int 0)) (dVar 3) dSub)) dFd)))
  (sCons (sWhile (cBin (vR (dCall (aCons (dVar 0) (aCons (dVar 1) (aCons (dVar 2) (aCons (dVar 5) aNil)))) F__law_count)) (dC (.int 0)) dLe) (sCons (sSetN 5 (vR (rBin (dVar 5) (dC (.int 1)) dAdd)))
  sNil))
  (sCons (sRetB (rV (dVar 5)))
  sNil)))))
def F__law_reduced : DF := dfS 7
  (sCons (sParN 2 3 false true (rBin (dVar 1) (dC (.int 0)) dIx) (dLst aNil))
  (sCons (sFor (iArg (aCons (vR (rCut (dVar 1) (oSome (dC (.int 1))) oNone)) (aCons (dVar 0) aNil)) zip2) (gTup 2 (gCons (gN 4) (gCons (gTup 2 (gCons (gN 5) (gCons (gN 6) gNil))) gNil))) (sCons (sSetN 2 (vR (rBin (dVar 2) (vR (rBin (dVar 4) (dVar 6) dFd)) dAdd)))
  (sCons (sAppN 3 (vR (rBin (vR (rCall (aCons (dVar 4) aNil) (on1 dInt))) (dVar 6) dMd)))
  sNil)))
  (sCons (sRetB (rBin (dTup (aCons (dVar 2) aNil)) (vR (rCall (aCons (dVar 3) aNil) (on1 dTuple))) dAdd))
  sNil)))
def F__law_normal : DF := dfS 9
  (sCons (sSetN 3 (vR (dCall (aCons (dVar 0) (aCons (dVar 1) (aCons (dVar 2) aNil))) F__law_first_above)))
  (sCons (sSetN 4 (vR (rBin (vR (dLst (aCons (vR (rBin (vR (rBin (dVar 2) (dC (.int 0)) dIx)) (vR (rBin (dVar 3) (dVar 0) dMul)) dSub)) aNil))) (vR (rComp (iArg (aCons (vR (rCut (dVar 2) (oSome (dC (.int 1))) oNone)) (aCons (dVar 1) aNil)) zip2) (gTup 2 (gCons (gN 6) (gCons (gTup 2 (gCons (gN 7) (gCons (gN 8) gNil))) gNil))) bYes (vR (rBin (dVar 6) (vR (rBin (dVar 3) (dVar 7) dMul)) dSub)) [5, 6, 7, 8])) dAdd)))
  (sCons (sRetB (dCall (aCons (dVar 1) (aCons (dVar 4) aNil)) F__law_reduced))
  sNil)))
def F__law_says : DF := dfS 2
  (sCons (sRetB (rV (bV (cBin (vR (rCall (aCons (dVar 0) aNil) (on1 dRepr))) (vR (rCall (aCons (dVar 1) aNil) (on1 dRepr))) dEqS))))
  sNil)
def F_need_stream : DF := dfS 1
  (sCons (sIf (bNot (bTru (vR (rCall (aCons (dVar 0) (aCons (dC (.fn "Stream")) aNil)) (on2 (dIsi (kt Cs))))))) (sCons sNever
  sNil) sNil)
  sNil)
def F_least_ratio : DF := dfS 3
  (sCons (sSetN 2 (vR (rIf (cBin (dVar 1) (dC (.int 0)) dGt) (rCall (aCons (dVar 0) (aCons (dVar 1) aNil)) (on2 (i2 iGcd))) (rBin (dC (.int 0)) (vR (rCall (aCons (dVar 0) (aCons (dVar 1) aNil)) (on2 (i2 iGcd)))) dSub))))
  (sCons (sRetB (rV (dTup (aCons (vR (rBin (dVar 0) (dVar 2) dFd)) (aCons (vR (rBin (dVar 1) (dVar 2) dFd)) aNil)))))
  sNil))
def F_ratio_plus : DF := dfS 2
  (sCons (sRetB (dCall (aCons (vR (rBin (vR (rBin (vR (rBin (dVar 0) (dC (.int 0)) dIx)) (vR (rBin (dVar 1) (dC (.int 1)) dIx)) dMul)) (vR (rBin (vR (rBin (dVar 1) (dC (.int 0)) dIx)) (vR (rBin (dVar 0) (dC (.int 1)) dIx)) dMul)) dAdd)) (aCons (vR (rBin (vR (rBin (dVar 0) (dC (.int 1)) dIx)) (vR (rBin (dVar 1) (dC (.int 1)) dIx)) dMul)) aNil)) F_least_ratio))
  sNil)
def F_e_of : DF := dfS 3
  (sCons (sExpr (vR (dCall (aCons (dVar 0) aNil) F_need_stream)))
  (sCons (sSetN 1 (dTup (aCons (dFld (dVar 0) "Stream" "whole") (aCons (dC (.int 1)) aNil))))
  (sCons (sFor (iOf (dFld (dVar 0) "Stream" "pairs")) (gN 2) (sCons (sSetN 1 (vR (dCall (aCons (dVar 1) (aCons (dVar 2) aNil)) F_ratio_plus)))
  sNil))
  (sCons (sRetB (rV (dVar 1)))
  sNil))))
def F_need_below : DF := dfS 1
  (sCons (sExpr (vR (dCall (aCons (dVar 0) aNil) F_need_stream)))
  (sCons (sIf (cBin (vR (rBin (vR (dCall (aCons (dVar 0) aNil) F_e_of)) (dC (.int 0)) dIx)) (dC (.int 0)) dGe) (sCons sNever
  sNil) sNil)
  sNil))
def F_is_vector : DF := dfS 4
  (sCons (sIf (bNot (bTru (vR (dCall (aCons (dVar 1) (aCons (vR (rBin (vR (rCall (aCons (dFld (dVar 0) "Stream" "pairs") aNil) (on1 dLen))) (dC (.int 1)) dAdd)) aNil)) F_is_tuple)))) (sCons (sRetB (rV (dC (.bl false))))
  sNil) sNil)
  (sCons (sRetB (rCall (aCons (vR (rComp (iOf (dVar 1)) (gN 3) bYes (vR (dCall (aCons (dVar 3) (aCons (vR (rBin (dC (.int 0)) (dC (.int 1000000000)) dSub)) (aCons (dC (.int 1000000000)) aNil))) F_is_between)) [2, 3])) aNil) (on1 dAll)))
  sNil))
def F_need_vector : DF := dfS 2
  (sCons (sIf (bNot (bTru (vR (dCall (aCons (dVar 0) (aCons (dVar 1) aNil)) F_is_vector)))) (sCons sNever
  sNil) sNil)
  sNil)
def F_need_few : DF := dfS 2
  (sCons (sIf (cBin (dVar 0) (dVar 1) dGt) (sCons sNever
  sNil) sNil)
  sNil)
def F_span_of : DF := dfS 3
  (sCons (sAsgN (vR (dCall (aCons (dVar 0) aNil) F_e_of)) (gTup 2 (gCons (gN 1) (gCons (gN 2) gNil))))
  (sCons (sRetB (rBin (dC (.int 0)) (vR (rBin (vR (rBin (vR (rBin (vR (rCall (aCons (dFld (dVar 0) "Stream" "pairs") aNil) (on1 dLen))) (dC (.int 1)) dAdd)) (dVar 2) dMul)) (dVar 1) dFd)) dSub))
  sNil))
def F_need_span : DF := dfS 1
  (sCons (sExpr (vR (dCall (aCons (vR (dCall (aCons (dVar 0) aNil) F_span_of)) (aCons (dC (.int 20000)) aNil)) F_need_few)))
  sNil)
def F_reduced : DF := dfS 7
  (sCons (sParN 2 3 false true (rBin (dVar 1) (dC (.int 0)) dIx) (dLst aNil))
  (sCons (sFor (iArg (aCons (dFld (dVar 0) "Stream" "pairs") (aCons (vR (rCut (dVar 1) (oSome (dC (.int 1))) oNone)) aNil)) zip2) (gTup 2 (gCons (gTup 2 (gCons (gN 4) (gCons (gN 5) gNil))) (gCons (gN 6) gNil))) (sCons (augI (fun _ _ => True) (fun i j => i + j) 2 (vR (rBin (dVar 6) (dVar 5) dFd)))
  (sCons (sAppN 3 (vR (rBin (dVar 6) (dVar 5) dMd)))
  sNil)))
  (sCons (sRetB (rV (dTupS (aCons (dVar 2) (aStar (dVar 3) aNil)))))
  sNil)))
def F_count_in : DF := dfS 7
  (sCons (sSetN 3 (vR (rBin (vR (rBin (dC (.int 1)) (vR (rBin (dVar 1) (dC (.int 0)) dIx)) dAdd)) (vR (rBin (dFld (dVar 0) "Stream" "whole") (dVar 2) dMul)) dSub)))
  (sCons (sFor (iArg (aCons (dFld (dVar 0) "Stream" "pairs") (aCons (vR (rCut (dVar 1) (oSome (dC (.int 1))) oNone)) aNil)) zip2) (gTup 2 (gCons (gTup 2 (gCons (gN 4) (gCons (gN 5) gNil))) (gCons (gN 6) gNil))) (sCons (augI (fun _ _ => True) (fun i j => i + j) 3 (vR (rBin (vR (rBin (dVar 6) (vR (rBin (dVar 2) (dVar 4) dMul)) dSub)) (dVar 5) dFd)))
  sNil))
  (sCons (sRetB (rV (dVar 3)))
  sNil)))
def F_later : DF := dfS 8
  (sCons (sSetN 3 (vR (rComp (iArg (aCons (dFld (dVar 0) "Stream" "pairs") (aCons (vR (rCut (dVar 1) (oSome (dC (.int 1))) oNone)) aNil)) zip2) (gTup 2 (gCons (gTup 2 (gCons (gN 5) (gCons (gN 6) gNil))) (gCons (gN 7) gNil))) bYes (vR (rBin (dVar 7) (vR (rBin (dVar 2) (dVar 5) dMul)) dSub)) [4, 5, 6, 7])))
  (sCons (sRetB (dCall (aCons (dVar 0) (aCons (dTupS (aCons (vR (rBin (vR (rBin (dVar 1) (dC (.int 0)) dIx)) (vR (rBin (dVar 2) (dFld (dVar 0) "Stream" "whole") dMul)) dSub)) (aStar (dVar 3) aNil))) aNil)) F_reduced))
  sNil))
def F_normal_in : DF := dfS 5
  (sCons (sAsgN (vR (dCall (aCons (dVar 0) aNil) F_e_of)) (gTup 2 (gCons (gN 2) (gCons (gN 3) gNil))))
  (sCons (sSetN 1 (vR (dCall (aCons (dVar 0) (aCons (dVar 1) aNil)) F_reduced)))
  (sCons (sSetN 4 (vR (rBin (vR (rBin (vR (rBin (vR (rBin (vR (rBin (dC (.int 1)) (vR (rBin (dVar 1) (dC (.int 0)) dIx)) dAdd)) (vR (rCall (aCons (dFld (dVar 0) "Stream" "pairs") aNil) (on1 dLen))) dAdd)) (dVar 3) dMul)) (dVar 2) dFd)) (dC (.int 1)) dSub)))
  (sCons (sWhile (cBin (vR (dCall (aCons (dVar 0) (aCons (dVar 1) (aCons (dVar 4) aNil))) F_count_in)) (dC (.int 0)) dLe) (sCons (augI (fun _ _ => True) (fun i j => i + j) 4 (dC (.int 1)))
  sNil))
  (sCons (sRetB (dCall (aCons (dVar 0) (aCons (dVar 1) (aCons (dVar 4) aNil))) F_later))
  sNil)))))
def F_normal : DF := dfS 2
  (sCons (sExpr (vR (dCall (aCons (dVar 0) aNil) F_need_below)))
  (sCons (sExpr (vR (dCall (aCons (dVar 0) (aCons (dVar 1) aNil)) F_need_vector)))
  (sCons (sExpr (vR (dCall (aCons (dVar 0) aNil) F_need_span)))
  (sCons (sRetB (dCall (aCons (dVar 0) (aCons (dVar 1) aNil)) F_normal_in))
  sNil))))
def F__law_moved_vector : DF := dfS 13
  (sCons (sSetN 5 (vR (rBin (vR (dCall (aCons (dVar 0) (aCons (vR (rBin (vR (rBin (dC (.int 2)) (dVar 4) dMul)) (dC (.int 1)) dAdd)) aNil)) F__law_take)) (dVar 4) dSub)))
  (sCons (sOwnN 8 (rBin (vR (dLst (aCons (vR (rBin (vR (rBin (dVar 3) (dC (.int 0)) dIx)) (vR (rBin (dVar 5) (dVar 1) dMul)) dAdd)) aNil))) (vR (rComp (iArg (aCons (vR (rCut (dVar 3) (oSome (dC (.int 1))) oNone)) (aCons (dVar 2) aNil)) zip2) (gTup 2 (gCons (gN 12) (gCons (gTup 2 (gCons (gN 6) (gCons (gN 7) gNil))) gNil))) bYes (vR (rBin (dVar 12) (vR (rBin (dVar 5) (dVar 6) dMul)) dAdd)) [11, 12, 6, 7])) dAdd))
  (sCons (sFor (iArg (aCons (dVar 2) aNil) enu1) (gTup 2 (gCons (gN 9) (gCons (gTup 2 (gCons (gN 6) (gCons (gN 7) gNil))) gNil))) (sCons (sSetN 10 (vR (rBin (vR (dCall (aCons (dVar 0) (aCons (vR (rBin (vR (rBin (dC (.int 2)) (dVar 4) dMul)) (dC (.int 1)) dAdd)) aNil)) F__law_take)) (dVar 4) dSub)))
  (sCons (sPutB 8 (vR (rBin (vR (rBin (dVar 8) (dC (.int 0)) dIx)) (dVar 10) dSub)) (dC (.int 0)))
  (sCons (sPutB 8 (vR (rBin (vR (rBin (dVar 8) (vR (rBin (dVar 9) (dC (.int 1)) dAdd)) dIx)) (vR (rBin (dVar 10) (dVar 7) dMul)) dAdd)) (vR (rBin (dVar 9) (dC (.int 1)) dAdd)))
  sNil))))
  (sCons (sRetB (rCall (aCons (dVar 8) aNil) (on1 dTuple)))
  sNil))))
def F_of_one_class : DF := dfS 15
  (sCons (sExpr (vR (dCall (aCons (dVar 0) aNil) F_need_below)))
  (sCons (sExpr (vR (dCall (aCons (dVar 0) (aCons (dVar 1) aNil)) F_need_vector)))
  (sCons (sExpr (vR (dCall (aCons (dVar 0) (aCons (dVar 2) aNil)) F_need_vector)))
  (sCons (sAsgN (vR (dCall (aCons (dVar 0) aNil) F_e_of)) (gTup 2 (gCons (gN 3) (gCons (gN 4) gNil))))
  (sCons (sSetN 5 (vR (rComp (iArg (aCons (dVar 1) (aCons (dVar 2) aNil)) zip2) (gTup 2 (gCons (gN 12) (gCons (gN 13) gNil))) bYes (vR (rBin (dVar 12) (dVar 13) dSub)) [11, 12, 13])))
  (sCons (sAsgN (dTup (aCons (dC (.int 1)) (aCons (dC (.int 0)) aNil))) (gTup 2 (gCons (gN 6) (gCons (gN 7) gNil))))
  (sCons (sFor (iOf (dFld (dVar 0) "Stream" "pairs")) (gTup 2 (gCons (gN 8) (gCons (gN 9) gNil))) (sCons (augI IntMulOk (fun i j => i * j) 6 (dVar 9))
  sNil))
  (sCons (sSetN 7 (vR (rBin (vR (rBin (vR (rBin (dVar 5) (dC (.int 0)) dIx)) (dVar 6) dMul)) (vR (rCall (aCons (vR (rComp (iArg (aCons (dFld (dVar 0) "Stream" "pairs") (aCons (vR (rCut (dVar 5) (oSome (dC (.int 1))) oNone)) aNil)) zip2) (gTup 2 (gCons (gTup 2 (gCons (gN 8) (gCons (gN 9) gNil))) (gCons (gN 14) gNil))) bYes (vR (rBin (dVar 14) (vR (rBin (dVar 6) (dVar 9) dFd)) dMul)) [11, 8, 9, 14])) aNil) (on1 dSum))) dAdd)))
  (sCons (sIf (cBin (vR (rBin (vR (rBin (dVar 7) (dVar 4) dMul)) (vR (rBin (dVar 3) (dVar 6) dMul)) dMd)) (dC (.int 0)) dNe) (sCons (sRetB (rV (dC (.bl false))))
  sNil) sNil)
  (sCons (sSetN 10 (vR (rBin (vR (rBin (dVar 7) (dVar 4) dMul)) (vR (rBin (dVar 3) (dVar 6) dMul)) dFd)))
  (sCons (sRetB (rCall (aCons (vR (rComp (iArg (aCons (dFld (dVar 0) "Stream" "pairs") (aCons (vR (rCut (dVar 5) (oSome (dC (.int 1))) oNone)) aNil)) zip2) (gTup 2 (gCons (gTup 2 (gCons (gN 8) (gCons (gN 9) gNil))) (gCons (gN 14) gNil))) bYes (bV (cBin (vR (rBin (vR (rBin (dVar 14) (vR (rBin (dVar 10) (dVar 8) dMul)) dSub)) (dVar 9) dMd)) (dC (.int 0)) dEq)) [11, 8, 9, 14])) aNil) (on1 dAll)))
  sNil)))))))))))
def F__law_odd : DF := dfS 1
  (sCons (sRetB (dCall (aCons (dVar 0) (aCons (vR (dLst (aCons (dC .non) (aCons (dC (.int 5)) (aCons (dC (.bl true)) (aCons (dC (.str "vector")) (aCons (dTup aNil) (aCons (vR (dLst aNil)) (aCons (dTup (aCons (dC .non) aNil)) (aCons (dTup (aCons (dTup aNil) aNil)) (aCons (dTup (aCons (dC (.int 1)) (aCons (dTup (aCons (dC (.int 2)) (aCons (dTup aNil) aNil))) aNil))) (aCons vDct (aCons (dTup (aCons (dC (.bl true)) (aCons (dC (.bl true)) aNil))) (aCons (dTup (aCons (vR (dLst (aCons (dC (.int 0)) (aCons (dC (.int 0)) aNil)))) aNil)) aNil)))))))))))))) aNil)) F__law_pick))
  sNil)
def F_is_normal : DF := dfS 2
  (sCons (sExpr (vR (dCall (aCons (dVar 0) aNil) F_need_below)))
  (sCons (sExpr (vR (dCall (aCons (dVar 0) aNil) F_need_span)))
  (sCons (sRetB (rV (vAnd (vR (dCall (aCons (dVar 0) (aCons (dVar 1) aNil)) F_is_vector)) (bV (cBin (vR (dCall (aCons (dVar 0) (aCons (dVar 1) aNil)) F_normal_in)) (dVar 1) dEq)))))
  sNil)))
def F__law_is_own_normal : DF := dfS 5
  (sCons (sIf (bOr (bNot (bTru (vR (rCall (aCons (dVar 2) (aCons (dC (.typ "tuple")) aNil)) (on2 (dIsi (kt Cs))))))) (cBin (vR (rCall (aCons (dVar 2) aNil) (on1 dLen))) (vR (rBin (vR (rCall (aCons (dVar 1) aNil) (on1 dLen))) (dC (.int 1)) dAdd)) dNe)) (sCons (sRetB (rV (dC (.bl false))))
  sNil) sNil)
  (sCons (sIf (cBin (vR (rComp (iOf (dVar 2)) (gN 4) (bOr (bNot (bTru (vR (rCall (aCons (dVar 4) (aCons (dC (.typ "int")) aNil)) (on2 (dIsi (kt Cs))))))) (bOr (bTru (vR (rCall (aCons (dVar 4) (aCons (dC (.typ "bool")) aNil)) (on2 (dIsi (kt Cs)))))) (cBin (vR (rCall (aCons (dVar 4) aNil) (on1 (i1 iAbs)))) (vR (rBin (dC (.int 10)) (dC (.int 9)) dPw)) dGt))) (dVar 4) [3, 4])) (vR (dLst aNil)) dNe) (sCons (sRetB (rV (dC (.bl false))))
  sNil) sNil)
  (sCons (sRetB (rV (bV (cBin (vR (dCall (aCons (dVar 0) (aCons (dVar 1) (aCons (dVar 2) aNil))) F__law_normal)) (dVar 2) dEq))))
  sNil)))
def F_need_between : DF := dfS 4
  (sCons (sIf (bNot (bTru (vR (dCall (aCons (dVar 0) (aCons (dVar 1) (aCons (dVar 2) aNil))) F_is_between)))) (sCons sNever
  sNil) sNil)
  sNil)
def F_count_at : DF := dfS 3
  (sCons (sExpr (vR (dCall (aCons (dVar 0) aNil) F_need_below)))
  (sCons (sExpr (vR (dCall (aCons (dVar 0) (aCons (dVar 1) aNil)) F_need_vector)))
  (sCons (sExpr (vR (dCall (aCons (dVar 2) (aCons (vR (rBin (dC (.int 0)) (dC (.int 1000000000000000000000000000000)) dSub)) (aCons (dC (.int 1000000000000000000000000000000)) (aCons (dC (.str "n")) aNil)))) F_need_between)))
  (sCons (sRetB (dCall (aCons (dVar 0) (aCons (dVar 1) (aCons (dVar 2) aNil))) F_count_in))
  sNil))))
def b_law : DS :=
  (sCons (sFor (iArg (aCons (vR (rBin (dC (.int 3)) (vR (rCall (aCons (vR (rCall (aCons (dVar 0) aNil) (on1 dLen))) (aCons (dC (.int 4)) aNil)) (on2 (i2 iMin)))) dAdd)) aNil) rng1) (gN 2) (sCons (sAsgN (vR (dCall (aCons (dVar 1) (aCons (dC (.int 5)) (aCons (vR (dCall (aCons (dVar 1) (aCons (vR (dLst (aCons (dC (.int 3)) (aCons (dC (.int 7)) (aCons (dC (.int 20)) aNil))))) aNil)) F__law_pick)) (aCons (dC (.int 900)) aNil)))) F__law_narrow)) (gTup 2 (gCons (gN 3) (gCons (gN 4) gNil))))
  (sCons (sParN 5 6 false false (dCallK (aCons (dVar 3) (aCons (dVar 4) aNil)) aNil [0, 1] F_Stream) (dCall (aCons (dVar 1) (aCons (vR (dLst (aCons (dC (.int 3)) (aCons (dC (.int 30)) (aCons (vR (rBin (dC (.int 10)) (dC (.int 9)) dPw)) aNil))))) aNil)) F__law_pick))
  (sCons (sSetN 7 (vR (dCall (aCons (dVar 1) (aCons (dVar 4) (aCons (dVar 6) aNil))) F__law_vector)))
  (sCons (sSetN 8 (vR (dCall (aCons (dVar 3) (aCons (dVar 4) (aCons (dVar 7) aNil))) F__law_normal)))
  (sCons (sIf (bNot (bTru (vR (dCall (aCons (vR (dCallK (aCons (dVar 5) aNil) (aCons (dVar 7) aNil) [0, 1] F_normal)) (aCons (dVar 8) aNil)) F__law_says)))) (sCons (sRetB (rV (dC (.bl false))))
  sNil) sNil)
  (sCons (sIf (cBin (dVar 6) (dC (.int 100)) dLt) (sCons (sSetN 9 (vR (dCall (aCons (dVar 1) (aCons (dVar 3) (aCons (dVar 4) (aCons (dVar 7) (aCons (dC (.int 6)) aNil))))) F__law_moved_vector)))
  (sCons (sIf (bOr (cBin (vR (dCallK (aCons (dVar 5) (aCons (dVar 7) aNil)) (aCons (dVar 9) aNil) [0, 1, 2] F_of_one_class)) (dC (.bl true)) dNotB) (cBin (vR (dCall (aCons (dVar 5) (aCons (dVar 9) aNil)) F_normal)) (dVar 8) dNe)) (sCons (sRetB (rV (dC (.bl false))))
  sNil) sNil)
  sNil)) sNil)
  (sCons (sSetN 9 (vR (dCall (aCons (dVar 1) (aCons (vR (dLst (aCons (vR (dCall (aCons (dVar 1) (aCons (dVar 4) (aCons (dVar 6) aNil))) F__law_vector)) (aCons (vR (rIf (cBin (vR (rBin (dVar 7) (dC (.int 0)) dIx)) (vR (rBin (dC (.int 10)) (dC (.int 9)) dPw)) dLt) (rBin (dTup (aCons (vR (rBin (vR (rBin (dVar 7) (dC (.int 0)) dIx)) (dC (.int 1)) dAdd)) aNil)) (vR (rCut (dVar 7) (oSome (dC (.int 1))) oNone)) dAdd) (rV (dVar 7)))) aNil)))) aNil)) F__law_pick)))
  (sCons (sIf (bNot (bTru (vR (dCall (aCons (vR (dCall (aCons (dVar 5) (aCons (dVar 7) (aCons (dVar 9) aNil))) F_of_one_class)) (aCons (bV (cBin (vR (dCall (aCons (dVar 3) (aCons (dVar 4) (aCons (dVar 9) aNil))) F__law_normal)) (dVar 8) dEq)) aNil)) F__law_says)))) (sCons (sRetB (rV (dC (.bl false))))
  sNil) sNil)
  (sCons (sSetN 10 (vR (rBin (vR (rCut (dVar 8) oNone (oSome (dNeg (dC (.int 1)))))) (dTup (aCons (vR (rBin (vR (rBin (dVar 8) (dNeg (dC (.int 1))) dIx)) (dC (.int 1)) dAdd)) aNil)) dAdd)))
  (sCons (sFor (iOf (vR (dLst (aCons (dVar 8) (aCons (dVar 7) (aCons (dVar 10) (aCons (vR (rBin (dTup (aCons (vR (rBin (vR (rBin (dVar 8) (dC (.int 0)) dIx)) (dC (.int 1)) dAdd)) aNil)) (vR (rCut (dVar 8) (oSome (dC (.int 1))) oNone)) dAdd)) (aCons (vR (rCall (aCons (dVar 8) aNil) (on1 dList))) (aCons (vR (rBin (dVar 8) (dTup (aCons (dC (.int 0)) aNil)) dAdd)) (aCons (vR (dCall (aCons (dVar 1) aNil) F__law_odd)) (aCons (vR (rBin (dTup (aCons (dC (.int 0)) aNil)) (vR (rCall (aCons (dVar 8) aNil) (on1 dLen))) dMul)) (aCons (vR (rBin (dTup (aCons (dC (.bl true)) aNil)) (vR (rCut (dVar 8) (oSome (dC (.int 1))) oNone)) dAdd)) aNil)))))))))))) (gN 11) (sCons (sIf (bNot (bTru (vR (dCall (aCons (vR (dCallK aNil (aCons (dVar 5) (aCons (dVar 11) aNil)) [0, 1] F_is_normal)) (aCons (vR (dCall (aCons (dVar 3) (aCons (dVar 4) (aCons (dVar 11) aNil))) F__law_is_own_normal)) aNil)) F__law_says)))) (sCons (sRetB (rV (dC (.bl false))))
  sNil) sNil)
  sNil))
  (sCons (sFor (iOf (vR (dLst (aCons (dC (.int 0)) (aCons (dNeg (dC (.int 1))) (aCons (dC (.int 1)) (aCons (vR (rBin (vR (dCall (aCons (dVar 1) (aCons (dC (.int 2001)) aNil)) F__law_take)) (dC (.int 1000)) dSub)) (aCons (vR (rBin (vR (dCall (aCons (dVar 1) (aCons (vR (dLst (aCons (dC (.int 1)) (aCons (dNeg (dC (.int 1))) aNil)))) aNil)) F__law_pick)) (vR (dCall (aCons (dVar 1) (aCons (vR (rBin (vR (rBin (dC (.int 10)) (dC (.int 30)) dPw)) (dC (.int 1)) dAdd)) aNil)) F__law_take)) dMul)) aNil)))))))) (gN 12) (sCons (sSetN 13 (vR (dCallK (aCons (dVar 5) (aCons (dVar 7) aNil)) (aCons (dVar 12) aNil) [0, 1, 2] F_count_at)))
  (sCons (sIf (bOr (cBin (dVar 13) (vR (dCall (aCons (dVar 3) (aCons (dVar 4) (aCons (dVar 7) (aCons (dVar 12) aNil)))) F__law_count)) dNe) (bTru (vR (rCall (aCons (dVar 13) (aCons (dC (.typ "bool")) aNil)) (on2 (dIsi (kt Cs))))))) (sCons (sRetB (rV (dC (.bl false))))
  sNil) sNil)
  (sCons (sSetN 14 (vR (rCall (aCons (vR (rBin (vR (dLst (aCons (vR (rBin (vR (rBin (dVar 7) (dC (.int 0)) dIx)) (dVar 3) dSub)) aNil))) (vR (rComp (iArg (aCons (vR (rCut (dVar 7) (oSome (dC (.int 1))) oNone)) (aCons (dVar 4) aNil)) zip2) (gTup 2 (gCons (gN 16) (gCons (gTup 2 (gCons (gN 17) (gCons (gN 18) gNil))) gNil))) bYes (vR (rBin (dVar 16) (dVar 17) dSub)) [15, 16, 17, 18])) dAdd)) aNil) (on1 dTuple))))
  (sCons (sIf (bAnd (cBin (dVar 6) (dC (.int 100)) dLt) (bAnd (cBin (dVar 12) (vR (rBin (dC (.int 10)) (dC (.int 30)) dPw)) dLt) (cBin (vR (dCall (aCons (dVar 5) (aCons (dVar 14) (aCons (dVar 12) aNil))) F_count_at)) (vR (dCall (aCons (dVar 3) (aCons (dVar 4) (aCons (dVar 7) (aCons (vR (rBin (dVar 12) (dC (.int 1)) dAdd)) aNil)))) F__law_count)) dNe))) (sCons (sRetB (rV (dC (.bl false))))
  sNil) sNil)
  sNil)))))
  sNil))))))))))))
  (sCons (sRetB (rV (dC (.bl true))))
  sNil))
section
variable {P : Program} {w : World} {K : PySem.W.Frag} {mg : Str → Option Value} {base : Heap} {ca : Str → Addr} {Pd : DrawP}
theorem sc__law_begun : FnScope ["script", "large", ".0", "cell"] ["script"] (defScope st__law_begun) := ⟨rfl, rfl, rfl, by decide +kernel, rfl, by decide +kernel, by decide +kernel⟩
theorem d__law_begun (T : Txt K mg ca) (ok : BegOk 3 b1_law_begun b2_law_begun) {fd : FuncData} (fu : Fun K "_law_begun" "_law_begun" st__law_begun (ca "_law_begun") fd) : FnD P w K mg base 1 (ca "_law_begun") fd ["script"] (spB K ca false) :=
  begun_gen0 rfl fu sc__law_begun rfl ok rfl (by first | exact .inl rfl | exact .inr (.inl rfl)) rfl fun cdv A outer s H E m => ⟨(ss_comp (i := 1) m (ei_seq (ev_var (i := 0))) (own := [(".0", 2), ("cell", 3)]) rfl (fun s H C cl fp => (gt_name (i := 3) (m.blk).nd)) (fun s H C cl fp => (ets_one (eb_ge (er_abs (m.blk) (by exact T.b_abs) (ea_cons (ev_var (i := 3)) ea_nil)).v (er_pw ev_int ev_int).v))) (fun s H C cl fp => (er_sub (er_abs (m.blk) (by exact T.b_abs) (ea_cons (ev_var (i := 3)) ea_nil)).v (er_pw ev_int ev_int).v).v) (fun h => ownN_ok (i := 1) h)), (er_comp m (ei_seq (ev_var (i := 0))) (own := [(".0", 2), ("cell", 3)]) rfl (fun s H C cl fp => (gt_name (i := 3) (m.blk).nd)) (fun s H C cl fp => ets_nil) (fun s H C cl fp => (er_abs (m.blk) (by exact T.b_abs) (ea_cons (ev_var (i := 3)) ea_nil)).v))⟩
theorem sc__law_mixed : FnScope ["draw", "turn", "found", "great", "blend", "cell"] ["draw"] (defScope st__law_mixed) := ⟨rfl, rfl, rfl, by decide +kernel, rfl, by decide +kernel, by decide +kernel⟩
theorem d__law_mixed (T : Txt K mg ca)  : Df P w K mg base (cD K ca Pd) 1 "_law_mixed" st__law_mixed ["draw"] F__law_mixed :=
  df_gen T.g__law_mixed T.f__law_mixed sc__law_mixed ⟨rfl, by decide, by decide⟩ fun cdv A outer s H E m =>
  (sb_cons (ss_drPut (i := 0) (by simp) m.hu1 (pv 0) (er_add (ev_drI (i := 0) (by simp) m.hu1 (pv 0)) ev_int).v)
  (sb_cons (ss_parN (i := 1) (l := 2) (oi := false) (ol := false) m (er_int m (by exact T.b_int) (ea_cons (ev_drI (i := 0) (by simp) m.hu1 (pv 0)) ea_nil)) (ev_int).r)
  (sb_cons (ss_for m (ei_seq (er_lst (ea_cons ev_int (ea_cons ev_int (ea_cons ev_int ea_nil)))).v) (gt_name (i := 3) m.nd) (sb_cons (ss_setN (i := 4) m (er_md (er_add (er_mul (ev_var (i := 1)) ev_int).v (er_fd (ev_var (i := 3)) ev_int).v).v (ev_var (i := 3))).v)
  (sb_cons (ss_for m (ei_dr (i := 0) m.hu1 (pv 0)) (gt_name (i := 5) m.nd) (sb_cons (ss_setN (i := 4) m (er_md (er_add (er_add (er_mul (ev_var (i := 4)) ev_int).v (er_int m (by exact T.b_int) (ea_cons (ev_var (i := 5)) ea_nil)).v).v (ev_var (i := 1))).v (ev_var (i := 3))).v)
  sb_nil))
  (sb_cons (ss_setN (i := 2) m (er_add (er_mul (ev_var (i := 2)) ev_int).v (er_md (er_pw (ev_var (i := 4)) ev_int).v (ev_var (i := 3))).v).v)
  sb_nil))))
  (sb_cons (ss_retB (ev_var (i := 2)).r)
  sb_nil))))
theorem sc__law_take : FnScope ["draw", "amount", "found"] ["draw", "amount"] (defScope st__law_take) := ⟨rfl, rfl, rfl, by decide +kernel, rfl, by decide +kernel, by decide +kernel⟩
theorem d__law_take (T : Txt K mg ca) (d__law_mixed : Df P w K mg base (cD K ca Pd) 1 "_law_mixed" st__law_mixed ["draw"] F__law_mixed) : Df P w K mg base (cD K ca Pd) 2 "_law_take" st__law_take ["draw", "amount"] F__law_take :=
  df_gen T.g__law_take T.f__law_take sc__law_take ⟨rfl, by decide, by decide⟩ fun cdv A outer s H E m =>
  (sb_cons (ss_if (eb_eq m.hu (ev_drI (i := 0) (by simp) m.hu1 (pv 0)) ev_int) (sb_cons (ss_drPut (i := 0) (by simp) m.hu1 (pv 0) (er_drNext (i := 0) m.hu (fun _ => pv 0) (er_call m d__law_mixed (by decide) (by rfl) (fun _ _ _ _ _ _ us ws h1 h2 => match us, ws, h1, h2 with | [_], [], _, _ => rfl) (ea_cons (ev_var (i := 0)) ea_nil))).v)
  sb_nil) sb_nil)
  (sb_cons (ss_setN (i := 2) m (er_md (er_int m (by exact T.b_int) (ea_cons (ev_drI (i := 0) (by simp) m.hu1 (pv 0)) ea_nil)).v (ev_var (i := 1))).v)
  (sb_cons (ss_drPut (i := 0) (by simp) m.hu1 (pv 0) (er_fd (er_int m (by exact T.b_int) (ea_cons (ev_drI (i := 0) (by simp) m.hu1 (pv 0)) ea_nil)).v (ev_var (i := 1))).v)
  (sb_cons (ss_retB (ev_var (i := 2)).r)
  sb_nil))))
theorem sc__law_common : FnScope ["one", "other"] ["one", "other"] (defScope st__law_common) := ⟨rfl, rfl, rfl, by decide +kernel, rfl, by decide +kernel, by decide +kernel⟩
theorem d__law_common (T : Txt K mg ca)  : Df P w K mg base (cD K ca Pd) 1 "_law_common" st__law_common ["one", "other"] F__law_common :=
  df_gen T.g__law_common T.f__law_common sc__law_common ⟨rfl, by decide, by decide⟩ fun cdv A outer s H E m =>
  (sb_cons (ss_parN (i := 0) (l := 1) (oi := false) (ol := false) m (er_abs m (by exact T.b_abs) (ea_cons (ev_var (i := 0)) ea_nil)) (er_abs m (by exact T.b_abs) (ea_cons (ev_var (i := 1)) ea_nil)))
  (sb_cons (ss_while m (eb_ne m.hu (ev_var (i := 1)) ev_int) (sb_cons (ss_parN (i := 0) (l := 1) (oi := false) (ol := false) m (ev_var (i := 1)).r (er_md (er_int m (by exact T.b_int) (ea_cons (ev_var (i := 0)) ea_nil)).v (ev_var (i := 1))))
  sb_nil))
  (sb_cons (ss_retB (ev_var (i := 0)).r)
  sb_nil)))
theorem sc__law_pair : FnScope ["draw", "most", "below", "above"] ["draw", "most"] (defScope st__law_pair) := ⟨rfl, rfl, rfl, by decide +kernel, rfl, by decide +kernel, by decide +kernel⟩
theorem d__law_pair (T : Txt K mg ca) (d__law_common : Df P w K mg base (cD K ca Pd) 1 "_law_common" st__law_common ["one", "other"] F__law_common) (d__law_take : Df P w K mg base (cD K ca Pd) 2 "_law_take" st__law_take ["draw", "amount"] F__law_take) : Df P w K mg base (cD K ca Pd) 3 "_law_pair" st__law_pair ["draw", "most"] F__law_pair :=
  df_gen T.g__law_pair T.f__law_pair sc__law_pair ⟨rfl, by decide, by decide⟩ fun cdv A outer s H E m =>
  (sb_cons (ss_setN (i := 2) m (er_add ev_int (er_call m d__law_take (by decide) (by rfl) (fun _ _ _ _ _ _ us ws h1 h2 => match us, ws, h1, h2 with | [_, _], [], _, _ => rfl) (ea_cons (ev_var (i := 0)) (ea_cons (er_sub (ev_var (i := 1)) ev_int).v ea_nil))).v).v)
  (sb_cons (ss_setN (i := 3) m (er_add ev_int (er_call m d__law_take (by decide) (by rfl) (fun _ _ _ _ _ _ us ws h1 h2 => match us, ws, h1, h2 with | [_, _], [], _, _ => rfl) (ea_cons (ev_var (i := 0)) (ea_cons (er_sub (ev_var (i := 2)) ev_int).v ea_nil))).v).v)
  (sb_cons (ss_while m (eb_gt (er_call m d__law_common (by decide) (by rfl) (fun _ _ _ _ _ _ us ws h1 h2 => match us, ws, h1, h2 with | [_, _], [], _, _ => rfl) (ea_cons (ev_var (i := 3)) (ea_cons (ev_var (i := 2)) ea_nil))).v ev_int) (sb_cons (ss_setN (i := 3) m (er_if (eb_lt (ev_var (i := 3)) (er_sub (ev_var (i := 2)) ev_int).v) (er_add (ev_var (i := 3)) ev_int) (ev_int).r).v)
  sb_nil))
  (sb_cons (ss_retB (ev_tup (ea_cons (ev_var (i := 3)) (ea_cons (ev_var (i := 2)) ea_nil))).r)
  sb_nil))))
theorem sc__law_parts : FnScope ["pairs", "found", "above", "below"] ["pairs"] (defScope st__law_parts) := ⟨rfl, rfl, rfl, by decide +kernel, rfl, by decide +kernel, by decide +kernel⟩
theorem d__law_parts (T : Txt K mg ca)  : Df P w K mg base (cD K ca Pd) 1 "_law_parts" st__law_parts ["pairs"] F__law_parts :=
  df_gen T.g__law_parts T.f__law_parts sc__law_parts ⟨rfl, by decide, by decide⟩ fun cdv A outer s H E m =>
  (sb_cons (ss_setN (i := 1) m ev_int)
  (sb_cons (ss_for m (ei_seq (ev_var (i := 0))) (gt_tup m.calm (gts_cons (gt_name (i := 2) m.nd) (gts_cons (gt_name (i := 3) m.nd) gts_nil))) (sb_cons (ss_setN (i := 1) m (er_mul (ev_var (i := 1)) (ev_var (i := 3))).v)
  sb_nil))
  (sb_cons (ss_retB (ev_var (i := 1)).r)
  sb_nil)))
theorem sc__law_e : FnScope ["whole", "pairs", "many", ".0", "above", "below"] ["whole", "pairs"] (defScope st__law_e) := ⟨rfl, rfl, rfl, by decide +kernel, rfl, by decide +kernel, by decide +kernel⟩
theorem d__law_e (T : Txt K mg ca) (d__law_parts : Df P w K mg base (cD K ca Pd) 1 "_law_parts" st__law_parts ["pairs"] F__law_parts) : Df P w K mg base (cD K ca Pd) 2 "_law_e" st__law_e ["whole", "pairs"] F__law_e :=
  df_gen T.g__law_e T.f__law_e sc__law_e ⟨rfl, by decide, by decide⟩ fun cdv A outer s H E m =>
  (sb_cons (ss_setN (i := 2) m (er_call m d__law_parts (by decide) (by rfl) (fun _ _ _ _ _ _ us ws h1 h2 => match us, ws, h1, h2 with | [_], [], _, _ => rfl) (ea_cons (ev_var (i := 1)) ea_nil)).v)
  (sb_cons (ss_retB (ev_tup (ea_cons (er_add (er_mul (ev_var (i := 0)) (ev_var (i := 2))).v (er_sum m (by exact T.b_sum) (ea_cons (er_comp m (ei_seq (ev_var (i := 1))) (own := [(".0", 3), ("above", 4), ("below", 5)]) rfl (fun s H C cl fp => (gt_tup (m.blk).calm (gts_cons (gt_name (i := 4) (m.blk).nd) (gts_cons (gt_name (i := 5) (m.blk).nd) gts_nil)))) (fun s H C cl fp => ets_nil) (fun s H C cl fp => (er_mul (ev_var (i := 4)) (er_fd (ev_var (i := 2)) (ev_var (i := 5))).v).v)).v ea_nil)).v).v (ea_cons (ev_var (i := 2)) ea_nil))).r)
  sb_nil))
theorem sc__law_pick : FnScope ["draw", "some"] ["draw", "some"] (defScope st__law_pick) := ⟨rfl, rfl, rfl, by decide +kernel, rfl, by decide +kernel, by decide +kernel⟩
theorem d__law_pick (T : Txt K mg ca) (d__law_take : Df P w K mg base (cD K ca Pd) 2 "_law_take" st__law_take ["draw", "amount"] F__law_take) : Df P w K mg base (cD K ca Pd) 3 "_law_pick" st__law_pick ["draw", "some"] F__law_pick :=
  df_gen T.g__law_pick T.f__law_pick sc__law_pick ⟨rfl, by decide, by decide⟩ fun cdv A outer s H E m =>
  (sb_cons (ss_retB (er_ix (ev_var (i := 1)) (er_call m d__law_take (by decide) (by rfl) (fun _ _ _ _ _ _ us ws h1 h2 => match us, ws, h1, h2 with | [_, _], [], _, _ => rfl) (ea_cons (ev_var (i := 0)) (ea_cons (er_len (by rfl) (by exact T.b_len) (ea_cons (ev_var (i := 1)) ea_nil)).v ea_nil))).v))
  sb_nil)
theorem sc__law_lower : FnScope ["draw", "many", "most", "pairs", "number", "product", ".0", "lap"] ["draw", "many", "most"] (defScope st__law_lower) := ⟨rfl, rfl, rfl, by decide +kernel, rfl, by decide +kernel, by decide +kernel⟩
theorem d__law_lower (T : Txt K mg ca) (d__law_e : Df P w K mg base (cD K ca Pd) 2 "_law_e" st__law_e ["whole", "pairs"] F__law_e) (d__law_pair : Df P w K mg base (cD K ca Pd) 3 "_law_pair" st__law_pair ["draw", "most"] F__law_pair) (d__law_pick : Df P w K mg base (cD K ca Pd) 3 "_law_pick" st__law_pick ["draw", "some"] F__law_pick) (d__law_take : Df P w K mg base (cD K ca Pd) 2 "_law_take" st__law_take ["draw", "amount"] F__law_take) : Df P w K mg base (cD K ca Pd) 4 "_law_lower" st__law_lower ["draw", "many", "most"] F__law_lower :=
  df_gen T.g__law_lower T.f__law_lower sc__law_lower ⟨rfl, by decide, by decide⟩ fun cdv A outer s H E m =>
  (sb_cons (ss_setN (i := 3) m (er_tupleOf m (by exact T.b_tuple) (ea_cons (er_comp m (ei_rng1 (by rfl) (by exact T.b_range) (ea_cons (er_call m d__law_take (by decide) (by rfl) (fun _ _ _ _ _ _ us ws h1 h2 => match us, ws, h1, h2 with | [_, _], [], _, _ => rfl) (ea_cons (ev_var (i := 0)) (ea_cons (er_add (ev_var (i := 1)) ev_int).v ea_nil))).v ea_nil)) (own := [(".0", 6), ("lap", 7)]) rfl (fun s H C cl fp => (gt_name (i := 7) (m.blk).nd)) (fun s H C cl fp => ets_nil) (fun s H C cl fp => (er_call (m.blk) d__law_pair (by decide) (by rfl) (fun _ _ _ _ _ _ us ws h1 h2 => match us, ws, h1, h2 with | [_, _], [], _, _ => rfl) (ea_cons (ev_var (i := 0)) (ea_cons (ev_var (i := 2)) ea_nil))).v)).v ea_nil)).v)
  (sb_cons (ss_asgN (er_call m d__law_e (by decide) (by rfl) (fun _ _ _ _ _ _ us ws h1 h2 => match us, ws, h1, h2 with | [_, _], [], _, _ => rfl) (ea_cons ev_int (ea_cons (ev_var (i := 3)) ea_nil))).v (gt_tup m.calm (gts_cons (gt_name (i := 4) m.nd) (gts_cons (gt_name (i := 5) m.nd) gts_nil))))
  (sb_cons (ss_retB (ev_tup (ea_cons (er_sub (er_sub (er_sub ev_int (er_fd (ev_var (i := 4)) (ev_var (i := 5))).v).v ev_int).v (er_call m d__law_pick (by decide) (by rfl) (fun _ _ _ _ _ _ us ws h1 h2 => match us, ws, h1, h2 with | [_, _], [], _, _ => rfl) (ea_cons (ev_var (i := 0)) (ea_cons (er_lst (ea_cons ev_int (ea_cons ev_int (ea_cons ev_int (ea_cons ev_int (ea_cons ev_int ea_nil)))))).v ea_nil))).v).v (ea_cons (ev_var (i := 3)) ea_nil))).r)
  sb_nil)))
theorem sc__law_span : FnScope ["whole", "pairs", "number", "many"] ["whole", "pairs"] (defScope st__law_span) := ⟨rfl, rfl, rfl, by decide +kernel, rfl, by decide +kernel, by decide +kernel⟩
theorem d__law_span (T : Txt K mg ca) (d__law_e : Df P w K mg base (cD K ca Pd) 2 "_law_e" st__law_e ["whole", "pairs"] F__law_e) : Df P w K mg base (cD K ca Pd) 3 "_law_span" st__law_span ["whole", "pairs"] F__law_span :=
  df_gen T.g__law_span T.f__law_span sc__law_span ⟨rfl, by decide, by decide⟩ fun cdv A outer s H E m =>
  (sb_cons (ss_asgN (er_call m d__law_e (by decide) (by rfl) (fun _ _ _ _ _ _ us ws h1 h2 => match us, ws, h1, h2 with | [_, _], [], _, _ => rfl) (ea_cons (ev_var (i := 0)) (ea_cons (ev_var (i := 1)) ea_nil))).v (gt_tup m.calm (gts_cons (gt_name (i := 2) m.nd) (gts_cons (gt_name (i := 3) m.nd) gts_nil))))
  (sb_cons (ss_retB (er_fd (er_sub (er_sub (er_mul (er_add (er_len (by rfl) (by exact T.b_len) (ea_cons (ev_var (i := 1)) ea_nil)).v ev_int).v (ev_var (i := 3))).v (ev_var (i := 2))).v ev_int).v (er_sub ev_int (ev_var (i := 2))).v))
  sb_nil))
theorem sc__law_narrow : FnScope ["draw", "many", "most", "wide", "lap", "whole", "pairs"] ["draw", "many", "most", "wide"] (defScope st__law_narrow) := ⟨rfl, rfl, rfl, by decide +kernel, rfl, by decide +kernel, by decide +kernel⟩
theorem d__law_narrow (T : Txt K mg ca) (d__law_e : Df P w K mg base (cD K ca Pd) 2 "_law_e" st__law_e ["whole", "pairs"] F__law_e) (d__law_lower : Df P w K mg base (cD K ca Pd) 4 "_law_lower" st__law_lower ["draw", "many", "most"] F__law_lower) (d__law_span : Df P w K mg base (cD K ca Pd) 3 "_law_span" st__law_span ["whole", "pairs"] F__law_span) : Df P w K mg base (cD K ca Pd) 5 "_law_narrow" st__law_narrow ["draw", "many", "most", "wide"] F__law_narrow :=
  df_gen T.g__law_narrow T.f__law_narrow sc__law_narrow ⟨rfl, by decide, by decide⟩ fun cdv A outer s H E m =>
  (sb_cons (ss_for m (ei_rng1 (by rfl) (by exact T.b_range) (ea_cons ev_int ea_nil)) (gt_name (i := 4) m.nd) (sb_cons (ss_asgN (er_call m d__law_lower (by decide) (by rfl) (fun _ _ _ _ _ _ us ws h1 h2 => match us, ws, h1, h2 with | [_, _, _], [], _, _ => rfl) (ea_cons (ev_var (i := 0)) (ea_cons (ev_var (i := 1)) (ea_cons (ev_var (i := 2)) ea_nil)))).v (gt_tup m.calm (gts_cons (gt_name (i := 5) m.nd) (gts_cons (gt_name (i := 6) m.nd) gts_nil))))
  (sb_cons (ss_if (eb_w (ew_and (eb_le (er_call m d__law_span (by decide) (by rfl) (fun _ _ _ _ _ _ us ws h1 h2 => match us, ws, h1, h2 with | [_, _], [], _, _ => rfl) (ea_cons (ev_var (i := 5)) (ea_cons (ev_var (i := 6)) ea_nil))).v (ev_var (i := 3))) (ew_and1 (eb_le (er_abs m (by exact T.b_abs) (ea_cons (er_ix (er_call m d__law_e (by decide) (by rfl) (fun _ _ _ _ _ _ us ws h1 h2 => match us, ws, h1, h2 with | [_, _], [], _, _ => rfl) (ea_cons (ev_var (i := 5)) (ea_cons (ev_var (i := 6)) ea_nil))).v ev_int).v ea_nil)).v (ev_var (i := 3)))))) (sb_cons (ss_retB (ev_tup (ea_cons (ev_var (i := 5)) (ea_cons (ev_var (i := 6)) ea_nil))).r)
  sb_nil) sb_nil)
  sb_nil)))
  (sb_cons (ss_retB (ev_tup (ea_cons (ev_neg ev_int) (ea_cons (ev_tup (ea_cons (ev_tup (ea_cons ev_int (ea_cons ev_int ea_nil))) (ea_cons (ev_tup (ea_cons ev_int (ea_cons ev_int ea_nil))) (ea_cons (ev_tup (ea_cons ev_int (ea_cons ev_int ea_nil))) ea_nil)))) ea_nil))).r)
  sb_nil))
theorem sc_is_list : FnScope ["thing"] ["thing"] (defScope st_is_list) := ⟨rfl, rfl, rfl, by decide +kernel, rfl, by decide +kernel, by decide +kernel⟩
theorem d_is_list (T : Txt K mg ca)  : Df P w K mg base (cD K ca Pd) 1 "is_list" st_is_list ["thing"] F_is_list :=
  df_gen T.g_is_list T.f_is_list sc_is_list ⟨rfl, by decide, by decide⟩ fun cdv A outer s H E m =>
  (sb_cons (ss_retB (er_isi m (by exact T.kt) (by exact T.b_isinstance) (ea_cons (ev_var (i := 0)) (ea_cons (ev_tup (ea_cons (ev_ty (T := "list") (by rfl) (by exact T.b_list) (by decide +kernel)) (ea_cons (ev_ty (T := "tuple") (by rfl) (by exact T.b_tuple) (by decide +kernel)) ea_nil))) ea_nil))))
  sb_nil)
theorem sc_is_tuple : FnScope ["thing", "size"] ["thing", "size"] (defScope st_is_tuple) := ⟨rfl, rfl, rfl, by decide +kernel, rfl, by decide +kernel, by decide +kernel⟩
theorem d_is_tuple (T : Txt K mg ca)  : Df P w K mg base (cD K ca Pd) 1 "is_tuple" st_is_tuple ["thing", "size"] F_is_tuple :=
  df_gen T.g_is_tuple T.f_is_tuple sc_is_tuple ⟨rfl, by decide, by decide⟩ fun cdv A outer s H E m =>
  (sb_cons (ss_retB (ev_and (er_isi m (by exact T.kt) (by exact T.b_isinstance) (ea_cons (ev_var (i := 0)) (ea_cons (ev_ty (T := "tuple") (by rfl) (by exact T.b_tuple) (by decide +kernel)) ea_nil))).v (ev_one (ev_eq m.hu (er_len (by rfl) (by exact T.b_len) (ea_cons (ev_var (i := 0)) ea_nil)).v (ev_var (i := 1))))).r)
  sb_nil)
theorem sc_is_number : FnScope ["thing"] ["thing"] (defScope st_is_number) := ⟨rfl, rfl, rfl, by decide +kernel, rfl, by decide +kernel, by decide +kernel⟩
theorem d_is_number (T : Txt K mg ca)  : Df P w K mg base (cD K ca Pd) 1 "is_number" st_is_number ["thing"] F_is_number :=
  df_gen T.g_is_number T.f_is_number sc_is_number ⟨rfl, by decide, by decide⟩ fun cdv A outer s H E m =>
  (sb_cons (ss_retB (ev_and (er_isi m (by exact T.kt) (by exact T.b_isinstance) (ea_cons (ev_var (i := 0)) (ea_cons (ev_ty (T := "int") (by rfl) (by exact T.b_int) (by decide +kernel)) ea_nil))).v (ev_one (ev_not (er_isi m (by exact T.kt) (by exact T.b_isinstance) (ea_cons (ev_var (i := 0)) (ea_cons (ev_ty (T := "bool") (by rfl) (by exact T.b_bool) (by decide +kernel)) ea_nil))).v))).r)
  sb_nil)
theorem sc_is_number_pair : FnScope ["thing"] ["thing"] (defScope st_is_number_pair) := ⟨rfl, rfl, rfl, by decide +kernel, rfl, by decide +kernel, by decide +kernel⟩
theorem d_is_number_pair (T : Txt K mg ca) (d_is_number : Df P w K mg base (cD K ca Pd) 1 "is_number" st_is_number ["thing"] F_is_number) (d_is_tuple : Df P w K mg base (cD K ca Pd) 1 "is_tuple" st_is_tuple ["thing", "size"] F_is_tuple) : Df P w K mg base (cD K ca Pd) 2 "is_number_pair" st_is_number_pair ["thing"] F_is_number_pair :=
  df_gen T.g_is_number_pair T.f_is_number_pair sc_is_number_pair ⟨rfl, by decide, by decide⟩ fun cdv A outer s H E m =>
  (sb_cons (ss_if (eb_w (ew_or (eb_not (eb_tru (er_call m d_is_tuple (by decide) (by rfl) (fun _ _ _ _ _ _ us ws h1 h2 => match us, ws, h1, h2 with | [_, _], [], _, _ => rfl) (ea_cons (ev_var (i := 0)) (ea_cons ev_int ea_nil))).v)) (ew_or (eb_not (eb_tru (er_call m d_is_number (by decide) (by rfl) (fun _ _ _ _ _ _ us ws h1 h2 => match us, ws, h1, h2 with | [_], [], _, _ => rfl) (ea_cons (er_ix (ev_var (i := 0)) ev_int).v ea_nil)).v)) (ew_or1 (eb_not (eb_tru (er_call m d_is_number (by decide) (by rfl) (fun _ _ _ _ _ _ us ws h1 h2 => match us, ws, h1, h2 with | [_], [], _, _ => rfl) (ea_cons (er_ix (ev_var (i := 0)) ev_int).v ea_nil)).v)))))) (sb_cons (ss_retB (ev_bl).r)
  sb_nil) sb_nil)
  (sb_cons (ss_retB (ev_and (ev_ltlt ev_int (er_ix (ev_var (i := 0)) ev_int).v (er_ix (ev_var (i := 0)) ev_int).v) (ev_one (ev_eq m.hu (er_gcd m (by exact T.m_gcd) (ea_cons (er_ix (ev_var (i := 0)) ev_int).v (ea_cons (er_ix (ev_var (i := 0)) ev_int).v ea_nil))).v ev_int))).r)
  sb_nil))
theorem sc_are_pairs : FnScope ["thing", ".0", "item"] ["thing"] (defScope st_are_pairs) := ⟨rfl, rfl, rfl, by decide +kernel, rfl, by decide +kernel, by decide +kernel⟩
theorem d_are_pairs (T : Txt K mg ca) (d_is_list : Df P w K mg base (cD K ca Pd) 1 "is_list" st_is_list ["thing"] F_is_list) (d_is_number_pair : Df P w K mg base (cD K ca Pd) 2 "is_number_pair" st_is_number_pair ["thing"] F_is_number_pair) : Df P w K mg base (cD K ca Pd) 3 "are_pairs" st_are_pairs ["thing"] F_are_pairs :=
  df_gen T.g_are_pairs T.f_are_pairs sc_are_pairs ⟨rfl, by decide, by decide⟩ fun cdv A outer s H E m =>
  (sb_cons (ss_if (eb_w (ew_or (eb_not (eb_tru (er_call m d_is_list (by decide) (by rfl) (fun _ _ _ _ _ _ us ws h1 h2 => match us, ws, h1, h2 with | [_], [], _, _ => rfl) (ea_cons (ev_var (i := 0)) ea_nil)).v)) (ew_or1 (eb_gt (er_len (by rfl) (by exact T.b_len) (ea_cons (ev_var (i := 0)) ea_nil)).v (ev_glI (by rfl) (by exact T.i_MOST_PAIRS)))))) (sb_cons (ss_retB (ev_bl).r)
  sb_nil) sb_nil)
  (sb_cons (ss_retB (er_all m (by exact T.b_all) (ea_cons (er_comp m (ei_seq (ev_var (i := 0))) (own := [(".0", 1), ("item", 2)]) rfl (fun s H C cl fp => (gt_name (i := 2) (m.blk).nd)) (fun s H C cl fp => ets_nil) (fun s H C cl fp => (ev_and (er_call (m.blk) d_is_number_pair (by decide) (by rfl) (fun _ _ _ _ _ _ us ws h1 h2 => match us, ws, h1, h2 with | [_], [], _, _ => rfl) (ea_cons (ev_var (i := 2)) ea_nil)).v (ev_one (ev_le (er_ix (ev_var (i := 2)) ev_int).v (ev_glI (by rfl) (by exact T.i_MOST_PART))))))).v ea_nil)))
  sb_nil))
theorem sc_is_between : FnScope ["thing", "low", "high"] ["thing", "low", "high"] (defScope st_is_between) := ⟨rfl, rfl, rfl, by decide +kernel, rfl, by decide +kernel, by decide +kernel⟩
theorem d_is_between (T : Txt K mg ca) (d_is_number : Df P w K mg base (cD K ca Pd) 1 "is_number" st_is_number ["thing"] F_is_number) : Df P w K mg base (cD K ca Pd) 2 "is_between" st_is_between ["thing", "low", "high"] F_is_between :=
  df_gen T.g_is_between T.f_is_between sc_is_between ⟨rfl, by decide, by decide⟩ fun cdv A outer s H E m =>
  (sb_cons (ss_retB (ev_and (er_call m d_is_number (by decide) (by rfl) (fun _ _ _ _ _ _ us ws h1 h2 => match us, ws, h1, h2 with | [_], [], _, _ => rfl) (ea_cons (ev_var (i := 0)) ea_nil)).v (ev_one (ev_lele (ev_var (i := 1)) (ev_var (i := 0)) (ev_var (i := 2))))).r)
  sb_nil)
theorem sc_Stream : FnScope ["self", "whole", "pairs"] ["self", "whole", "pairs"] (defScope st_Stream) := ⟨rfl, rfl, rfl, by decide +kernel, rfl, by decide +kernel, by decide +kernel⟩
theorem oc_Stream (T : Txt K mg ca) (fs : List (Str × D)) (h : fs.map (·.1) = (["whole", "pairs"] : List Str)) : OwnC K (ca "Stream") (fs.map (·.1)) := ⟨T.cl_Stream, T.ha_Stream, T.hn, T.htk, T.hm_Stream, by
  rw [h]
  intro f hf
  simp only [List.mem_cons, List.mem_nil_iff, or_false] at hf
  rcases hf with rfl | rfl
  · exact T.na_Stream_whole
  · exact T.na_Stream_pairs⟩
theorem d_Stream (T : Txt K mg ca) (d_are_pairs : Df P w K mg base (cD K ca Pd) 3 "are_pairs" st_are_pairs ["thing"] F_are_pairs) (d_is_between : Df P w K mg base (cD K ca Pd) 2 "is_between" st_is_between ["thing", "low", "high"] F_is_between) : Dm P w K mg base (cD K ca Pd) 4 "Stream" "Stream.__init__" st_Stream ["whole", "pairs"] F_Stream :=
  dm_gen T.g_Stream T.f_Stream sc_Stream ⟨rfl, by decide, by decide⟩ (oc_Stream T) fun fI cdv A outer s H E m =>
  (ib_cons (ss_if (eb_not (eb_tru (er_call m d_are_pairs (by decide) (by rfl) (fun _ _ _ _ _ _ us ws h1 h2 => match us, ws, h1, h2 with | [_], [], _, _ => rfl) (ea_cons (ev_var (i := 2)) ea_nil)).v)) (sb_cons ss_never
  sb_nil) sb_nil) (ib_cons (ss_if (eb_not (eb_tru (er_call m d_is_between (by decide) (by rfl) (fun _ _ _ _ _ _ us ws h1 h2 => match us, ws, h1, h2 with | [_, _, _], [], _, _ => rfl) (ea_cons (ev_var (i := 1)) (ea_cons (er_sub (er_sub ev_int (ev_glI (by rfl) (by exact T.i_MOST_WHOLE))).v (er_len (by rfl) (by exact T.b_len) (ea_cons (ev_var (i := 2)) ea_nil)).v).v (ea_cons (ev_glI (by rfl) (by exact T.i_MOST_WHOLE)) ea_nil)))).v)) (sb_cons ss_never
  sb_nil) sb_nil) (ib_flds (if_cons T.cl_Stream T.na_Stream_whole (pv 0) (ev_var (i := 1)) (if_cons T.cl_Stream T.na_Stream_pairs (pv 0) (er_tupleOf m (by exact T.b_tuple) (ea_cons (ev_var (i := 2)) ea_nil)).v if_nil)))))
theorem sc__law_vector : FnScope ["draw", "pairs", "most", ".0", "lap"] ["draw", "pairs", "most"] (defScope st__law_vector) := ⟨rfl, rfl, rfl, by decide +kernel, rfl, by decide +kernel, by decide +kernel⟩
theorem d__law_vector (T : Txt K mg ca) (d__law_take : Df P w K mg base (cD K ca Pd) 2 "_law_take" st__law_take ["draw", "amount"] F__law_take) : Df P w K mg base (cD K ca Pd) 3 "_law_vector" st__law_vector ["draw", "pairs", "most"] F__law_vector :=
  df_gen T.g__law_vector T.f__law_vector sc__law_vector ⟨rfl, by decide, by decide⟩ fun cdv A outer s H E m =>
  (sb_cons (ss_retB (er_tupleOf m (by exact T.b_tuple) (ea_cons (er_comp m (ei_rng1 (by rfl) (by exact T.b_range) (ea_cons (er_add (er_len (by rfl) (by exact T.b_len) (ea_cons (ev_var (i := 1)) ea_nil)).v ev_int).v ea_nil)) (own := [(".0", 3), ("lap", 4)]) rfl (fun s H C cl fp => (gt_name (i := 4) (m.blk).nd)) (fun s H C cl fp => ets_nil) (fun s H C cl fp => (er_sub (er_call (m.blk) d__law_take (by decide) (by rfl) (fun _ _ _ _ _ _ us ws h1 h2 => match us, ws, h1, h2 with | [_, _], [], _, _ => rfl) (ea_cons (ev_var (i := 0)) (ea_cons (er_add (er_mul ev_int (ev_var (i := 2))).v ev_int).v ea_nil))).v (ev_var (i := 2))).v)).v ea_nil)))
  sb_nil)
theorem sc__law_count : FnScope ["whole", "pairs", "vector", "n", ".0", "item", "above", "below"] ["whole", "pairs", "vector", "n"] (defScope st__law_count) := ⟨rfl, rfl, rfl, by decide +kernel, rfl, by decide +kernel, by decide +kernel⟩
theorem d__law_count (T : Txt K mg ca)  : Df P w K mg base (cD K ca Pd) 1 "_law_count" st__law_count ["whole", "pairs", "vector", "n"] F__law_count :=
  df_gen T.g__law_count T.f__law_count sc__law_count ⟨rfl, by decide, by decide⟩ fun cdv A outer s H E m =>
  (sb_cons (ss_retB (er_add (er_sub (er_add ev_int (er_ix (ev_var (i := 2)) ev_int).v).v (er_mul (ev_var (i := 0)) (ev_var (i := 3))).v).v (er_sum m (by exact T.b_sum) (ea_cons (er_comp m (ei_zip (by rfl) (by exact T.b_zip) (ea_cons (er_cut (ev_var (i := 2)) (eo_some ev_int) eo_none).v (ea_cons (ev_var (i := 1)) ea_nil))) (own := [(".0", 4), ("item", 5), ("above", 6), ("below", 7)]) rfl (fun s H C cl fp => (gt_tup (m.blk).calm (gts_cons (gt_name (i := 5) (m.blk).nd) (gts_cons (gt_tup (m.blk).calm (gts_cons (gt_name (i := 6) (m.blk).nd) (gts_cons (gt_name (i := 7) (m.blk).nd) gts_nil))) gts_nil)))) (fun s H C cl fp => ets_nil) (fun s H C cl fp => (er_fd (er_sub (ev_var (i := 5)) (er_mul (ev_var (i := 3)) (ev_var (i := 6))).v).v (ev_var (i := 7))).v)).v ea_nil)).v))
  sb_nil)
theorem sc__law_first_above : FnScope ["whole", "pairs", "vector", "number", "many", "place", ".0", "item", "above", "below"] ["whole", "pairs", "vector"] (defScope st__law_first_above) := ⟨rfl, rfl, rfl, by decide +kernel, rfl, by decide +kernel, by decide +kernel⟩
theorem d__law_first_above (T : Txt K mg ca) (d__law_count : Df P w K mg base (cD K ca Pd) 1 "_law_count" st__law_count ["whole", "pairs", "vector", "n"] F__law_count) (d__law_e : Df P w K mg base (cD K ca Pd) 2 "_law_e" st__law_e ["whole", "pairs"] F__law_e) : Df P w K mg base (cD K ca Pd) 3 "_law_first_above" st__law_first_above ["whole", "pairs", "vector"] F__law_first_above :=
  df_gen T.g__law_first_above T.f__law_first_above sc__law_first_above ⟨rfl, by decide, by decide⟩ fun cdv A outer s H E m =>
  (sb_cons (ss_asgN (er_call m d__law_e (by decide) (by rfl) (fun _ _ _ _ _ _ us ws h1 h2 => match us, ws, h1, h2 with | [_, _], [], _, _ => rfl) (ea_cons (ev_var (i := 0)) (ea_cons (ev_var (i := 1)) ea_nil))).v (gt_tup m.calm (gts_cons (gt_name (i := 3) m.nd) (gts_cons (gt_name (i := 4) m.nd) gts_nil))))
  (sb_cons (ss_setN (i := 5) m (er_sub ev_int (er_add (er_mul (er_add ev_int (er_ix (ev_var (i := 2)) ev_int).v).v (ev_var (i := 4))).v (er_sum m (by exact T.b_sum) (ea_cons (er_comp m (ei_zip (by rfl) (by exact T.b_zip) (ea_cons (er_cut (ev_var (i := 2)) (eo_some ev_int) eo_none).v (ea_cons (ev_var (i := 1)) ea_nil))) (own := [(".0", 6), ("item", 7), ("above", 8), ("below", 9)]) rfl (fun s H C cl fp => (gt_tup (m.blk).calm (gts_cons (gt_name (i := 7) (m.blk).nd) (gts_cons (gt_tup (m.blk).calm (gts_cons (gt_name (i := 8) (m.blk).nd) (gts_cons (gt_name (i := 9) (m.blk).nd) gts_nil))) gts_nil)))) (fun s H C cl fp => ets_nil) (fun s H C cl fp => (er_mul (ev_var (i := 7)) (er_fd (ev_var (i := 4)) (ev_var (i := 9))).v).v)).v ea_nil)).v).v).v)
  (sb_cons (ss_setN (i := 5) m (er_fd (ev_var (i := 5)) (er_sub ev_int (ev_var (i := 3))).v).v)
  (sb_cons (ss_while m (eb_le (er_call m d__law_count (by decide) (by rfl) (fun _ _ _ _ _ _ us ws h1 h2 => match us, ws, h1, h2 with | [_, _, _, _], [], _, _ => rfl) (ea_cons (ev_var (i := 0)) (ea_cons (ev_var (i := 1)) (ea_cons (ev_var (i := 2)) (ea_cons (ev_var (i := 5)) ea_nil))))).v ev_int) (sb_cons (ss_setN (i := 5) m (er_add (ev_var (i := 5)) ev_int).v)
  sb_nil))
  (sb_cons (ss_retB (ev_var (i := 5)).r)
  sb_nil)))))
theorem sc__law_reduced : FnScope ["pairs", "vector", "first", "found", "item", "above", "below"] ["pairs", "vector"] (defScope st__law_reduced) := ⟨rfl, rfl, rfl, by decide +kernel, rfl, by decide +kernel, by decide +kernel⟩
theorem d__law_reduced (T : Txt K mg ca)  : Df P w K mg base (cD K ca Pd) 1 "_law_reduced" st__law_reduced ["pairs", "vector"] F__law_reduced :=
  df_gen T.g__law_reduced T.f__law_reduced sc__law_reduced ⟨rfl, by decide, by decide⟩ fun cdv A outer s H E m =>
  (sb_cons (ss_parN (i := 2) (l := 3) (oi := false) (ol := true) m (er_ix (ev_var (i := 1)) ev_int) (er_lst ea_nil))
  (sb_cons (ss_for m (ei_zip (by rfl) (by exact T.b_zip) (ea_cons (er_cut (ev_var (i := 1)) (eo_some ev_int) eo_none).v (ea_cons (ev_var (i := 0)) ea_nil))) (gt_tup m.calm (gts_cons (gt_name (i := 4) m.nd) (gts_cons (gt_tup m.calm (gts_cons (gt_name (i := 5) m.nd) (gts_cons (gt_name (i := 6) m.nd) gts_nil))) gts_nil))) (sb_cons (ss_setN (i := 2) m (er_add (ev_var (i := 2)) (er_fd (ev_var (i := 4)) (ev_var (i := 6))).v).v)
  (sb_cons (ss_appN (i := 3) (he := (er_md (er_int m (by exact T.b_int) (ea_cons (ev_var (i := 4)) ea_nil)).v (ev_var (i := 6))).v))
  sb_nil)))
  (sb_cons (ss_retB (er_add (ev_tup (ea_cons (ev_var (i := 2)) ea_nil)) (er_tupleOf m (by exact T.b_tuple) (ea_cons (ev_var (i := 3)) ea_nil)).v))
  sb_nil)))
theorem sc__law_normal : FnScope ["whole", "pairs", "vector", "place", "later_v", ".0", "item", "above", "below"] ["whole", "pairs", "vector"] (defScope st__law_normal) := ⟨rfl, rfl, rfl, by decide +kernel, rfl, by decide +kernel, by decide +kernel⟩
theorem d__law_normal (T : Txt K mg ca) (d__law_first_above : Df P w K mg base (cD K ca Pd) 3 "_law_first_above" st__law_first_above ["whole", "pairs", "vector"] F__law_first_above) (d__law_reduced : Df P w K mg base (cD K ca Pd) 1 "_law_reduced" st__law_reduced ["pairs", "vector"] F__law_reduced) : Df P w K mg base (cD K ca Pd) 4 "_law_normal" st__law_normal ["whole", "pairs", "vector"] F__law_normal :=
  df_gen T.g__law_normal T.f__law_normal sc__law_normal ⟨rfl, by decide, by decide⟩ fun cdv A outer s H E m =>
  (sb_cons (ss_setN (i := 3) m (er_call m d__law_first_above (by decide) (by rfl) (fun _ _ _ _ _ _ us ws h1 h2 => match us, ws, h1, h2 with | [_, _, _], [], _, _ => rfl) (ea_cons (ev_var (i := 0)) (ea_cons (ev_var (i := 1)) (ea_cons (ev_var (i := 2)) ea_nil)))).v)
  (sb_cons (ss_setN (i := 4) m (er_add (er_lst (ea_cons (er_sub (er_ix (ev_var (i := 2)) ev_int).v (er_mul (ev_var (i := 3)) (ev_var (i := 0))).v).v ea_nil)).v (er_comp m (ei_zip (by rfl) (by exact T.b_zip) (ea_cons (er_cut (ev_var (i := 2)) (eo_some ev_int) eo_none).v (ea_cons (ev_var (i := 1)) ea_nil))) (own := [(".0", 5), ("item", 6), ("above", 7), ("below", 8)]) rfl (fun s H C cl fp => (gt_tup (m.blk).calm (gts_cons (gt_name (i := 6) (m.blk).nd) (gts_cons (gt_tup (m.blk).calm (gts_cons (gt_name (i := 7) (m.blk).nd) (gts_cons (gt_name (i := 8) (m.blk).nd) gts_nil))) gts_nil)))) (fun s H C cl fp => ets_nil) (fun s H C cl fp => (er_sub (ev_var (i := 6)) (er_mul (ev_var (i := 3)) (ev_var (i := 7))).v).v)).v).v)
  (sb_cons (ss_retB (er_call m d__law_reduced (by decide) (by rfl) (fun _ _ _ _ _ _ us ws h1 h2 => match us, ws, h1, h2 with | [_, _], [], _, _ => rfl) (ea_cons (ev_var (i := 1)) (ea_cons (ev_var (i := 4)) ea_nil))))
  sb_nil)))
theorem sc__law_says : FnScope ["told_here", "due"] ["told_here", "due"] (defScope st__law_says) := ⟨rfl, rfl, rfl, by decide +kernel, rfl, by decide +kernel, by decide +kernel⟩
theorem d__law_says (T : Txt K mg ca)  : Df P w K mg base (cD K ca Pd) 1 "_law_says" st__law_says ["told_here", "due"] F__law_says :=
  df_gen T.g__law_says T.f__law_says sc__law_says ⟨rfl, by decide, by decide⟩ fun cdv A outer s H E m =>
  (sb_cons (ss_retB (ev_eqS (er_reprOf m (by exact T.b_repr) (ea_cons (ev_var (i := 0)) ea_nil)).v (er_reprOf m (by exact T.b_repr) (ea_cons (ev_var (i := 1)) ea_nil)).v).r)
  sb_nil)
theorem sc_need_stream : FnScope ["thing"] ["thing"] (defScope st_need_stream) := ⟨rfl, rfl, rfl, by decide +kernel, rfl, by decide +kernel, by decide +kernel⟩
theorem d_need_stream (T : Txt K mg ca)  : Df P w K mg base (cD K ca Pd) 1 "need_stream" st_need_stream ["thing"] F_need_stream :=
  df_gen T.g_need_stream T.f_need_stream sc_need_stream ⟨rfl, by decide, by decide⟩ fun cdv A outer s H E m =>
  (sb_cons (ss_if (eb_not (eb_tru (er_isi m (by exact T.kt) (by exact T.b_isinstance) (ea_cons (ev_var (i := 0)) (ea_cons (ev_own (by rfl) (by exact T.g_Stream)) ea_nil))).v)) (sb_cons ss_never
  sb_nil) sb_nil)
  sb_nil)
theorem sc_least_ratio : FnScope ["above", "below", "divisor"] ["above", "below"] (defScope st_least_ratio) := ⟨rfl, rfl, rfl, by decide +kernel, rfl, by decide +kernel, by decide +kernel⟩
theorem d_least_ratio (T : Txt K mg ca)  : Df P w K mg base (cD K ca Pd) 1 "least_ratio" st_least_ratio ["above", "below"] F_least_ratio :=
  df_gen T.g_least_ratio T.f_least_ratio sc_least_ratio ⟨rfl, by decide, by decide⟩ fun cdv A outer s H E m =>
  (sb_cons (ss_setN (i := 2) m (er_if (eb_gt (ev_var (i := 1)) ev_int) (er_gcd m (by exact T.m_gcd) (ea_cons (ev_var (i := 0)) (ea_cons (ev_var (i := 1)) ea_nil))) (er_sub ev_int (er_gcd m (by exact T.m_gcd) (ea_cons (ev_var (i := 0)) (ea_cons (ev_var (i := 1)) ea_nil))).v)).v)
  (sb_cons (ss_retB (ev_tup (ea_cons (er_fd (ev_var (i := 0)) (ev_var (i := 2))).v (ea_cons (er_fd (ev_var (i := 1)) (ev_var (i := 2))).v ea_nil))).r)
  sb_nil))
theorem sc_ratio_plus : FnScope ["one", "other"] ["one", "other"] (defScope st_ratio_plus) := ⟨rfl, rfl, rfl, by decide +kernel, rfl, by decide +kernel, by decide +kernel⟩
theorem d_ratio_plus (T : Txt K mg ca) (d_least_ratio : Df P w K mg base (cD K ca Pd) 1 "least_ratio" st_least_ratio ["above", "below"] F_least_ratio) : Df P w K mg base (cD K ca Pd) 2 "ratio_plus" st_ratio_plus ["one", "other"] F_ratio_plus :=
  df_gen T.g_ratio_plus T.f_ratio_plus sc_ratio_plus ⟨rfl, by decide, by decide⟩ fun cdv A outer s H E m =>
  (sb_cons (ss_retB (er_call m d_least_ratio (by decide) (by rfl) (fun _ _ _ _ _ _ us ws h1 h2 => match us, ws, h1, h2 with | [_, _], [], _, _ => rfl) (ea_cons (er_add (er_mul (er_ix (ev_var (i := 0)) ev_int).v (er_ix (ev_var (i := 1)) ev_int).v).v (er_mul (er_ix (ev_var (i := 1)) ev_int).v (er_ix (ev_var (i := 0)) ev_int).v).v).v (ea_cons (er_mul (er_ix (ev_var (i := 0)) ev_int).v (er_ix (ev_var (i := 1)) ev_int).v).v ea_nil))))
  sb_nil)
theorem sc_e_of : FnScope ["stream", "found", "pair"] ["stream"] (defScope st_e_of) := ⟨rfl, rfl, rfl, by decide +kernel, rfl, by decide +kernel, by decide +kernel⟩
theorem d_e_of (T : Txt K mg ca) (d_need_stream : Df P w K mg base (cD K ca Pd) 1 "need_stream" st_need_stream ["thing"] F_need_stream) (d_ratio_plus : Df P w K mg base (cD K ca Pd) 2 "ratio_plus" st_ratio_plus ["one", "other"] F_ratio_plus) : Df P w K mg base (cD K ca Pd) 3 "e_of" st_e_of ["stream"] F_e_of :=
  df_gen T.g_e_of T.f_e_of sc_e_of ⟨rfl, by decide, by decide⟩ fun cdv A outer s H E m =>
  (sb_cons (ss_expr (er_call m d_need_stream (by decide) (by rfl) (fun _ _ _ _ _ _ us ws h1 h2 => match us, ws, h1, h2 with | [_], [], _, _ => rfl) (ea_cons (ev_var (i := 0)) ea_nil)).v)
  (sb_cons (ss_setN (i := 1) m (ev_tup (ea_cons (ev_fld (C := "Stream") (ev_var (i := 0))) (ea_cons ev_int ea_nil))))
  (sb_cons (ss_for m (ei_seq (ev_fld (C := "Stream") (ev_var (i := 0)))) (gt_name (i := 2) m.nd) (sb_cons (ss_setN (i := 1) m (er_call m d_ratio_plus (by decide) (by rfl) (fun _ _ _ _ _ _ us ws h1 h2 => match us, ws, h1, h2 with | [_, _], [], _, _ => rfl) (ea_cons (ev_var (i := 1)) (ea_cons (ev_var (i := 2)) ea_nil))).v)
  sb_nil))
  (sb_cons (ss_retB (ev_var (i := 1)).r)
  sb_nil))))
theorem sc_need_below : FnScope ["stream"] ["stream"] (defScope st_need_below) := ⟨rfl, rfl, rfl, by decide +kernel, rfl, by decide +kernel, by decide +kernel⟩
theorem d_need_below (T : Txt K mg ca) (d_e_of : Df P w K mg base (cD K ca Pd) 3 "e_of" st_e_of ["stream"] F_e_of) (d_need_stream : Df P w K mg base (cD K ca Pd) 1 "need_stream" st_need_stream ["thing"] F_need_stream) : Df P w K mg base (cD K ca Pd) 4 "need_below" st_need_below ["stream"] F_need_below :=
  df_gen T.g_need_below T.f_need_below sc_need_below ⟨rfl, by decide, by decide⟩ fun cdv A outer s H E m =>
  (sb_cons (ss_expr (er_call m d_need_stream (by decide) (by rfl) (fun _ _ _ _ _ _ us ws h1 h2 => match us, ws, h1, h2 with | [_], [], _, _ => rfl) (ea_cons (ev_var (i := 0)) ea_nil)).v)
  (sb_cons (ss_if (eb_ge (er_ix (er_call m d_e_of (by decide) (by rfl) (fun _ _ _ _ _ _ us ws h1 h2 => match us, ws, h1, h2 with | [_], [], _, _ => rfl) (ea_cons (ev_var (i := 0)) ea_nil)).v ev_int).v ev_int) (sb_cons ss_never
  sb_nil) sb_nil)
  sb_nil))
theorem sc_is_vector : FnScope ["stream", "thing", ".0", "item"] ["stream", "thing"] (defScope st_is_vector) := ⟨rfl, rfl, rfl, by decide +kernel, rfl, by decide +kernel, by decide +kernel⟩
theorem d_is_vector (T : Txt K mg ca) (d_is_between : Df P w K mg base (cD K ca Pd) 2 "is_between" st_is_between ["thing", "low", "high"] F_is_between) (d_is_tuple : Df P w K mg base (cD K ca Pd) 1 "is_tuple" st_is_tuple ["thing", "size"] F_is_tuple) : Df P w K mg base (cD K ca Pd) 3 "is_vector" st_is_vector ["stream", "thing"] F_is_vector :=
  df_gen T.g_is_vector T.f_is_vector sc_is_vector ⟨rfl, by decide, by decide⟩ fun cdv A outer s H E m =>
  (sb_cons (ss_if (eb_not (eb_tru (er_call m d_is_tuple (by decide) (by rfl) (fun _ _ _ _ _ _ us ws h1 h2 => match us, ws, h1, h2 with | [_, _], [], _, _ => rfl) (ea_cons (ev_var (i := 1)) (ea_cons (er_add (er_len (by rfl) (by exact T.b_len) (ea_cons (ev_fld (C := "Stream") (ev_var (i := 0))) ea_nil)).v ev_int).v ea_nil))).v)) (sb_cons (ss_retB (ev_bl).r)
  sb_nil) sb_nil)
  (sb_cons (ss_retB (er_all m (by exact T.b_all) (ea_cons (er_comp m (ei_seq (ev_var (i := 1))) (own := [(".0", 2), ("item", 3)]) rfl (fun s H C cl fp => (gt_name (i := 3) (m.blk).nd)) (fun s H C cl fp => ets_nil) (fun s H C cl fp => (er_call (m.blk) d_is_between (by decide) (by rfl) (fun _ _ _ _ _ _ us ws h1 h2 => match us, ws, h1, h2 with | [_, _, _], [], _, _ => rfl) (ea_cons (ev_var (i := 3)) (ea_cons (er_sub ev_int (ev_glI (by rfl) (by exact T.i_MOST_ITEM))).v (ea_cons (ev_glI (by rfl) (by exact T.i_MOST_ITEM)) ea_nil)))).v)).v ea_nil)))
  sb_nil))
theorem sc_need_vector : FnScope ["stream", "vector"] ["stream", "vector"] (defScope st_need_vector) := ⟨rfl, rfl, rfl, by decide +kernel, rfl, by decide +kernel, by decide +kernel⟩
theorem d_need_vector (T : Txt K mg ca) (d_is_vector : Df P w K mg base (cD K ca Pd) 3 "is_vector" st_is_vector ["stream", "thing"] F_is_vector) : Df P w K mg base (cD K ca Pd) 4 "need_vector" st_need_vector ["stream", "vector"] F_need_vector :=
  df_gen T.g_need_vector T.f_need_vector sc_need_vector ⟨rfl, by decide, by decide⟩ fun cdv A outer s H E m =>
  (sb_cons (ss_if (eb_not (eb_tru (er_call m d_is_vector (by decide) (by rfl) (fun _ _ _ _ _ _ us ws h1 h2 => match us, ws, h1, h2 with | [_, _], [], _, _ => rfl) (ea_cons (ev_var (i := 0)) (ea_cons (ev_var (i := 1)) ea_nil))).v)) (sb_cons ss_never
  sb_nil) sb_nil)
  sb_nil)
theorem sc_need_few : FnScope ["number", "most"] ["number", "most"] (defScope st_need_few) := ⟨rfl, rfl, rfl, by decide +kernel, rfl, by decide +kernel, by decide +kernel⟩
theorem d_need_few (T : Txt K mg ca)  : Df P w K mg base (cD K ca Pd) 1 "need_few" st_need_few ["number", "most"] F_need_few :=
  df_gen T.g_need_few T.f_need_few sc_need_few ⟨rfl, by decide, by decide⟩ fun cdv A outer s H E m =>
  (sb_cons (ss_if (eb_gt (ev_var (i := 0)) (ev_var (i := 1))) (sb_cons ss_never
  sb_nil) sb_nil)
  sb_nil)
theorem sc_span_of : FnScope ["stream", "above", "below"] ["stream"] (defScope st_span_of) := ⟨rfl, rfl, rfl, by decide +kernel, rfl, by decide +kernel, by decide +kernel⟩
theorem d_span_of (T : Txt K mg ca) (d_e_of : Df P w K mg base (cD K ca Pd) 3 "e_of" st_e_of ["stream"] F_e_of) : Df P w K mg base (cD K ca Pd) 4 "span_of" st_span_of ["stream"] F_span_of :=
  df_gen T.g_span_of T.f_span_of sc_span_of ⟨rfl, by decide, by decide⟩ fun cdv A outer s H E m =>
  (sb_cons (ss_asgN (er_call m d_e_of (by decide) (by rfl) (fun _ _ _ _ _ _ us ws h1 h2 => match us, ws, h1, h2 with | [_], [], _, _ => rfl) (ea_cons (ev_var (i := 0)) ea_nil)).v (gt_tup m.calm (gts_cons (gt_name (i := 1) m.nd) (gts_cons (gt_name (i := 2) m.nd) gts_nil))))
  (sb_cons (ss_retB (er_sub ev_int (er_fd (er_mul (er_add (er_len (by rfl) (by exact T.b_len) (ea_cons (ev_fld (C := "Stream") (ev_var (i := 0))) ea_nil)).v ev_int).v (ev_var (i := 2))).v (ev_var (i := 1))).v))
  sb_nil))
theorem sc_need_span : FnScope ["stream"] ["stream"] (defScope st_need_span) := ⟨rfl, rfl, rfl, by decide +kernel, rfl, by decide +kernel, by decide +kernel⟩
theorem d_need_span (T : Txt K mg ca) (d_need_few : Df P w K mg base (cD K ca Pd) 1 "need_few" st_need_few ["number", "most"] F_need_few) (d_span_of : Df P w K mg base (cD K ca Pd) 4 "span_of" st_span_of ["stream"] F_span_of) : Df P w K mg base (cD K ca Pd) 5 "need_span" st_need_span ["stream"] F_need_span :=
  df_gen T.g_need_span T.f_need_span sc_need_span ⟨rfl, by decide, by decide⟩ fun cdv A outer s H E m =>
  (sb_cons (ss_expr (er_call m d_need_few (by decide) (by rfl) (fun _ _ _ _ _ _ us ws h1 h2 => match us, ws, h1, h2 with | [_, _], [], _, _ => rfl) (ea_cons (er_call m d_span_of (by decide) (by rfl) (fun _ _ _ _ _ _ us ws h1 h2 => match us, ws, h1, h2 with | [_], [], _, _ => rfl) (ea_cons (ev_var (i := 0)) ea_nil)).v (ea_cons (ev_glI (by rfl) (by exact T.i_MOST_SPAN)) ea_nil))).v)
  sb_nil)
theorem sc_reduced : FnScope ["stream", "vector", "first", "rest", "w", "a", "item"] ["stream", "vector"] (defScope st_reduced) := ⟨rfl, rfl, rfl, by decide +kernel, rfl, by decide +kernel, by decide +kernel⟩
theorem d_reduced (T : Txt K mg ca)  : Df P w K mg base (cD K ca Pd) 1 "reduced" st_reduced ["stream", "vector"] F_reduced :=
  df_gen T.g_reduced T.f_reduced sc_reduced ⟨rfl, by decide, by decide⟩ fun cdv A outer s H E m =>
  (sb_cons (ss_parN (i := 2) (l := 3) (oi := false) (ol := true) m (er_ix (ev_var (i := 1)) ev_int) (er_lst ea_nil))
  (sb_cons (ss_for m (ei_zip (by rfl) (by exact T.b_zip) (ea_cons (ev_fld (C := "Stream") (ev_var (i := 0))) (ea_cons (er_cut (ev_var (i := 1)) (eo_some ev_int) eo_none).v ea_nil))) (gt_tup m.calm (gts_cons (gt_tup m.calm (gts_cons (gt_name (i := 4) m.nd) (gts_cons (gt_name (i := 5) m.nd) gts_nil))) (gts_cons (gt_name (i := 6) m.nd) gts_nil))) (sb_cons (ss_aug (i := 2) m ip_addC (er_fd (ev_var (i := 6)) (ev_var (i := 5))).v)
  (sb_cons (ss_appN (i := 3) (he := (er_md (ev_var (i := 6)) (ev_var (i := 5))).v))
  sb_nil)))
  (sb_cons (ss_retB (ev_tupS (eas_cons (ev_var (i := 2)) (eas_star (ev_var (i := 3)) (ea_nil).s))).r)
  sb_nil)))
theorem sc_count_in : FnScope ["stream", "vector", "n", "found", "w", "a", "item"] ["stream", "vector", "n"] (defScope st_count_in) := ⟨rfl, rfl, rfl, by decide +kernel, rfl, by decide +kernel, by decide +kernel⟩
theorem d_count_in (T : Txt K mg ca)  : Df P w K mg base (cD K ca Pd) 1 "count_in" st_count_in ["stream", "vector", "n"] F_count_in :=
  df_gen T.g_count_in T.f_count_in sc_count_in ⟨rfl, by decide, by decide⟩ fun cdv A outer s H E m =>
  (sb_cons (ss_setN (i := 3) m (er_sub (er_add ev_int (er_ix (ev_var (i := 1)) ev_int).v).v (er_mul (ev_fld (C := "Stream") (ev_var (i := 0))) (ev_var (i := 2))).v).v)
  (sb_cons (ss_for m (ei_zip (by rfl) (by exact T.b_zip) (ea_cons (ev_fld (C := "Stream") (ev_var (i := 0))) (ea_cons (er_cut (ev_var (i := 1)) (eo_some ev_int) eo_none).v ea_nil))) (gt_tup m.calm (gts_cons (gt_tup m.calm (gts_cons (gt_name (i := 4) m.nd) (gts_cons (gt_name (i := 5) m.nd) gts_nil))) (gts_cons (gt_name (i := 6) m.nd) gts_nil))) (sb_cons (ss_aug (i := 3) m ip_addC (er_fd (er_sub (ev_var (i := 6)) (er_mul (ev_var (i := 2)) (ev_var (i := 4))).v).v (ev_var (i := 5))).v)
  sb_nil))
  (sb_cons (ss_retB (ev_var (i := 3)).r)
  sb_nil)))
theorem sc_later : FnScope ["stream", "vector", "n", "rest", ".0", "w", "a", "item"] ["stream", "vector", "n"] (defScope st_later) := ⟨rfl, rfl, rfl, by decide +kernel, rfl, by decide +kernel, by decide +kernel⟩
theorem d_later (T : Txt K mg ca) (d_reduced : Df P w K mg base (cD K ca Pd) 1 "reduced" st_reduced ["stream", "vector"] F_reduced) : Df P w K mg base (cD K ca Pd) 2 "later" st_later ["stream", "vector", "n"] F_later :=
  df_gen T.g_later T.f_later sc_later ⟨rfl, by decide, by decide⟩ fun cdv A outer s H E m =>
  (sb_cons (ss_comp (i := 3) m (ei_zip (by rfl) (by exact T.b_zip) (ea_cons (ev_fld (C := "Stream") (ev_var (i := 0))) (ea_cons (er_cut (ev_var (i := 1)) (eo_some ev_int) eo_none).v ea_nil))) (own := [(".0", 4), ("w", 5), ("a", 6), ("item", 7)]) rfl (fun s H C cl fp => (gt_tup (m.blk).calm (gts_cons (gt_tup (m.blk).calm (gts_cons (gt_name (i := 5) (m.blk).nd) (gts_cons (gt_name (i := 6) (m.blk).nd) gts_nil))) (gts_cons (gt_name (i := 7) (m.blk).nd) gts_nil)))) (fun s H C cl fp => ets_nil) (fun s H C cl fp => (er_sub (ev_var (i := 7)) (er_mul (ev_var (i := 2)) (ev_var (i := 5))).v).v) (fun h => setR_ok (i := 3) h))
  (sb_cons (ss_retB (er_call m d_reduced (by decide) (by rfl) (fun _ _ _ _ _ _ us ws h1 h2 => match us, ws, h1, h2 with | [_, _], [], _, _ => rfl) (ea_cons (ev_var (i := 0)) (ea_cons (ev_tupS (eas_cons (er_sub (er_ix (ev_var (i := 1)) ev_int).v (er_mul (ev_var (i := 2)) (ev_fld (C := "Stream") (ev_var (i := 0)))).v).v (eas_star (ev_var (i := 3)) (ea_nil).s))) ea_nil))))
  sb_nil))
theorem sc_normal_in : FnScope ["stream", "vector", "above", "below", "n"] ["stream", "vector"] (defScope st_normal_in) := ⟨rfl, rfl, rfl, by decide +kernel, rfl, by decide +kernel, by decide +kernel⟩
theorem d_normal_in (T : Txt K mg ca) (d_count_in : Df P w K mg base (cD K ca Pd) 1 "count_in" st_count_in ["stream", "vector", "n"] F_count_in) (d_e_of : Df P w K mg base (cD K ca Pd) 3 "e_of" st_e_of ["stream"] F_e_of) (d_later : Df P w K mg base (cD K ca Pd) 2 "later" st_later ["stream", "vector", "n"] F_later) (d_reduced : Df P w K mg base (cD K ca Pd) 1 "reduced" st_reduced ["stream", "vector"] F_reduced) : Df P w K mg base (cD K ca Pd) 4 "normal_in" st_normal_in ["stream", "vector"] F_normal_in :=
  df_gen T.g_normal_in T.f_normal_in sc_normal_in ⟨rfl, by decide, by decide⟩ fun cdv A outer s H E m =>
  (sb_cons (ss_asgN (er_call m d_e_of (by decide) (by rfl) (fun _ _ _ _ _ _ us ws h1 h2 => match us, ws, h1, h2 with | [_], [], _, _ => rfl) (ea_cons (ev_var (i := 0)) ea_nil)).v (gt_tup m.calm (gts_cons (gt_name (i := 2) m.nd) (gts_cons (gt_name (i := 3) m.nd) gts_nil))))
  (sb_cons (ss_setN (i := 1) m (er_call m d_reduced (by decide) (by rfl) (fun _ _ _ _ _ _ us ws h1 h2 => match us, ws, h1, h2 with | [_, _], [], _, _ => rfl) (ea_cons (ev_var (i := 0)) (ea_cons (ev_var (i := 1)) ea_nil))).v)
  (sb_cons (ss_setN (i := 4) m (er_sub (er_fd (er_mul (er_add (er_add ev_int (er_ix (ev_var (i := 1)) ev_int).v).v (er_len (by rfl) (by exact T.b_len) (ea_cons (ev_fld (C := "Stream") (ev_var (i := 0))) ea_nil)).v).v (ev_var (i := 3))).v (ev_var (i := 2))).v ev_int).v)
  (sb_cons (ss_while m (eb_le (er_call m d_count_in (by decide) (by rfl) (fun _ _ _ _ _ _ us ws h1 h2 => match us, ws, h1, h2 with | [_, _, _], [], _, _ => rfl) (ea_cons (ev_var (i := 0)) (ea_cons (ev_var (i := 1)) (ea_cons (ev_var (i := 4)) ea_nil)))).v ev_int) (sb_cons (ss_aug (i := 4) m ip_addC ev_int)
  sb_nil))
  (sb_cons (ss_retB (er_call m d_later (by decide) (by rfl) (fun _ _ _ _ _ _ us ws h1 h2 => match us, ws, h1, h2 with | [_, _, _], [], _, _ => rfl) (ea_cons (ev_var (i := 0)) (ea_cons (ev_var (i := 1)) (ea_cons (ev_var (i := 4)) ea_nil)))))
  sb_nil)))))
theorem sc_normal : FnScope ["stream", "vector"] ["stream", "vector"] (defScope st_normal) := ⟨rfl, rfl, rfl, by decide +kernel, rfl, by decide +kernel, by decide +kernel⟩
theorem d_normal (T : Txt K mg ca) (d_need_below : Df P w K mg base (cD K ca Pd) 4 "need_below" st_need_below ["stream"] F_need_below) (d_need_span : Df P w K mg base (cD K ca Pd) 5 "need_span" st_need_span ["stream"] F_need_span) (d_need_vector : Df P w K mg base (cD K ca Pd) 4 "need_vector" st_need_vector ["stream", "vector"] F_need_vector) (d_normal_in : Df P w K mg base (cD K ca Pd) 4 "normal_in" st_normal_in ["stream", "vector"] F_normal_in) : Df P w K mg base (cD K ca Pd) 6 "normal" st_normal ["stream", "vector"] F_normal :=
  df_gen T.g_normal T.f_normal sc_normal ⟨rfl, by decide, by decide⟩ fun cdv A outer s H E m =>
  (sb_cons (ss_expr (er_call m d_need_below (by decide) (by rfl) (fun _ _ _ _ _ _ us ws h1 h2 => match us, ws, h1, h2 with | [_], [], _, _ => rfl) (ea_cons (ev_var (i := 0)) ea_nil)).v)
  (sb_cons (ss_expr (er_call m d_need_vector (by decide) (by rfl) (fun _ _ _ _ _ _ us ws h1 h2 => match us, ws, h1, h2 with | [_, _], [], _, _ => rfl) (ea_cons (ev_var (i := 0)) (ea_cons (ev_var (i := 1)) ea_nil))).v)
  (sb_cons (ss_expr (er_call m d_need_span (by decide) (by rfl) (fun _ _ _ _ _ _ us ws h1 h2 => match us, ws, h1, h2 with | [_], [], _, _ => rfl) (ea_cons (ev_var (i := 0)) ea_nil)).v)
  (sb_cons (ss_retB (er_call m d_normal_in (by decide) (by rfl) (fun _ _ _ _ _ _ us ws h1 h2 => match us, ws, h1, h2 with | [_, _], [], _, _ => rfl) (ea_cons (ev_var (i := 0)) (ea_cons (ev_var (i := 1)) ea_nil))))
  sb_nil))))
theorem sc__law_moved_vector : FnScope ["draw", "whole", "pairs", "vector", "most", "many", "above", "below", "found", "place", "more", ".0", "item"] ["draw", "whole", "pairs", "vector", "most"] (defScope st__law_moved_vector) := ⟨rfl, rfl, rfl, by decide +kernel, rfl, by decide +kernel, by decide +kernel⟩
theorem d__law_moved_vector (T : Txt K mg ca) (d__law_take : Df P w K mg base (cD K ca Pd) 2 "_law_take" st__law_take ["draw", "amount"] F__law_take) : Df P w K mg base (cD K ca Pd) 3 "_law_moved_vector" st__law_moved_vector ["draw", "whole", "pairs", "vector", "most"] F__law_moved_vector :=
  df_gen T.g__law_moved_vector T.f__law_moved_vector sc__law_moved_vector ⟨rfl, by decide, by decide⟩ fun cdv A outer s H E m =>
  (sb_cons (ss_setN (i := 5) m (er_sub (er_call m d__law_take (by decide) (by rfl) (fun _ _ _ _ _ _ us ws h1 h2 => match us, ws, h1, h2 with | [_, _], [], _, _ => rfl) (ea_cons (ev_var (i := 0)) (ea_cons (er_add (er_mul ev_int (ev_var (i := 4))).v ev_int).v ea_nil))).v (ev_var (i := 4))).v)
  (sb_cons (ss_ownN (i := 8) m (er_add (er_lst (ea_cons (er_add (er_ix (ev_var (i := 3)) ev_int).v (er_mul (ev_var (i := 5)) (ev_var (i := 1))).v).v ea_nil)).v (er_comp m (ei_zip (by rfl) (by exact T.b_zip) (ea_cons (er_cut (ev_var (i := 3)) (eo_some ev_int) eo_none).v (ea_cons (ev_var (i := 2)) ea_nil))) (own := [(".0", 11), ("item", 12), ("above", 6), ("below", 7)]) rfl (fun s H C cl fp => (gt_tup (m.blk).calm (gts_cons (gt_name (i := 12) (m.blk).nd) (gts_cons (gt_tup (m.blk).calm (gts_cons (gt_name (i := 6) (m.blk).nd) (gts_cons (gt_name (i := 7) (m.blk).nd) gts_nil))) gts_nil)))) (fun s H C cl fp => ets_nil) (fun s H C cl fp => (er_add (ev_var (i := 12)) (er_mul (ev_var (i := 5)) (ev_var (i := 6))).v).v)).v))
  (sb_cons (ss_for m (ei_enum (by rfl) (by exact T.b_enumerate) (ea_cons (ev_var (i := 2)) ea_nil)) (gt_tup m.calm (gts_cons (gt_name (i := 9) m.nd) (gts_cons (gt_tup m.calm (gts_cons (gt_name (i := 6) m.nd) (gts_cons (gt_name (i := 7) m.nd) gts_nil))) gts_nil))) (sb_cons (ss_setN (i := 10) m (er_sub (er_call m d__law_take (by decide) (by rfl) (fun _ _ _ _ _ _ us ws h1 h2 => match us, ws, h1, h2 with | [_, _], [], _, _ => rfl) (ea_cons (ev_var (i := 0)) (ea_cons (er_add (er_mul ev_int (ev_var (i := 4))).v ev_int).v ea_nil))).v (ev_var (i := 4))).v)
  (sb_cons (ss_putB (i := 8) (pv 8) ev_int (er_sub (er_ix (ev_var (i := 8)) ev_int).v (ev_var (i := 10))).v)
  (sb_cons (ss_putB (i := 8) (pv 8) (er_add (ev_var (i := 9)) ev_int).v (er_add (er_ix (ev_var (i := 8)) (er_add (ev_var (i := 9)) ev_int).v).v (er_mul (ev_var (i := 10)) (ev_var (i := 7))).v).v)
  sb_nil))))
  (sb_cons (ss_retB (er_tupleOf m (by exact T.b_tuple) (ea_cons (ev_var (i := 8)) ea_nil)))
  sb_nil))))
theorem sc_of_one_class : FnScope ["stream", "one", "other", "above", "below", "gaps", "product", "total", "w", "a", "times", ".0", "mine", "its", "gap"] ["stream", "one", "other"] (defScope st_of_one_class) := ⟨rfl, rfl, rfl, by decide +kernel, rfl, by decide +kernel, by decide +kernel⟩
theorem d_of_one_class (T : Txt K mg ca) (d_e_of : Df P w K mg base (cD K ca Pd) 3 "e_of" st_e_of ["stream"] F_e_of) (d_need_below : Df P w K mg base (cD K ca Pd) 4 "need_below" st_need_below ["stream"] F_need_below) (d_need_vector : Df P w K mg base (cD K ca Pd) 4 "need_vector" st_need_vector ["stream", "vector"] F_need_vector) : Df P w K mg base (cD K ca Pd) 5 "of_one_class" st_of_one_class ["stream", "one", "other"] F_of_one_class :=
  df_gen T.g_of_one_class T.f_of_one_class sc_of_one_class ⟨rfl, by decide, by decide⟩ fun cdv A outer s H E m =>
  (sb_cons (ss_expr (er_call m d_need_below (by decide) (by rfl) (fun _ _ _ _ _ _ us ws h1 h2 => match us, ws, h1, h2 with | [_], [], _, _ => rfl) (ea_cons (ev_var (i := 0)) ea_nil)).v)
  (sb_cons (ss_expr (er_call m d_need_vector (by decide) (by rfl) (fun _ _ _ _ _ _ us ws h1 h2 => match us, ws, h1, h2 with | [_, _], [], _, _ => rfl) (ea_cons (ev_var (i := 0)) (ea_cons (ev_var (i := 1)) ea_nil))).v)
  (sb_cons (ss_expr (er_call m d_need_vector (by decide) (by rfl) (fun _ _ _ _ _ _ us ws h1 h2 => match us, ws, h1, h2 with | [_, _], [], _, _ => rfl) (ea_cons (ev_var (i := 0)) (ea_cons (ev_var (i := 2)) ea_nil))).v)
  (sb_cons (ss_asgN (er_call m d_e_of (by decide) (by rfl) (fun _ _ _ _ _ _ us ws h1 h2 => match us, ws, h1, h2 with | [_], [], _, _ => rfl) (ea_cons (ev_var (i := 0)) ea_nil)).v (gt_tup m.calm (gts_cons (gt_name (i := 3) m.nd) (gts_cons (gt_name (i := 4) m.nd) gts_nil))))
  (sb_cons (ss_comp (i := 5) m (ei_zip (by rfl) (by exact T.b_zip) (ea_cons (ev_var (i := 1)) (ea_cons (ev_var (i := 2)) ea_nil))) (own := [(".0", 11), ("mine", 12), ("its", 13)]) rfl (fun s H C cl fp => (gt_tup (m.blk).calm (gts_cons (gt_name (i := 12) (m.blk).nd) (gts_cons (gt_name (i := 13) (m.blk).nd) gts_nil)))) (fun s H C cl fp => ets_nil) (fun s H C cl fp => (er_sub (ev_var (i := 12)) (ev_var (i := 13))).v) (fun h => setR_ok (i := 5) h))
  (sb_cons (ss_asgN (ev_tup (ea_cons ev_int (ea_cons ev_int ea_nil))) (gt_tup m.calm (gts_cons (gt_name (i := 6) m.nd) (gts_cons (gt_name (i := 7) m.nd) gts_nil))))
  (sb_cons (ss_for m (ei_seq (ev_fld (C := "Stream") (ev_var (i := 0)))) (gt_tup m.calm (gts_cons (gt_name (i := 8) m.nd) (gts_cons (gt_name (i := 9) m.nd) gts_nil))) (sb_cons (ss_aug (i := 6) m ip_mulC (ev_var (i := 9)))
  sb_nil))
  (sb_cons (ss_setN (i := 7) m (er_add (er_mul (er_ix (ev_var (i := 5)) ev_int).v (ev_var (i := 6))).v (er_sum m (by exact T.b_sum) (ea_cons (er_comp m (ei_zip (by rfl) (by exact T.b_zip) (ea_cons (ev_fld (C := "Stream") (ev_var (i := 0))) (ea_cons (er_cut (ev_var (i := 5)) (eo_some ev_int) eo_none).v ea_nil))) (own := [(".0", 11), ("w", 8), ("a", 9), ("gap", 14)]) rfl (fun s H C cl fp => (gt_tup (m.blk).calm (gts_cons (gt_tup (m.blk).calm (gts_cons (gt_name (i := 8) (m.blk).nd) (gts_cons (gt_name (i := 9) (m.blk).nd) gts_nil))) (gts_cons (gt_name (i := 14) (m.blk).nd) gts_nil)))) (fun s H C cl fp => ets_nil) (fun s H C cl fp => (er_mul (ev_var (i := 14)) (er_fd (ev_var (i := 6)) (ev_var (i := 9))).v).v)).v ea_nil)).v).v)
  (sb_cons (ss_if (eb_ne m.hu (er_md (er_mul (ev_var (i := 7)) (ev_var (i := 4))).v (er_mul (ev_var (i := 3)) (ev_var (i := 6))).v).v ev_int) (sb_cons (ss_retB (ev_bl).r)
  sb_nil) sb_nil)
  (sb_cons (ss_setN (i := 10) m (er_fd (er_mul (ev_var (i := 7)) (ev_var (i := 4))).v (er_mul (ev_var (i := 3)) (ev_var (i := 6))).v).v)
  (sb_cons (ss_retB (er_all m (by exact T.b_all) (ea_cons (er_comp m (ei_zip (by rfl) (by exact T.b_zip) (ea_cons (ev_fld (C := "Stream") (ev_var (i := 0))) (ea_cons (er_cut (ev_var (i := 5)) (eo_some ev_int) eo_none).v ea_nil))) (own := [(".0", 11), ("w", 8), ("a", 9), ("gap", 14)]) rfl (fun s H C cl fp => (gt_tup (m.blk).calm (gts_cons (gt_tup (m.blk).calm (gts_cons (gt_name (i := 8) (m.blk).nd) (gts_cons (gt_name (i := 9) (m.blk).nd) gts_nil))) (gts_cons (gt_name (i := 14) (m.blk).nd) gts_nil)))) (fun s H C cl fp => ets_nil) (fun s H C cl fp => (ev_eq (m.blk).hu (er_md (er_sub (ev_var (i := 14)) (er_mul (ev_var (i := 10)) (ev_var (i := 8))).v).v (ev_var (i := 9))).v ev_int))).v ea_nil)))
  sb_nil)))))))))))
theorem sc__law_odd : FnScope ["draw"] ["draw"] (defScope st__law_odd) := ⟨rfl, rfl, rfl, by decide +kernel, rfl, by decide +kernel, by decide +kernel⟩
theorem d__law_odd (T : Txt K mg ca) (d__law_pick : Df P w K mg base (cD K ca Pd) 3 "_law_pick" st__law_pick ["draw", "some"] F__law_pick) : Df P w K mg base (cD K ca Pd) 4 "_law_odd" st__law_odd ["draw"] F__law_odd :=
  df_gen T.g__law_odd T.f__law_odd sc__law_odd ⟨rfl, by decide, by decide⟩ fun cdv A outer s H E m =>
  (sb_cons (ss_retB (er_call m d__law_pick (by decide) (by rfl) (fun _ _ _ _ _ _ us ws h1 h2 => match us, ws, h1, h2 with | [_, _], [], _, _ => rfl) (ea_cons (ev_var (i := 0)) (ea_cons (er_lst (ea_cons ev_non (ea_cons ev_int (ea_cons ev_bl (ea_cons ev_str (ea_cons (ev_tup ea_nil) (ea_cons (er_lst ea_nil).v (ea_cons (ev_tup (ea_cons ev_non ea_nil)) (ea_cons (ev_tup (ea_cons (ev_tup ea_nil) ea_nil)) (ea_cons (ev_tup (ea_cons ev_int (ea_cons (ev_tup (ea_cons ev_int (ea_cons (ev_tup ea_nil) ea_nil))) ea_nil))) (ea_cons ev_dct (ea_cons (ev_tup (ea_cons ev_bl (ea_cons ev_bl ea_nil))) (ea_cons (ev_tup (ea_cons (er_lst (ea_cons ev_int (ea_cons ev_int ea_nil))).v ea_nil)) ea_nil))))))))))))).v ea_nil))))
  sb_nil)
theorem sc_is_normal : FnScope ["stream", "thing"] ["stream", "thing"] (defScope st_is_normal) := ⟨rfl, rfl, rfl, by decide +kernel, rfl, by decide +kernel, by decide +kernel⟩
theorem d_is_normal (T : Txt K mg ca) (d_is_vector : Df P w K mg base (cD K ca Pd) 3 "is_vector" st_is_vector ["stream", "thing"] F_is_vector) (d_need_below : Df P w K mg base (cD K ca Pd) 4 "need_below" st_need_below ["stream"] F_need_below) (d_need_span : Df P w K mg base (cD K ca Pd) 5 "need_span" st_need_span ["stream"] F_need_span) (d_normal_in : Df P w K mg base (cD K ca Pd) 4 "normal_in" st_normal_in ["stream", "vector"] F_normal_in) : Df P w K mg base (cD K ca Pd) 6 "is_normal" st_is_normal ["stream", "thing"] F_is_normal :=
  df_gen T.g_is_normal T.f_is_normal sc_is_normal ⟨rfl, by decide, by decide⟩ fun cdv A outer s H E m =>
  (sb_cons (ss_expr (er_call m d_need_below (by decide) (by rfl) (fun _ _ _ _ _ _ us ws h1 h2 => match us, ws, h1, h2 with | [_], [], _, _ => rfl) (ea_cons (ev_var (i := 0)) ea_nil)).v)
  (sb_cons (ss_expr (er_call m d_need_span (by decide) (by rfl) (fun _ _ _ _ _ _ us ws h1 h2 => match us, ws, h1, h2 with | [_], [], _, _ => rfl) (ea_cons (ev_var (i := 0)) ea_nil)).v)
  (sb_cons (ss_retB (ev_and (er_call m d_is_vector (by decide) (by rfl) (fun _ _ _ _ _ _ us ws h1 h2 => match us, ws, h1, h2 with | [_, _], [], _, _ => rfl) (ea_cons (ev_var (i := 0)) (ea_cons (ev_var (i := 1)) ea_nil))).v (ev_one (ev_eq m.hu (er_call m d_normal_in (by decide) (by rfl) (fun _ _ _ _ _ _ us ws h1 h2 => match us, ws, h1, h2 with | [_, _], [], _, _ => rfl) (ea_cons (ev_var (i := 0)) (ea_cons (ev_var (i := 1)) ea_nil))).v (ev_var (i := 1))))).r)
  sb_nil)))
theorem sc__law_is_own_normal : FnScope ["whole", "pairs", "thing", ".0", "item"] ["whole", "pairs", "thing"] (defScope st__law_is_own_normal) := ⟨rfl, rfl, rfl, by decide +kernel, rfl, by decide +kernel, by decide +kernel⟩
theorem d__law_is_own_normal (T : Txt K mg ca) (d__law_normal : Df P w K mg base (cD K ca Pd) 4 "_law_normal" st__law_normal ["whole", "pairs", "vector"] F__law_normal) : Df P w K mg base (cD K ca Pd) 5 "_law_is_own_normal" st__law_is_own_normal ["whole", "pairs", "thing"] F__law_is_own_normal :=
  df_gen T.g__law_is_own_normal T.f__law_is_own_normal sc__law_is_own_normal ⟨rfl, by decide, by decide⟩ fun cdv A outer s H E m =>
  (sb_cons (ss_if (eb_w (ew_or (eb_not (eb_tru (er_isi m (by exact T.kt) (by exact T.b_isinstance) (ea_cons (ev_var (i := 2)) (ea_cons (ev_ty (T := "tuple") (by rfl) (by exact T.b_tuple) (by decide +kernel)) ea_nil))).v)) (ew_or1 (eb_ne m.hu (er_len (by rfl) (by exact T.b_len) (ea_cons (ev_var (i := 2)) ea_nil)).v (er_add (er_len (by rfl) (by exact T.b_len) (ea_cons (ev_var (i := 1)) ea_nil)).v ev_int).v)))) (sb_cons (ss_retB (ev_bl).r)
  sb_nil) sb_nil)
  (sb_cons (ss_if (eb_ne m.hu (er_comp m (ei_seq (ev_var (i := 2))) (own := [(".0", 3), ("item", 4)]) rfl (fun s H C cl fp => (gt_name (i := 4) (m.blk).nd)) (fun s H C cl fp => (ets_one (eb_w (ew_or (eb_not (eb_tru (er_isi (m.blk) (by exact T.kt) (by exact T.b_isinstance) (ea_cons (ev_var (i := 4)) (ea_cons (ev_ty (T := "int") (by rfl) (by exact T.b_int) (by decide +kernel)) ea_nil))).v)) (ew_or (eb_tru (er_isi (m.blk) (by exact T.kt) (by exact T.b_isinstance) (ea_cons (ev_var (i := 4)) (ea_cons (ev_ty (T := "bool") (by rfl) (by exact T.b_bool) (by decide +kernel)) ea_nil))).v) (ew_or1 (eb_gt (er_abs (m.blk) (by exact T.b_abs) (ea_cons (ev_var (i := 4)) ea_nil)).v (er_pw ev_int ev_int).v))))))) (fun s H C cl fp => (ev_var (i := 4)))).v (er_lst ea_nil).v) (sb_cons (ss_retB (ev_bl).r)
  sb_nil) sb_nil)
  (sb_cons (ss_retB (ev_eq m.hu (er_call m d__law_normal (by decide) (by rfl) (fun _ _ _ _ _ _ us ws h1 h2 => match us, ws, h1, h2 with | [_, _, _], [], _, _ => rfl) (ea_cons (ev_var (i := 0)) (ea_cons (ev_var (i := 1)) (ea_cons (ev_var (i := 2)) ea_nil)))).v (ev_var (i := 2))).r)
  sb_nil)))
theorem sc_need_between : FnScope ["number", "low", "high", "part"] ["number", "low", "high", "part"] (defScope st_need_between) := ⟨rfl, rfl, rfl, by decide +kernel, rfl, by decide +kernel, by decide +kernel⟩
theorem d_need_between (T : Txt K mg ca) (d_is_between : Df P w K mg base (cD K ca Pd) 2 "is_between" st_is_between ["thing", "low", "high"] F_is_between) : Df P w K mg base (cD K ca Pd) 3 "need_between" st_need_between ["number", "low", "high", "part"] F_need_between :=
  df_gen T.g_need_between T.f_need_between sc_need_between ⟨rfl, by decide, by decide⟩ fun cdv A outer s H E m =>
  (sb_cons (ss_if (eb_not (eb_tru (er_call m d_is_between (by decide) (by rfl) (fun _ _ _ _ _ _ us ws h1 h2 => match us, ws, h1, h2 with | [_, _, _], [], _, _ => rfl) (ea_cons (ev_var (i := 0)) (ea_cons (ev_var (i := 1)) (ea_cons (ev_var (i := 2)) ea_nil)))).v)) (sb_cons ss_never
  sb_nil) sb_nil)
  sb_nil)
theorem sc_count_at : FnScope ["stream", "vector", "n"] ["stream", "vector", "n"] (defScope st_count_at) := ⟨rfl, rfl, rfl, by decide +kernel, rfl, by decide +kernel, by decide +kernel⟩
theorem d_count_at (T : Txt K mg ca) (d_count_in : Df P w K mg base (cD K ca Pd) 1 "count_in" st_count_in ["stream", "vector", "n"] F_count_in) (d_need_below : Df P w K mg base (cD K ca Pd) 4 "need_below" st_need_below ["stream"] F_need_below) (d_need_between : Df P w K mg base (cD K ca Pd) 3 "need_between" st_need_between ["number", "low", "high", "part"] F_need_between) (d_need_vector : Df P w K mg base (cD K ca Pd) 4 "need_vector" st_need_vector ["stream", "vector"] F_need_vector) : Df P w K mg base (cD K ca Pd) 5 "count_at" st_count_at ["stream", "vector", "n"] F_count_at :=
  df_gen T.g_count_at T.f_count_at sc_count_at ⟨rfl, by decide, by decide⟩ fun cdv A outer s H E m =>
  (sb_cons (ss_expr (er_call m d_need_below (by decide) (by rfl) (fun _ _ _ _ _ _ us ws h1 h2 => match us, ws, h1, h2 with | [_], [], _, _ => rfl) (ea_cons (ev_var (i := 0)) ea_nil)).v)
  (sb_cons (ss_expr (er_call m d_need_vector (by decide) (by rfl) (fun _ _ _ _ _ _ us ws h1 h2 => match us, ws, h1, h2 with | [_, _], [], _, _ => rfl) (ea_cons (ev_var (i := 0)) (ea_cons (ev_var (i := 1)) ea_nil))).v)
  (sb_cons (ss_expr (er_call m d_need_between (by decide) (by rfl) (fun _ _ _ _ _ _ us ws h1 h2 => match us, ws, h1, h2 with | [_, _, _, _], [], _, _ => rfl) (ea_cons (ev_var (i := 2)) (ea_cons (er_sub ev_int (ev_glI (by rfl) (by exact T.i_MOST_PLACE))).v (ea_cons (ev_glI (by rfl) (by exact T.i_MOST_PLACE)) (ea_cons ev_str ea_nil))))).v)
  (sb_cons (ss_retB (er_call m d_count_in (by decide) (by rfl) (fun _ _ _ _ _ _ us ws h1 h2 => match us, ws, h1, h2 with | [_, _, _], [], _, _ => rfl) (ea_cons (ev_var (i := 0)) (ea_cons (ev_var (i := 1)) (ea_cons (ev_var (i := 2)) ea_nil)))))
  sb_nil))))
theorem sc_law : FnScope ["script", "draw", "turn", "whole", "pairs", "stream", "most", "vector", "own", "other", "near", "thing", "n", "told", "later_v", ".0", "item", "above", "below"] ["script"] (defScope st_law) := ⟨rfl, rfl, rfl, by decide +kernel, rfl, by decide +kernel, by decide +kernel⟩
theorem d_law_rest (T : Txt K mg ca) (d__law_count : Df P w K mg base (cD K ca Pd) 1 "_law_count" st__law_count ["whole", "pairs", "vector", "n"] F__law_count) (d__law_is_own_normal : Df P w K mg base (cD K ca Pd) 5 "_law_is_own_normal" st__law_is_own_normal ["whole", "pairs", "thing"] F__law_is_own_normal) (d__law_moved_vector : Df P w K mg base (cD K ca Pd) 3 "_law_moved_vector" st__law_moved_vector ["draw", "whole", "pairs", "vector", "most"] F__law_moved_vector) (d__law_narrow : Df P w K mg base (cD K ca Pd) 5 "_law_narrow" st__law_narrow ["draw", "many", "most", "wide"] F__law_narrow) (d__law_normal : Df P w K mg base (cD K ca Pd) 4 "_law_normal" st__law_normal ["whole", "pairs", "vector"] F__law_normal) (d__law_odd : Df P w K mg base (cD K ca Pd) 4 "_law_odd" st__law_odd ["draw"] F__law_odd) (d__law_pick : Df P w K mg base (cD K ca Pd) 3 "_law_pick" st__law_pick ["draw", "some"] F__law_pick) (d__law_says : Df P w K mg base (cD K ca Pd) 1 "_law_says" st__law_says ["told_here", "due"] F__law_says) (d__law_take : Df P w K mg base (cD K ca Pd) 2 "_law_take" st__law_take ["draw", "amount"] F__law_take) (d__law_vector : Df P w K mg base (cD K ca Pd) 3 "_law_vector" st__law_vector ["draw", "pairs", "most"] F__law_vector) (d_count_at : Df P w K mg base (cD K ca Pd) 5 "count_at" st_count_at ["stream", "vector", "n"] F_count_at) (d_is_normal : Df P w K mg base (cD K ca Pd) 6 "is_normal" st_is_normal ["stream", "thing"] F_is_normal) (d_normal : Df P w K mg base (cD K ca Pd) 6 "normal" st_normal ["stream", "vector"] F_normal) (d_of_one_class : Df P w K mg base (cD K ca Pd) 5 "of_one_class" st_of_one_class ["stream", "one", "other"] F_of_one_class) (d_Stream : Dm P w K mg base (cD K ca Pd) 4 "Stream" "Stream.__init__" st_Stream ["whole", "pairs"] F_Stream) (cdv : Value) (A : Around) (outer : List Env) (s : Shared) (H : Hp) (E : L2.XK) (m : Fm (FX P w K mg base ["script", "draw", "turn", "whole", "pairs", "stream", "most", "vector", "own", "other", "near", "thing", "n", "told", "later_v", ".0", "item", "above", "below"] "law" st_law (ca "law") cdv A outer s H E) (FW E) 6) : SB (FX P w K mg base ["script", "draw", "turn", "whole", "pairs", "stream", "most", "vector", "own", "other", "near", "thing", "n", "told", "later_v", ".0", "item", "above", "below"] "law" st_law (ca "law") cdv A outer s H E) (cD K ca Pd) (FW E) (defBody st_law).tail b_law :=
  (sb_cons (ss_for m (ei_rng1 (by rfl) (by exact T.b_range) (ea_cons (er_add ev_int (er_min2 m (by exact T.b_min) (ea_cons (er_len (by rfl) (by exact T.b_len) (ea_cons (ev_var (i := 0)) ea_nil)).v (ea_cons ev_int ea_nil))).v).v ea_nil)) (gt_name (i := 2) m.nd) (sb_cons (ss_asgN (er_call m d__law_narrow (by decide) (by rfl) (fun _ _ _ _ _ _ us ws h1 h2 => match us, ws, h1, h2 with | [_, _, _, _], [], _, _ => rfl) (ea_cons (ev_var (i := 1)) (ea_cons ev_int (ea_cons (er_call m d__law_pick (by decide) (by rfl) (fun _ _ _ _ _ _ us ws h1 h2 => match us, ws, h1, h2 with | [_, _], [], _, _ => rfl) (ea_cons (ev_var (i := 1)) (ea_cons (er_lst (ea_cons ev_int (ea_cons ev_int (ea_cons ev_int ea_nil)))).v ea_nil))).v (ea_cons ev_int ea_nil))))).v (gt_tup m.calm (gts_cons (gt_name (i := 3) m.nd) (gts_cons (gt_name (i := 4) m.nd) gts_nil))))
  (sb_cons (ss_parN (i := 5) (l := 6) (oi := false) (ol := false) m (er_make (perm := [0, 1]) m d_Stream (by decide) (by rfl) (fun _ _ _ _ _ _ _ us ws h1 h2 => match us, ws, h1, h2 with | [_, _], [], _, _ => rfl) (ea_cons (ev_var (i := 3)) (ea_cons (ev_var (i := 4)) ea_nil)) (fun ds es h1 h2 => match ds, es, h1, h2 with | [_, _], [], _, _ => rfl)) (er_call m d__law_pick (by decide) (by rfl) (fun _ _ _ _ _ _ us ws h1 h2 => match us, ws, h1, h2 with | [_, _], [], _, _ => rfl) (ea_cons (ev_var (i := 1)) (ea_cons (er_lst (ea_cons ev_int (ea_cons ev_int (ea_cons (er_pw ev_int ev_int).v ea_nil)))).v ea_nil))))
  (sb_cons (ss_setN (i := 7) m (er_call m d__law_vector (by decide) (by rfl) (fun _ _ _ _ _ _ us ws h1 h2 => match us, ws, h1, h2 with | [_, _, _], [], _, _ => rfl) (ea_cons (ev_var (i := 1)) (ea_cons (ev_var (i := 4)) (ea_cons (ev_var (i := 6)) ea_nil)))).v)
  (sb_cons (ss_setN (i := 8) m (er_call m d__law_normal (by decide) (by rfl) (fun _ _ _ _ _ _ us ws h1 h2 => match us, ws, h1, h2 with | [_, _, _], [], _, _ => rfl) (ea_cons (ev_var (i := 3)) (ea_cons (ev_var (i := 4)) (ea_cons (ev_var (i := 7)) ea_nil)))).v)
  (sb_cons (ss_if (eb_not (eb_tru (er_call m d__law_says (by decide) (by rfl) (fun _ _ _ _ _ _ us ws h1 h2 => match us, ws, h1, h2 with | [_, _], [], _, _ => rfl) (ea_cons (er_callK (ks := ["vector"]) (perm := [0, 1]) m d_normal (by decide) (by rfl) (fun _ _ _ _ _ _ us ws h1 h2 => match us, ws, h1, h2 with | [_], [_], _, _ => rfl) (ea_cons (ev_var (i := 5)) ea_nil) (ek_cons (ev_var (i := 7)) ek_nil) (fun ds es h1 h2 => match ds, es, h1, h2 with | [_], [_], _, _ => rfl)).v (ea_cons (ev_var (i := 8)) ea_nil))).v)) (sb_cons (ss_retB (ev_bl).r)
  sb_nil) sb_nil)
  (sb_cons (ss_if (eb_lt (ev_var (i := 6)) ev_int) (sb_cons (ss_setN (i := 9) m (er_call m d__law_moved_vector (by decide) (by rfl) (fun _ _ _ _ _ _ us ws h1 h2 => match us, ws, h1, h2 with | [_, _, _, _, _], [], _, _ => rfl) (ea_cons (ev_var (i := 1)) (ea_cons (ev_var (i := 3)) (ea_cons (ev_var (i := 4)) (ea_cons (ev_var (i := 7)) (ea_cons ev_int ea_nil)))))).v)
  (sb_cons (ss_if (eb_w (ew_or (eb_notB (er_callK (ks := ["other"]) (perm := [0, 1, 2]) m d_of_one_class (by decide) (by rfl) (fun _ _ _ _ _ _ us ws h1 h2 => match us, ws, h1, h2 with | [_, _], [_], _, _ => rfl) (ea_cons (ev_var (i := 5)) (ea_cons (ev_var (i := 7)) ea_nil)) (ek_cons (ev_var (i := 9)) ek_nil) (fun ds es h1 h2 => match ds, es, h1, h2 with | [_, _], [_], _, _ => rfl)).v ev_bl) (ew_or1 (eb_ne m.hu (er_call m d_normal (by decide) (by rfl) (fun _ _ _ _ _ _ us ws h1 h2 => match us, ws, h1, h2 with | [_, _], [], _, _ => rfl) (ea_cons (ev_var (i := 5)) (ea_cons (ev_var (i := 9)) ea_nil))).v (ev_var (i := 8)))))) (sb_cons (ss_retB (ev_bl).r)
  sb_nil) sb_nil)
  sb_nil)) sb_nil)
  (sb_cons (ss_setN (i := 9) m (er_call m d__law_pick (by decide) (by rfl) (fun _ _ _ _ _ _ us ws h1 h2 => match us, ws, h1, h2 with | [_, _], [], _, _ => rfl) (ea_cons (ev_var (i := 1)) (ea_cons (er_lst (ea_cons (er_call m d__law_vector (by decide) (by rfl) (fun _ _ _ _ _ _ us ws h1 h2 => match us, ws, h1, h2 with | [_, _, _], [], _, _ => rfl) (ea_cons (ev_var (i := 1)) (ea_cons (ev_var (i := 4)) (ea_cons (ev_var (i := 6)) ea_nil)))).v (ea_cons (er_if (eb_lt (er_ix (ev_var (i := 7)) ev_int).v (er_pw ev_int ev_int).v) (er_add (ev_tup (ea_cons (er_add (er_ix (ev_var (i := 7)) ev_int).v ev_int).v ea_nil)) (er_cut (ev_var (i := 7)) (eo_some ev_int) eo_none).v) (ev_var (i := 7)).r).v ea_nil))).v ea_nil))).v)
  (sb_cons (ss_if (eb_not (eb_tru (er_call m d__law_says (by decide) (by rfl) (fun _ _ _ _ _ _ us ws h1 h2 => match us, ws, h1, h2 with | [_, _], [], _, _ => rfl) (ea_cons (er_call m d_of_one_class (by decide) (by rfl) (fun _ _ _ _ _ _ us ws h1 h2 => match us, ws, h1, h2 with | [_, _, _], [], _, _ => rfl) (ea_cons (ev_var (i := 5)) (ea_cons (ev_var (i := 7)) (ea_cons (ev_var (i := 9)) ea_nil)))).v (ea_cons (ev_eq m.hu (er_call m d__law_normal (by decide) (by rfl) (fun _ _ _ _ _ _ us ws h1 h2 => match us, ws, h1, h2 with | [_, _, _], [], _, _ => rfl) (ea_cons (ev_var (i := 3)) (ea_cons (ev_var (i := 4)) (ea_cons (ev_var (i := 9)) ea_nil)))).v (ev_var (i := 8))) ea_nil))).v)) (sb_cons (ss_retB (ev_bl).r)
  sb_nil) sb_nil)
  (sb_cons (ss_setN (i := 10) m (er_add (er_cut (ev_var (i := 8)) eo_none (eo_some (ev_neg ev_int))).v (ev_tup (ea_cons (er_add (er_ix (ev_var (i := 8)) (ev_neg ev_int)).v ev_int).v ea_nil))).v)
  (sb_cons (ss_for m (ei_seq (er_lst (ea_cons (ev_var (i := 8)) (ea_cons (ev_var (i := 7)) (ea_cons (ev_var (i := 10)) (ea_cons (er_add (ev_tup (ea_cons (er_add (er_ix (ev_var (i := 8)) ev_int).v ev_int).v ea_nil)) (er_cut (ev_var (i := 8)) (eo_some ev_int) eo_none).v).v (ea_cons (er_listOf m (by exact T.b_list) (ea_cons (ev_var (i := 8)) ea_nil)).v (ea_cons (er_add (ev_var (i := 8)) (ev_tup (ea_cons ev_int ea_nil))).v (ea_cons (er_call m d__law_odd (by decide) (by rfl) (fun _ _ _ _ _ _ us ws h1 h2 => match us, ws, h1, h2 with | [_], [], _, _ => rfl) (ea_cons (ev_var (i := 1)) ea_nil)).v (ea_cons (er_mul (ev_tup (ea_cons ev_int ea_nil)) (er_len (by rfl) (by exact T.b_len) (ea_cons (ev_var (i := 8)) ea_nil)).v).v (ea_cons (er_add (ev_tup (ea_cons ev_bl ea_nil)) (er_cut (ev_var (i := 8)) (eo_some ev_int) eo_none).v).v ea_nil)))))))))).v) (gt_name (i := 11) m.nd) (sb_cons (ss_if (eb_not (eb_tru (er_call m d__law_says (by decide) (by rfl) (fun _ _ _ _ _ _ us ws h1 h2 => match us, ws, h1, h2 with | [_, _], [], _, _ => rfl) (ea_cons (er_callK0 (ks := ["stream", "thing"]) (perm := [0, 1]) m d_is_normal (by decide) (by rfl) (fun _ _ _ _ _ _ us ws h1 h2 => match us, ws, h1, h2 with | [], [_, _], _, _ => rfl) (ek_cons (ev_var (i := 5)) (ek_cons (ev_var (i := 11)) ek_nil)) (fun ds es h1 h2 => match ds, es, h1, h2 with | [], [_, _], _, _ => rfl)).v (ea_cons (er_call m d__law_is_own_normal (by decide) (by rfl) (fun _ _ _ _ _ _ us ws h1 h2 => match us, ws, h1, h2 with | [_, _, _], [], _, _ => rfl) (ea_cons (ev_var (i := 3)) (ea_cons (ev_var (i := 4)) (ea_cons (ev_var (i := 11)) ea_nil)))).v ea_nil))).v)) (sb_cons (ss_retB (ev_bl).r)
  sb_nil) sb_nil)
  sb_nil))
  (sb_cons (ss_for m (ei_seq (er_lst (ea_cons ev_int (ea_cons (ev_neg ev_int) (ea_cons ev_int (ea_cons (er_sub (er_call m d__law_take (by decide) (by rfl) (fun _ _ _ _ _ _ us ws h1 h2 => match us, ws, h1, h2 with | [_, _], [], _, _ => rfl) (ea_cons (ev_var (i := 1)) (ea_cons ev_int ea_nil))).v ev_int).v (ea_cons (er_mul (er_call m d__law_pick (by decide) (by rfl) (fun _ _ _ _ _ _ us ws h1 h2 => match us, ws, h1, h2 with | [_, _], [], _, _ => rfl) (ea_cons (ev_var (i := 1)) (ea_cons (er_lst (ea_cons ev_int (ea_cons (ev_neg ev_int) ea_nil))).v ea_nil))).v (er_call m d__law_take (by decide) (by rfl) (fun _ _ _ _ _ _ us ws h1 h2 => match us, ws, h1, h2 with | [_, _], [], _, _ => rfl) (ea_cons (ev_var (i := 1)) (ea_cons (er_add (er_pw ev_int ev_int).v ev_int).v ea_nil))).v).v ea_nil)))))).v) (gt_name (i := 12) m.nd) (sb_cons (ss_setN (i := 13) m (er_callK (ks := ["n"]) (perm := [0, 1, 2]) m d_count_at (by decide) (by rfl) (fun _ _ _ _ _ _ us ws h1 h2 => match us, ws, h1, h2 with | [_, _], [_], _, _ => rfl) (ea_cons (ev_var (i := 5)) (ea_cons (ev_var (i := 7)) ea_nil)) (ek_cons (ev_var (i := 12)) ek_nil) (fun ds es h1 h2 => match ds, es, h1, h2 with | [_, _], [_], _, _ => rfl)).v)
  (sb_cons (ss_if (eb_w (ew_or (eb_ne m.hu (ev_var (i := 13)) (er_call m d__law_count (by decide) (by rfl) (fun _ _ _ _ _ _ us ws h1 h2 => match us, ws, h1, h2 with | [_, _, _, _], [], _, _ => rfl) (ea_cons (ev_var (i := 3)) (ea_cons (ev_var (i := 4)) (ea_cons (ev_var (i := 7)) (ea_cons (ev_var (i := 12)) ea_nil))))).v) (ew_or1 (eb_tru (er_isi m (by exact T.kt) (by exact T.b_isinstance) (ea_cons (ev_var (i := 13)) (ea_cons (ev_ty (T := "bool") (by rfl) (by exact T.b_bool) (by decide +kernel)) ea_nil))).v)))) (sb_cons (ss_retB (ev_bl).r)
  sb_nil) sb_nil)
  (sb_cons (ss_setN (i := 14) m (er_tupleOf m (by exact T.b_tuple) (ea_cons (er_add (er_lst (ea_cons (er_sub (er_ix (ev_var (i := 7)) ev_int).v (ev_var (i := 3))).v ea_nil)).v (er_comp m (ei_zip (by rfl) (by exact T.b_zip) (ea_cons (er_cut (ev_var (i := 7)) (eo_some ev_int) eo_none).v (ea_cons (ev_var (i := 4)) ea_nil))) (own := [(".0", 15), ("item", 16), ("above", 17), ("below", 18)]) rfl (fun s H C cl fp => (gt_tup (m.blk).calm (gts_cons (gt_name (i := 16) (m.blk).nd) (gts_cons (gt_tup (m.blk).calm (gts_cons (gt_name (i := 17) (m.blk).nd) (gts_cons (gt_name (i := 18) (m.blk).nd) gts_nil))) gts_nil)))) (fun s H C cl fp => ets_nil) (fun s H C cl fp => (er_sub (ev_var (i := 16)) (ev_var (i := 17))).v)).v).v ea_nil)).v)
  (sb_cons (ss_if (eb_w (ew_and (eb_lt (ev_var (i := 6)) ev_int) (ew_and (eb_lt (ev_var (i := 12)) (er_pw ev_int ev_int).v) (ew_and1 (eb_ne m.hu (er_call m d_count_at (by decide) (by rfl) (fun _ _ _ _ _ _ us ws h1 h2 => match us, ws, h1, h2 with | [_, _, _], [], _, _ => rfl) (ea_cons (ev_var (i := 5)) (ea_cons (ev_var (i := 14)) (ea_cons (ev_var (i := 12)) ea_nil)))).v (er_call m d__law_count (by decide) (by rfl) (fun _ _ _ _ _ _ us ws h1 h2 => match us, ws, h1, h2 with | [_, _, _, _], [], _, _ => rfl) (ea_cons (ev_var (i := 3)) (ea_cons (ev_var (i := 4)) (ea_cons (ev_var (i := 7)) (ea_cons (er_add (ev_var (i := 12)) ev_int).v ea_nil))))).v))))) (sb_cons (ss_retB (ev_bl).r)
  sb_nil) sb_nil)
  sb_nil)))))
  sb_nil))))))))))))
  (sb_cons (ss_retB (ev_bl).r)
  sb_nil))
end
end K58

set_option Elab.async false
set_option linter.all false
set_option maxRecDepth 100000
set_option maxHeartbeats 4000000
namespace K58
open PySem PySem.Spec PyProof.Rows L2 Dv
section
variable {P : Program} {w : World} {K : PySem.W.Frag} {mg : Str → Option Value} {base : Heap} {ca : Str → Addr} {Pd : DrawP}
theorem e__law_mixed (T : Txt K mg ca) : Df P w K mg base (cD K ca Pd) 1 "_law_mixed" st__law_mixed ["draw"] F__law_mixed := d__law_mixed T 
theorem e__law_take (T : Txt K mg ca) : Df P w K mg base (cD K ca Pd) 2 "_law_take" st__law_take ["draw", "amount"] F__law_take := d__law_take T (e__law_mixed T)
theorem e__law_common (T : Txt K mg ca) : Df P w K mg base (cD K ca Pd) 1 "_law_common" st__law_common ["one", "other"] F__law_common := d__law_common T 
theorem e__law_pair (T : Txt K mg ca) : Df P w K mg base (cD K ca Pd) 3 "_law_pair" st__law_pair ["draw", "most"] F__law_pair := d__law_pair T (e__law_common T) (e__law_take T)
theorem e__law_parts (T : Txt K mg ca) : Df P w K mg base (cD K ca Pd) 1 "_law_parts" st__law_parts ["pairs"] F__law_parts := d__law_parts T 
theorem e__law_e (T : Txt K mg ca) : Df P w K mg base (cD K ca Pd) 2 "_law_e" st__law_e ["whole", "pairs"] F__law_e := d__law_e T (e__law_parts T)
theorem e__law_pick (T : Txt K mg ca) : Df P w K mg base (cD K ca Pd) 3 "_law_pick" st__law_pick ["draw", "some"] F__law_pick := d__law_pick T (e__law_take T)
theorem e__law_lower (T : Txt K mg ca) : Df P w K mg base (cD K ca Pd) 4 "_law_lower" st__law_lower ["draw", "many", "most"] F__law_lower := d__law_lower T (e__law_e T) (e__law_pair T) (e__law_pick T) (e__law_take T)
theorem e__law_span (T : Txt K mg ca) : Df P w K mg base (cD K ca Pd) 3 "_law_span" st__law_span ["whole", "pairs"] F__law_span := d__law_span T (e__law_e T)
theorem e__law_narrow (T : Txt K mg ca) : Df P w K mg base (cD K ca Pd) 5 "_law_narrow" st__law_narrow ["draw", "many", "most", "wide"] F__law_narrow := d__law_narrow T (e__law_e T) (e__law_lower T) (e__law_span T)
theorem e_is_list (T : Txt K mg ca) : Df P w K mg base (cD K ca Pd) 1 "is_list" st_is_list ["thing"] F_is_list := d_is_list T 
theorem e_is_tuple (T : Txt K mg ca) : Df P w K mg base (cD K ca Pd) 1 "is_tuple" st_is_tuple ["thing", "size"] F_is_tuple := d_is_tuple T 
theorem e_is_number (T : Txt K mg ca) : Df P w K mg base (cD K ca Pd) 1 "is_number" st_is_number ["thing"] F_is_number := d_is_number T 
theorem e_is_number_pair (T : Txt K mg ca) : Df P w K mg base (cD K ca Pd) 2 "is_number_pair" st_is_number_pair ["thing"] F_is_number_pair := d_is_number_pair T (e_is_number T) (e_is_tuple T)
theorem e_are_pairs (T : Txt K mg ca) : Df P w K mg base (cD K ca Pd) 3 "are_pairs" st_are_pairs ["thing"] F_are_pairs := d_are_pairs T (e_is_list T) (e_is_number_pair T)
theorem e_is_between (T : Txt K mg ca) : Df P w K mg base (cD K ca Pd) 2 "is_between" st_is_between ["thing", "low", "high"] F_is_between := d_is_between T (e_is_number T)
theorem e_Stream (T : Txt K mg ca) : Dm P w K mg base (cD K ca Pd) 4 "Stream" "Stream.__init__" st_Stream ["whole", "pairs"] F_Stream := d_Stream T (e_are_pairs T) (e_is_between T)
theorem e__law_vector (T : Txt K mg ca) : Df P w K mg base (cD K ca Pd) 3 "_law_vector" st__law_vector ["draw", "pairs", "most"] F__law_vector := d__law_vector T (e__law_take T)
theorem e__law_count (T : Txt K mg ca) : Df P w K mg base (cD K ca Pd) 1 "_law_count" st__law_count ["whole", "pairs", "vector", "n"] F__law_count := d__law_count T 
theorem e__law_first_above (T : Txt K mg ca) : Df P w K mg base (cD K ca Pd) 3 "_law_first_above" st__law_first_above ["whole", "pairs", "vector"] F__law_first_above := d__law_first_above T (e__law_count T) (e__law_e T)
theorem e__law_reduced (T : Txt K mg ca) : Df P w K mg base (cD K ca Pd) 1 "_law_reduced" st__law_reduced ["pairs", "vector"] F__law_reduced := d__law_reduced T 
theorem e__law_normal (T : Txt K mg ca) : Df P w K mg base (cD K ca Pd) 4 "_law_normal" st__law_normal ["whole", "pairs", "vector"] F__law_normal := d__law_normal T (e__law_first_above T) (e__law_reduced T)
theorem e__law_says (T : Txt K mg ca) : Df P w K mg base (cD K ca Pd) 1 "_law_says" st__law_says ["told_here", "due"] F__law_says := d__law_says T 
theorem e_need_stream (T : Txt K mg ca) : Df P w K mg base (cD K ca Pd) 1 "need_stream" st_need_stream ["thing"] F_need_stream := d_need_stream T 
theorem e_least_ratio (T : Txt K mg ca) : Df P w K mg base (cD K ca Pd) 1 "least_ratio" st_least_ratio ["above", "below"] F_least_ratio := d_least_ratio T 
theorem e_ratio_plus (T : Txt K mg ca) : Df P w K mg base (cD K ca Pd) 2 "ratio_plus" st_ratio_plus ["one", "other"] F_ratio_plus := d_ratio_plus T (e_least_ratio T)
theorem e_e_of (T : Txt K mg ca) : Df P w K mg base (cD K ca Pd) 3 "e_of" st_e_of ["stream"] F_e_of := d_e_of T (e_need_stream T) (e_ratio_plus T)
theorem e_need_below (T : Txt K mg ca) : Df P w K mg base (cD K ca Pd) 4 "need_below" st_need_below ["stream"] F_need_below := d_need_below T (e_e_of T) (e_need_stream T)
theorem e_is_vector (T : Txt K mg ca) : Df P w K mg base (cD K ca Pd) 3 "is_vector" st_is_vector ["stream", "thing"] F_is_vector := d_is_vector T (e_is_between T) (e_is_tuple T)
theorem e_need_vector (T : Txt K mg ca) : Df P w K mg base (cD K ca Pd) 4 "need_vector" st_need_vector ["stream", "vector"] F_need_vector := d_need_vector T (e_is_vector T)
theorem e_need_few (T : Txt K mg ca) : Df P w K mg base (cD K ca Pd) 1 "need_few" st_need_few ["number", "most"] F_need_few := d_need_few T 
theorem e_span_of (T : Txt K mg ca) : Df P w K mg base (cD K ca Pd) 4 "span_of" st_span_of ["stream"] F_span_of := d_span_of T (e_e_of T)
theorem e_need_span (T : Txt K mg ca) : Df P w K mg base (cD K ca Pd) 5 "need_span" st_need_span ["stream"] F_need_span := d_need_span T (e_need_few T) (e_span_of T)
theorem e_reduced (T : Txt K mg ca) : Df P w K mg base (cD K ca Pd) 1 "reduced" st_reduced ["stream", "vector"] F_reduced := d_reduced T 
theorem e_count_in (T : Txt K mg ca) : Df P w K mg base (cD K ca Pd) 1 "count_in" st_count_in ["stream", "vector", "n"] F_count_in := d_count_in T 
theorem e_later (T : Txt K mg ca) : Df P w K mg base (cD K ca Pd) 2 "later" st_later ["stream", "vector", "n"] F_later := d_later T (e_reduced T)
theorem e_normal_in (T : Txt K mg ca) : Df P w K mg base (cD K ca Pd) 4 "normal_in" st_normal_in ["stream", "vector"] F_normal_in := d_normal_in T (e_count_in T) (e_e_of T) (e_later T) (e_reduced T)
theorem e_normal (T : Txt K mg ca) : Df P w K mg base (cD K ca Pd) 6 "normal" st_normal ["stream", "vector"] F_normal := d_normal T (e_need_below T) (e_need_span T) (e_need_vector T) (e_normal_in T)
theorem e__law_moved_vector (T : Txt K mg ca) : Df P w K mg base (cD K ca Pd) 3 "_law_moved_vector" st__law_moved_vector ["draw", "whole", "pairs", "vector", "most"] F__law_moved_vector := d__law_moved_vector T (e__law_take T)
theorem e_of_one_class (T : Txt K mg ca) : Df P w K mg base (cD K ca Pd) 5 "of_one_class" st_of_one_class ["stream", "one", "other"] F_of_one_class := d_of_one_class T (e_e_of T) (e_need_below T) (e_need_vector T)
theorem e__law_odd (T : Txt K mg ca) : Df P w K mg base (cD K ca Pd) 4 "_law_odd" st__law_odd ["draw"] F__law_odd := d__law_odd T (e__law_pick T)
theorem e_is_normal (T : Txt K mg ca) : Df P w K mg base (cD K ca Pd) 6 "is_normal" st_is_normal ["stream", "thing"] F_is_normal := d_is_normal T (e_is_vector T) (e_need_below T) (e_need_span T) (e_normal_in T)
theorem e__law_is_own_normal (T : Txt K mg ca) : Df P w K mg base (cD K ca Pd) 5 "_law_is_own_normal" st__law_is_own_normal ["whole", "pairs", "thing"] F__law_is_own_normal := d__law_is_own_normal T (e__law_normal T)
theorem e_need_between (T : Txt K mg ca) : Df P w K mg base (cD K ca Pd) 3 "need_between" st_need_between ["number", "low", "high", "part"] F_need_between := d_need_between T (e_is_between T)
theorem e_count_at (T : Txt K mg ca) : Df P w K mg base (cD K ca Pd) 5 "count_at" st_count_at ["stream", "vector", "n"] F_count_at := d_count_at T (e_count_in T) (e_need_below T) (e_need_between T) (e_need_vector T)
def LawOk : Prop := ∀ ns : List Int, ns.length ≤ 63 → b_law ((some (.val (.ro (ns.map .int))) :: List.replicate 18 none).set 1 (some (.val .drw))) ⟨fun _ => False, fun r => r = .val (.bl true), fun _ => False, fun _ => False⟩ (fun _ => False)
theorem law_all (T : Txt K mg ca) {fd fb : FuncData} (fl : Fun K "law" "law" st_law (ca "law") fd) (ff : Fun K "_law_begun" "_law_begun" st__law_begun (ca "_law_begun") fb) (ok : BegOk 3 b1_law_begun b2_law_begun) (pure : LawOk) : FnD P w K mg base 7 (ca "law") fd ["script"] (spL K) := by
  have FB := d__law_begun (P := P) (w := w) (base := base) T ok ff
  have kp := ff.kp
  obtain ⟨oc, od, kV, doc, pm, an, cdv, ct, osl, rfl, _, _⟩ := ff.ex
  exact law_fn (n := 18) (i := 1) (xb := "_law_begun") (xd := "draw") (stb := st__law_begun) (psb := ["script"]) (rest := (defBody st_law).tail) fl sc_law rfl rfl rfl rfl (by decide) ⟨"script", rfl, by first | exact .inl rfl | exact .inr (.inl rfl), by decide, by decide, rfl⟩ (by first | exact .inl rfl | exact .inr rfl) rfl (fun _ _ _ _ _ _ => rfl) (by decide) (fun _ _ _ _ _ _ _ => rfl) (fun _ _ _ _ _ _ _ => rfl)
    T.g__law_begun kp FB (by decide) (fun _ _ _ _ _ _ us ws h1 h2 => match us, ws, h1, h2 with | [_], [], _, _ => rfl) (fun cdv A outer s H E m Pd => d_law_rest T (e__law_count T) (e__law_is_own_normal T) (e__law_moved_vector T) (e__law_narrow T) (e__law_normal T) (e__law_odd T) (e__law_pick T) (e__law_says T) (e__law_take T) (e__law_vector T) (e_count_at T) (e_is_normal T) (e_normal T) (e_of_one_class T) (e_Stream T) cdv A outer s H E m) pure
end
theorem all_mk {l : PySem.W.OpenLaw} {w : World} {K : PySem.W.Frag} {h : Heap} {mg : Str → Option Value} {fa : Addr} (pure : LawOk) (beg : BegOk 3 b1_law_begun b2_law_begun) (X : K.In h) (G : h.Ns mainGlobals mg) (hfa : mg "law" = some (.ref fa))
    {oc0 kV0 dc0 pm0 cd0 ct0 : Value} {od0 an0 : Option Addr} {sl0 : Array (Option Value)} {f0 : Addr}
    {oc1 kV1 dc1 pm1 cd1 ct1 : Value} {od1 an1 : Option Addr} {sl1 : Array (Option Value)} {f1 : Addr}
    {oc2 kV2 dc2 pm2 cd2 ct2 : Value} {od2 an2 : Option Addr} {sl2 : Array (Option Value)} {f2 : Addr}
    {oc3 kV3 dc3 pm3 cd3 ct3 : Value} {od3 an3 : Option Addr} {sl3 : Array (Option Value)} {f3 : Addr}
    {oc4 kV4 dc4 pm4 cd4 ct4 : Value} {od4 an4 : Option Addr} {sl4 : Array (Option Value)} {f4 : Addr}
    {oc5 kV5 dc5 pm5 cd5 ct5 : Value} {od5 an5 : Option Addr} {sl5 : Array (Option Value)} {f5 : Addr}
    {oc6 kV6 dc6 pm6 cd6 ct6 : Value} {od6 an6 : Option Addr} {sl6 : Array (Option Value)} {f6 : Addr}
    {oc7 kV7 dc7 pm7 cd7 ct7 : Value} {od7 an7 : Option Addr} {sl7 : Array (Option Value)} {f7 : Addr}
    {oc8 kV8 dc8 pm8 cd8 ct8 : Value} {od8 an8 : Option Addr} {sl8 : Array (Option Value)} {f8 : Addr}
    {oc9 kV9 dc9 pm9 cd9 ct9 : Value} {od9 an9 : Option Addr} {sl9 : Array (Option Value)} {f9 : Addr}
    {oc10 kV10 dc10 pm10 cd10 ct10 : Value} {od10 an10 : Option Addr} {sl10 : Array (Option Value)} {f10 : Addr}
    {oc11 kV11 dc11 pm11 cd11 ct11 : Value} {od11 an11 : Option Addr} {sl11 : Array (Option Value)} {f11 : Addr}
    {oc12 kV12 dc12 pm12 cd12 ct12 : Value} {od12 an12 : Option Addr} {sl12 : Array (Option Value)} {f12 : Addr}
    {oc13 kV13 dc13 pm13 cd13 ct13 : Value} {od13 an13 : Option Addr} {sl13 : Array (Option Value)} {f13 : Addr}
    {oc14 kV14 dc14 pm14 cd14 ct14 : Value} {od14 an14 : Option Addr} {sl14 : Array (Option Value)} {f14 : Addr}
    {oc15 kV15 dc15 pm15 cd15 ct15 : Value} {od15 an15 : Option Addr} {sl15 : Array (Option Value)} {f15 : Addr}
    {oc16 kV16 dc16 pm16 cd16 ct16 : Value} {od16 an16 : Option Addr} {sl16 : Array (Option Value)} {f16 : Addr}
    {oc17 kV17 dc17 pm17 cd17 ct17 : Value} {od17 an17 : Option Addr} {sl17 : Array (Option Value)} {f17 : Addr}
    {oc18 kV18 dc18 pm18 cd18 ct18 : Value} {od18 an18 : Option Addr} {sl18 : Array (Option Value)} {f18 : Addr}
    {oc19 kV19 dc19 pm19 cd19 ct19 : Value} {od19 an19 : Option Addr} {sl19 : Array (Option Value)} {f19 : Addr}
    {oc20 kV20 dc20 pm20 cd20 ct20 : Value} {od20 an20 : Option Addr} {sl20 : Array (Option Value)} {f20 : Addr}
    {oc21 kV21 dc21 pm21 cd21 ct21 : Value} {od21 an21 : Option Addr} {sl21 : Array (Option Value)} {f21 : Addr}
    {oc22 kV22 dc22 pm22 cd22 ct22 : Value} {od22 an22 : Option Addr} {sl22 : Array (Option Value)} {f22 : Addr}
    {oc23 kV23 dc23 pm23 cd23 ct23 : Value} {od23 an23 : Option Addr} {sl23 : Array (Option Value)} {f23 : Addr}
    {oc24 kV24 dc24 pm24 cd24 ct24 : Value} {od24 an24 : Option Addr} {sl24 : Array (Option Value)} {f24 : Addr}
    {oc25 kV25 dc25 pm25 cd25 ct25 : Value} {od25 an25 : Option Addr} {sl25 : Array (Option Value)} {f25 : Addr}
    {oc26 kV26 dc26 pm26 cd26 ct26 : Value} {od26 an26 : Option Addr} {sl26 : Array (Option Value)} {f26 : Addr}
    {oc27 kV27 dc27 pm27 cd27 ct27 : Value} {od27 an27 : Option Addr} {sl27 : Array (Option Value)} {f27 : Addr}
    {oc28 kV28 dc28 pm28 cd28 ct28 : Value} {od28 an28 : Option Addr} {sl28 : Array (Option Value)} {f28 : Addr}
    {oc29 kV29 dc29 pm29 cd29 ct29 : Value} {od29 an29 : Option Addr} {sl29 : Array (Option Value)} {f29 : Addr}
    {oc30 kV30 dc30 pm30 cd30 ct30 : Value} {od30 an30 : Option Addr} {sl30 : Array (Option Value)} {f30 : Addr}
    {oc31 kV31 dc31 pm31 cd31 ct31 : Value} {od31 an31 : Option Addr} {sl31 : Array (Option Value)} {f31 : Addr}
    {oc32 kV32 dc32 pm32 cd32 ct32 : Value} {od32 an32 : Option Addr} {sl32 : Array (Option Value)} {f32 : Addr}
    {oc33 kV33 dc33 pm33 cd33 ct33 : Value} {od33 an33 : Option Addr} {sl33 : Array (Option Value)} {f33 : Addr}
    {oc34 kV34 dc34 pm34 cd34 ct34 : Value} {od34 an34 : Option Addr} {sl34 : Array (Option Value)} {f34 : Addr}
    {oc35 kV35 dc35 pm35 cd35 ct35 : Value} {od35 an35 : Option Addr} {sl35 : Array (Option Value)} {f35 : Addr}
    {oc36 kV36 dc36 pm36 cd36 ct36 : Value} {od36 an36 : Option Addr} {sl36 : Array (Option Value)} {f36 : Addr}
    {oc37 kV37 dc37 pm37 cd37 ct37 : Value} {od37 an37 : Option Addr} {sl37 : Array (Option Value)} {f37 : Addr}
    {oc38 kV38 dc38 pm38 cd38 ct38 : Value} {od38 an38 : Option Addr} {sl38 : Array (Option Value)} {f38 : Addr}
    {oc39 kV39 dc39 pm39 cd39 ct39 : Value} {od39 an39 : Option Addr} {sl39 : Array (Option Value)} {f39 : Addr}
    {oc40 kV40 dc40 pm40 cd40 ct40 : Value} {od40 an40 : Option Addr} {sl40 : Array (Option Value)} {f40 : Addr}
    {oc41 kV41 dc41 pm41 cd41 ct41 : Value} {od41 an41 : Option Addr} {sl41 : Array (Option Value)} {f41 : Addr}
    {oc42 kV42 dc42 pm42 cd42 ct42 : Value} {od42 an42 : Option Addr} {sl42 : Array (Option Value)} {f42 : Addr}
    {oc43 kV43 dc43 pm43 cd43 ct43 : Value} {od43 an43 : Option Addr} {sl43 : Array (Option Value)} {f43 : Addr}
    {oc44 kV44 dc44 pm44 cd44 ct44 : Value} {od44 an44 : Option Addr} {sl44 : Array (Option Value)} {f44 : Addr}
    {oc45 kV45 dc45 pm45 cd45 ct45 : Value} {od45 an45 : Option Addr} {sl45 : Array (Option Value)} {f45 : Addr}
    {xc0 xV0 xo0 xm0 xe0 xt0 : Value} {xd0 xn0 : Option Addr} {xl0 : Array (Option Value)} {C0 g0 : Addr}
    {ti_MOST_ITEM : Tok}
    {ti_MOST_PAIRS : Tok}
    {ti_MOST_PART : Tok}
    {ti_MOST_PLACE : Tok}
    {ti_MOST_SPAN : Tok}
    {ti_MOST_WHOLE : Tok}
    (a0 : PySem.W.nsIn K mainGlobals "_law_begun" = some (some (.ref f0)))
    (l0 : K.lookup f0 = some ⟨oc0, od0, .func (PySem.W.fnOf "_law_begun" "_law_begun" (defArgs st__law_begun) (defBody st__law_begun) (defScope st__law_begun) .none kV0 dc0 pm0 an0 cd0 ct0), sl0⟩)
    (c0 : PySem.W.codeIn K cd0 "_law_begun" = true)
    (k0 : PySem.W.keepIn K (.ref f0) = true)
    (a1 : PySem.W.nsIn K mainGlobals "_law_mixed" = some (some (.ref f1)))
    (l1 : K.lookup f1 = some ⟨oc1, od1, .func (PySem.W.fnOf "_law_mixed" "_law_mixed" (defArgs st__law_mixed) (defBody st__law_mixed) (defScope st__law_mixed) .none kV1 dc1 pm1 an1 cd1 ct1), sl1⟩)
    (c1 : PySem.W.codeIn K cd1 "_law_mixed" = true)
    (k1 : PySem.W.keepIn K (.ref f1) = true)
    (a2 : PySem.W.nsIn K mainGlobals "_law_take" = some (some (.ref f2)))
    (l2 : K.lookup f2 = some ⟨oc2, od2, .func (PySem.W.fnOf "_law_take" "_law_take" (defArgs st__law_take) (defBody st__law_take) (defScope st__law_take) .none kV2 dc2 pm2 an2 cd2 ct2), sl2⟩)
    (c2 : PySem.W.codeIn K cd2 "_law_take" = true)
    (k2 : PySem.W.keepIn K (.ref f2) = true)
    (a3 : PySem.W.nsIn K mainGlobals "_law_common" = some (some (.ref f3)))
    (l3 : K.lookup f3 = some ⟨oc3, od3, .func (PySem.W.fnOf "_law_common" "_law_common" (defArgs st__law_common) (defBody st__law_common) (defScope st__law_common) .none kV3 dc3 pm3 an3 cd3 ct3), sl3⟩)
    (c3 : PySem.W.codeIn K cd3 "_law_common" = true)
    (k3 : PySem.W.keepIn K (.ref f3) = true)
    (a4 : PySem.W.nsIn K mainGlobals "_law_pair" = some (some (.ref f4)))
    (l4 : K.lookup f4 = some ⟨oc4, od4, .func (PySem.W.fnOf "_law_pair" "_law_pair" (defArgs st__law_pair) (defBody st__law_pair) (defScope st__law_pair) .none kV4 dc4 pm4 an4 cd4 ct4), sl4⟩)
    (c4 : PySem.W.codeIn K cd4 "_law_pair" = true)
    (k4 : PySem.W.keepIn K (.ref f4) = true)
    (a5 : PySem.W.nsIn K mainGlobals "_law_parts" = some (some (.ref f5)))
    (l5 : K.lookup f5 = some ⟨oc5, od5, .func (PySem.W.fnOf "_law_parts" "_law_parts" (defArgs st__law_parts) (defBody st__law_parts) (defScope st__law_parts) .none kV5 dc5 pm5 an5 cd5 ct5), sl5⟩)
    (c5 : PySem.W.codeIn K cd5 "_law_parts" = true)
    (k5 : PySem.W.keepIn K (.ref f5) = true)
    (a6 : PySem.W.nsIn K mainGlobals "_law_e" = some (some (.ref f6)))
    (l6 : K.lookup f6 = some ⟨oc6, od6, .func (PySem.W.fnOf "_law_e" "_law_e" (defArgs st__law_e) (defBody st__law_e) (defScope st__law_e) .none kV6 dc6 pm6 an6 cd6 ct6), sl6⟩)
    (c6 : PySem.W.codeIn K cd6 "_law_e" = true)
    (k6 : PySem.W.keepIn K (.ref f6) = true)
    (a7 : PySem.W.nsIn K mainGlobals "_law_pick" = some (some (.ref f7)))
    (l7 : K.lookup f7 = some ⟨oc7, od7, .func (PySem.W.fnOf "_law_pick" "_law_pick" (defArgs st__law_pick) (defBody st__law_pick) (defScope st__law_pick) .none kV7 dc7 pm7 an7 cd7 ct7), sl7⟩)
    (c7 : PySem.W.codeIn K cd7 "_law_pick" = true)
    (k7 : PySem.W.keepIn K (.ref f7) = true)
    (a8 : PySem.W.nsIn K mainGlobals "_law_lower" = some (some (.ref f8)))
    (l8 : K.lookup f8 = some ⟨oc8, od8, .func (PySem.W.fnOf "_law_lower" "_law_lower" (defArgs st__law_lower) (defBody st__law_lower) (defScope st__law_lower) .none kV8 dc8 pm8 an8 cd8 ct8), sl8⟩)
    (c8 : PySem.W.codeIn K cd8 "_law_lower" = true)
    (k8 : PySem.W.keepIn K (.ref f8) = true)
    (a9 : PySem.W.nsIn K mainGlobals "_law_span" = some (some (.ref f9)))
    (l9 : K.lookup f9 = some ⟨oc9, od9, .func (PySem.W.fnOf "_law_span" "_law_span" (defArgs st__law_span) (defBody st__law_span) (defScope st__law_span) .none kV9 dc9 pm9 an9 cd9 ct9), sl9⟩)
    (c9 : PySem.W.codeIn K cd9 "_law_span" = true)
    (k9 : PySem.W.keepIn K (.ref f9) = true)
    (a10 : PySem.W.nsIn K mainGlobals "_law_narrow" = some (some (.ref f10)))
    (l10 : K.lookup f10 = some ⟨oc10, od10, .func (PySem.W.fnOf "_law_narrow" "_law_narrow" (defArgs st__law_narrow) (defBody st__law_narrow) (defScope st__law_narrow) .none kV10 dc10 pm10 an10 cd10 ct10), sl10⟩)
    (c10 : PySem.W.codeIn K cd10 "_law_narrow" = true)
    (k10 : PySem.W.keepIn K (.ref f10) = true)
    (a11 : PySem.W.nsIn K mainGlobals "is_list" = some (some (.ref f11)))
    (l11 : K.lookup f11 = some ⟨oc11, od11, .func (PySem.W.fnOf "is_list" "is_list" (defArgs st_is_list) (defBody st_is_list) (defScope st_is_list) .none kV11 dc11 pm11 an11 cd11 ct11), sl11⟩)
    (c11 : PySem.W.codeIn K cd11 "is_list" = true)
    (k11 : PySem.W.keepIn K (.ref f11) = true)
    (a12 : PySem.W.nsIn K mainGlobals "is_tuple" = some (some (.ref f12)))
    (l12 : K.lookup f12 = some ⟨oc12, od12, .func (PySem.W.fnOf "is_tuple" "is_tuple" (defArgs st_is_tuple) (defBody st_is_tuple) (defScope st_is_tuple) .none kV12 dc12 pm12 an12 cd12 ct12), sl12⟩)
    (c12 : PySem.W.codeIn K cd12 "is_tuple" = true)
    (k12 : PySem.W.keepIn K (.ref f12) = true)
    (a13 : PySem.W.nsIn K mainGlobals "is_number" = some (some (.ref f13)))
    (l13 : K.lookup f13 = some ⟨oc13, od13, .func (PySem.W.fnOf "is_number" "is_number" (defArgs st_is_number) (defBody st_is_number) (defScope st_is_number) .none kV13 dc13 pm13 an13 cd13 ct13), sl13⟩)
    (c13 : PySem.W.codeIn K cd13 "is_number" = true)
    (k13 : PySem.W.keepIn K (.ref f13) = true)
    (a14 : PySem.W.nsIn K mainGlobals "is_number_pair" = some (some (.ref f14)))
    (l14 : K.lookup f14 = some ⟨oc14, od14, .func (PySem.W.fnOf "is_number_pair" "is_number_pair" (defArgs st_is_number_pair) (defBody st_is_number_pair) (defScope st_is_number_pair) .none kV14 dc14 pm14 an14 cd14 ct14), sl14⟩)
    (c14 : PySem.W.codeIn K cd14 "is_number_pair" = true)
    (k14 : PySem.W.keepIn K (.ref f14) = true)
    (a15 : PySem.W.nsIn K mainGlobals "are_pairs" = some (some (.ref f15)))
    (l15 : K.lookup f15 = some ⟨oc15, od15, .func (PySem.W.fnOf "are_pairs" "are_pairs" (defArgs st_are_pairs) (defBody st_are_pairs) (defScope st_are_pairs) .none kV15 dc15 pm15 an15 cd15 ct15), sl15⟩)
    (c15 : PySem.W.codeIn K cd15 "are_pairs" = true)
    (k15 : PySem.W.keepIn K (.ref f15) = true)
    (a16 : PySem.W.nsIn K mainGlobals "is_between" = some (some (.ref f16)))
    (l16 : K.lookup f16 = some ⟨oc16, od16, .func (PySem.W.fnOf "is_between" "is_between" (defArgs st_is_between) (defBody st_is_between) (defScope st_is_between) .none kV16 dc16 pm16 an16 cd16 ct16), sl16⟩)
    (c16 : PySem.W.codeIn K cd16 "is_between" = true)
    (k16 : PySem.W.keepIn K (.ref f16) = true)
    (a17 : PySem.W.nsIn K mainGlobals "_law_vector" = some (some (.ref f17)))
    (l17 : K.lookup f17 = some ⟨oc17, od17, .func (PySem.W.fnOf "_law_vector" "_law_vector" (defArgs st__law_vector) (defBody st__law_vector) (defScope st__law_vector) .none kV17 dc17 pm17 an17 cd17 ct17), sl17⟩)
    (c17 : PySem.W.codeIn K cd17 "_law_vector" = true)
    (k17 : PySem.W.keepIn K (.ref f17) = true)
    (a18 : PySem.W.nsIn K mainGlobals "_law_count" = some (some (.ref f18)))
    (l18 : K.lookup f18 = some ⟨oc18, od18, .func (PySem.W.fnOf "_law_count" "_law_count" (defArgs st__law_count) (defBody st__law_count) (defScope st__law_count) .none kV18 dc18 pm18 an18 cd18 ct18), sl18⟩)
    (c18 : PySem.W.codeIn K cd18 "_law_count" = true)
    (k18 : PySem.W.keepIn K (.ref f18) = true)
    (a19 : PySem.W.nsIn K mainGlobals "_law_first_above" = some (some (.ref f19)))
    (l19 : K.lookup f19 = some ⟨oc19, od19, .func (PySem.W.fnOf "_law_first_above" "_law_first_above" (defArgs st__law_first_above) (defBody st__law_first_above) (defScope st__law_first_above) .none kV19 dc19 pm19 an19 cd19 ct19), sl19⟩)
    (c19 : PySem.W.codeIn K cd19 "_law_first_above" = true)
    (k19 : PySem.W.keepIn K (.ref f19) = true)
    (a20 : PySem.W.nsIn K mainGlobals "_law_reduced" = some (some (.ref f20)))
    (l20 : K.lookup f20 = some ⟨oc20, od20, .func (PySem.W.fnOf "_law_reduced" "_law_reduced" (defArgs st__law_reduced) (defBody st__law_reduced) (defScope st__law_reduced) .none kV20 dc20 pm20 an20 cd20 ct20), sl20⟩)
    (c20 : PySem.W.codeIn K cd20 "_law_reduced" = true)
    (k20 : PySem.W.keepIn K (.ref f20) = true)
    (a21 : PySem.W.nsIn K mainGlobals "_law_normal" = some (some (.ref f21)))
    (l21 : K.lookup f21 = some ⟨oc21, od21, .func (PySem.W.fnOf "_law_normal" "_law_normal" (defArgs st__law_normal) (defBody st__law_normal) (defScope st__law_normal) .none kV21 dc21 pm21 an21 cd21 ct21), sl21⟩)
    (c21 : PySem.W.codeIn K cd21 "_law_normal" = true)
    (k21 : PySem.W.keepIn K (.ref f21) = true)
    (a22 : PySem.W.nsIn K mainGlobals "_law_says" = some (some (.ref f22)))
    (l22 : K.lookup f22 = some ⟨oc22, od22, .func (PySem.W.fnOf "_law_says" "_law_says" (defArgs st__law_says) (defBody st__law_says) (defScope st__law_says) .none kV22 dc22 pm22 an22 cd22 ct22), sl22⟩)
    (c22 : PySem.W.codeIn K cd22 "_law_says" = true)
    (k22 : PySem.W.keepIn K (.ref f22) = true)
    (a23 : PySem.W.nsIn K mainGlobals "need_stream" = some (some (.ref f23)))
    (l23 : K.lookup f23 = some ⟨oc23, od23, .func (PySem.W.fnOf "need_stream" "need_stream" (defArgs st_need_stream) (defBody st_need_stream) (defScope st_need_stream) .none kV23 dc23 pm23 an23 cd23 ct23), sl23⟩)
    (c23 : PySem.W.codeIn K cd23 "need_stream" = true)
    (k23 : PySem.W.keepIn K (.ref f23) = true)
    (a24 : PySem.W.nsIn K mainGlobals "least_ratio" = some (some (.ref f24)))
    (l24 : K.lookup f24 = some ⟨oc24, od24, .func (PySem.W.fnOf "least_ratio" "least_ratio" (defArgs st_least_ratio) (defBody st_least_ratio) (defScope st_least_ratio) .none kV24 dc24 pm24 an24 cd24 ct24), sl24⟩)
    (c24 : PySem.W.codeIn K cd24 "least_ratio" = true)
    (k24 : PySem.W.keepIn K (.ref f24) = true)
    (a25 : PySem.W.nsIn K mainGlobals "ratio_plus" = some (some (.ref f25)))
    (l25 : K.lookup f25 = some ⟨oc25, od25, .func (PySem.W.fnOf "ratio_plus" "ratio_plus" (defArgs st_ratio_plus) (defBody st_ratio_plus) (defScope st_ratio_plus) .none kV25 dc25 pm25 an25 cd25 ct25), sl25⟩)
    (c25 : PySem.W.codeIn K cd25 "ratio_plus" = true)
    (k25 : PySem.W.keepIn K (.ref f25) = true)
    (a26 : PySem.W.nsIn K mainGlobals "e_of" = some (some (.ref f26)))
    (l26 : K.lookup f26 = some ⟨oc26, od26, .func (PySem.W.fnOf "e_of" "e_of" (defArgs st_e_of) (defBody st_e_of) (defScope st_e_of) .none kV26 dc26 pm26 an26 cd26 ct26), sl26⟩)
    (c26 : PySem.W.codeIn K cd26 "e_of" = true)
    (k26 : PySem.W.keepIn K (.ref f26) = true)
    (a27 : PySem.W.nsIn K mainGlobals "need_below" = some (some (.ref f27)))
    (l27 : K.lookup f27 = some ⟨oc27, od27, .func (PySem.W.fnOf "need_below" "need_below" (defArgs st_need_below) (defBody st_need_below) (defScope st_need_below) .none kV27 dc27 pm27 an27 cd27 ct27), sl27⟩)
    (c27 : PySem.W.codeIn K cd27 "need_below" = true)
    (k27 : PySem.W.keepIn K (.ref f27) = true)
    (a28 : PySem.W.nsIn K mainGlobals "is_vector" = some (some (.ref f28)))
    (l28 : K.lookup f28 = some ⟨oc28, od28, .func (PySem.W.fnOf "is_vector" "is_vector" (defArgs st_is_vector) (defBody st_is_vector) (defScope st_is_vector) .none kV28 dc28 pm28 an28 cd28 ct28), sl28⟩)
    (c28 : PySem.W.codeIn K cd28 "is_vector" = true)
    (k28 : PySem.W.keepIn K (.ref f28) = true)
    (a29 : PySem.W.nsIn K mainGlobals "need_vector" = some (some (.ref f29)))
    (l29 : K.lookup f29 = some ⟨oc29, od29, .func (PySem.W.fnOf "need_vector" "need_vector" (defArgs st_need_vector) (defBody st_need_vector) (defScope st_need_vector) .none kV29 dc29 pm29 an29 cd29 ct29), sl29⟩)
    (c29 : PySem.W.codeIn K cd29 "need_vector" = true)
    (k29 : PySem.W.keepIn K (.ref f29) = true)
    (a30 : PySem.W.nsIn K mainGlobals "need_few" = some (some (.ref f30)))
    (l30 : K.lookup f30 = some ⟨oc30, od30, .func (PySem.W.fnOf "need_few" "need_few" (defArgs st_need_few) (defBody st_need_few) (defScope st_need_few) .none kV30 dc30 pm30 an30 cd30 ct30), sl30⟩)
    (c30 : PySem.W.codeIn K cd30 "need_few" = true)
    (k30 : PySem.W.keepIn K (.ref f30) = true)
    (a31 : PySem.W.nsIn K mainGlobals "span_of" = some (some (.ref f31)))
    (l31 : K.lookup f31 = some ⟨oc31, od31, .func (PySem.W.fnOf "span_of" "span_of" (defArgs st_span_of) (defBody st_span_of) (defScope st_span_of) .none kV31 dc31 pm31 an31 cd31 ct31), sl31⟩)
    (c31 : PySem.W.codeIn K cd31 "span_of" = true)
    (k31 : PySem.W.keepIn K (.ref f31) = true)
    (a32 : PySem.W.nsIn K mainGlobals "need_span" = some (some (.ref f32)))
    (l32 : K.lookup f32 = some ⟨oc32, od32, .func (PySem.W.fnOf "need_span" "need_span" (defArgs st_need_span) (defBody st_need_span) (defScope st_need_span) .none kV32 dc32 pm32 an32 cd32 ct32), sl32⟩)
    (c32 : PySem.W.codeIn K cd32 "need_span" = true)
    (k32 : PySem.W.keepIn K (.ref f32) = true)
    (a33 : PySem.W.nsIn K mainGlobals "reduced" = some (some (.ref f33)))
    (l33 : K.lookup f33 = some ⟨oc33, od33, .func (PySem.W.fnOf "reduced" "reduced" (defArgs st_reduced) (defBody st_reduced) (defScope st_reduced) .none kV33 dc33 pm33 an33 cd33 ct33), sl33⟩)
    (c33 : PySem.W.codeIn K cd33 "reduced" = true)
    (k33 : PySem.W.keepIn K (.ref f33) = true)
    (a34 : PySem.W.nsIn K mainGlobals "count_in" = some (some (.ref f34)))
    (l34 : K.lookup f34 = some ⟨oc34, od34, .func (PySem.W.fnOf "count_in" "count_in" (defArgs st_count_in) (defBody st_count_in) (defScope st_count_in) .none kV34 dc34 pm34 an34 cd34 ct34), sl34⟩)
    (c34 : PySem.W.codeIn K cd34 "count_in" = true)
    (k34 : PySem.W.keepIn K (.ref f34) = true)
    (a35 : PySem.W.nsIn K mainGlobals "later" = some (some (.ref f35)))
    (l35 : K.lookup f35 = some ⟨oc35, od35, .func (PySem.W.fnOf "later" "later" (defArgs st_later) (defBody st_later) (defScope st_later) .none kV35 dc35 pm35 an35 cd35 ct35), sl35⟩)
    (c35 : PySem.W.codeIn K cd35 "later" = true)
    (k35 : PySem.W.keepIn K (.ref f35) = true)
    (a36 : PySem.W.nsIn K mainGlobals "normal_in" = some (some (.ref f36)))
    (l36 : K.lookup f36 = some ⟨oc36, od36, .func (PySem.W.fnOf "normal_in" "normal_in" (defArgs st_normal_in) (defBody st_normal_in) (defScope st_normal_in) .none kV36 dc36 pm36 an36 cd36 ct36), sl36⟩)
    (c36 : PySem.W.codeIn K cd36 "normal_in" = true)
    (k36 : PySem.W.keepIn K (.ref f36) = true)
    (a37 : PySem.W.nsIn K mainGlobals "normal" = some (some (.ref f37)))
    (l37 : K.lookup f37 = some ⟨oc37, od37, .func (PySem.W.fnOf "normal" "normal" (defArgs st_normal) (defBody st_normal) (defScope st_normal) .none kV37 dc37 pm37 an37 cd37 ct37), sl37⟩)
    (c37 : PySem.W.codeIn K cd37 "normal" = true)
    (k37 : PySem.W.keepIn K (.ref f37) = true)
    (a38 : PySem.W.nsIn K mainGlobals "_law_moved_vector" = some (some (.ref f38)))
    (l38 : K.lookup f38 = some ⟨oc38, od38, .func (PySem.W.fnOf "_law_moved_vector" "_law_moved_vector" (defArgs st__law_moved_vector) (defBody st__law_moved_vector) (defScope st__law_moved_vector) .none kV38 dc38 pm38 an38 cd38 ct38), sl38⟩)
    (c38 : PySem.W.codeIn K cd38 "_law_moved_vector" = true)
    (k38 : PySem.W.keepIn K (.ref f38) = true)
    (a39 : PySem.W.nsIn K mainGlobals "of_one_class" = some (some (.ref f39)))
    (l39 : K.lookup f39 = some ⟨oc39, od39, .func (PySem.W.fnOf "of_one_class" "of_one_class" (defArgs st_of_one_class) (defBody st_of_one_class) (defScope st_of_one_class) .none kV39 dc39 pm39 an39 cd39 ct39), sl39⟩)
    (c39 : PySem.W.codeIn K cd39 "of_one_class" = true)
    (k39 : PySem.W.keepIn K (.ref f39) = true)
    (a40 : PySem.W.nsIn K mainGlobals "_law_odd" = some (some (.ref f40)))
    (l40 : K.lookup f40 = some ⟨oc40, od40, .func (PySem.W.fnOf "_law_odd" "_law_odd" (defArgs st__law_odd) (defBody st__law_odd) (defScope st__law_odd) .none kV40 dc40 pm40 an40 cd40 ct40), sl40⟩)
    (c40 : PySem.W.codeIn K cd40 "_law_odd" = true)
    (k40 : PySem.W.keepIn K (.ref f40) = true)
    (a41 : PySem.W.nsIn K mainGlobals "is_normal" = some (some (.ref f41)))
    (l41 : K.lookup f41 = some ⟨oc41, od41, .func (PySem.W.fnOf "is_normal" "is_normal" (defArgs st_is_normal) (defBody st_is_normal) (defScope st_is_normal) .none kV41 dc41 pm41 an41 cd41 ct41), sl41⟩)
    (c41 : PySem.W.codeIn K cd41 "is_normal" = true)
    (k41 : PySem.W.keepIn K (.ref f41) = true)
    (a42 : PySem.W.nsIn K mainGlobals "_law_is_own_normal" = some (some (.ref f42)))
    (l42 : K.lookup f42 = some ⟨oc42, od42, .func (PySem.W.fnOf "_law_is_own_normal" "_law_is_own_normal" (defArgs st__law_is_own_normal) (defBody st__law_is_own_normal) (defScope st__law_is_own_normal) .none kV42 dc42 pm42 an42 cd42 ct42), sl42⟩)
    (c42 : PySem.W.codeIn K cd42 "_law_is_own_normal" = true)
    (k42 : PySem.W.keepIn K (.ref f42) = true)
    (a43 : PySem.W.nsIn K mainGlobals "need_between" = some (some (.ref f43)))
    (l43 : K.lookup f43 = some ⟨oc43, od43, .func (PySem.W.fnOf "need_between" "need_between" (defArgs st_need_between) (defBody st_need_between) (defScope st_need_between) .none kV43 dc43 pm43 an43 cd43 ct43), sl43⟩)
    (c43 : PySem.W.codeIn K cd43 "need_between" = true)
    (k43 : PySem.W.keepIn K (.ref f43) = true)
    (a44 : PySem.W.nsIn K mainGlobals "count_at" = some (some (.ref f44)))
    (l44 : K.lookup f44 = some ⟨oc44, od44, .func (PySem.W.fnOf "count_at" "count_at" (defArgs st_count_at) (defBody st_count_at) (defScope st_count_at) .none kV44 dc44 pm44 an44 cd44 ct44), sl44⟩)
    (c44 : PySem.W.codeIn K cd44 "count_at" = true)
    (k44 : PySem.W.keepIn K (.ref f44) = true)
    (a45 : PySem.W.nsIn K mainGlobals "law" = some (some (.ref f45)))
    (l45 : K.lookup f45 = some ⟨oc45, od45, .func (PySem.W.fnOf "law" "law" (defArgs st_law) (defBody st_law) (defScope st_law) .none kV45 dc45 pm45 an45 cd45 ct45), sl45⟩)
    (c45 : PySem.W.codeIn K cd45 "law" = true)
    (k45 : PySem.W.keepIn K (.ref f45) = true)
    (aC0 : PySem.W.nsIn K mainGlobals "Stream" = some (some (.ref C0)))
    (iC0 : PySem.W.findIn K (.ref C0) "__init__" = some (some (.ref g0)))
    (nC0 : PySem.W.isFn K (.ref g0) = true)
    (lC0 : K.lookup g0 = some ⟨xc0, xd0, .func (PySem.W.fnOf "__init__" "Stream.__init__" (defArgs st_Stream) (defBody st_Stream) (defScope st_Stream) .none xV0 xo0 xm0 xn0 xe0 xt0), xl0⟩)
    (cC0 : PySem.W.codeIn K xe0 "Stream.__init__" = true)
    (kI0 : PySem.W.keepIn K (.ref g0) = true)
    (mC0 : PySem.W.makesIn K C0 = true)
    (kC0 : PySem.W.keepIn K (.ref C0) = true)
    (pg0 : PySem.W.plainGet K C0 Str.empty = true)
    (hd0 : PySem.W.hasDictIn K C0 = true)
    (po0 : PySem.W.plainOver K C0 = true)
    (sa0 : PySem.W.findIn K (.ref C0) "__setattr__" = some (some (.builtin "object.__setattr__")))
    (hc0 : PySem.W.findIn K (.ref C0) "__class__" = some (some (.builtin "object.__class__")))
    (mo0 : PySem.W.mroIn K C0 (.type "object") = some true)
    (na0_whole : PySem.W.findIn K (.ref C0) "whole" = some none)
    (na0_pairs : PySem.W.findIn K (.ref C0) "pairs" = some none)
    (ic0 : PySem.W.isClsIn K C0 = true)
    (tc0 : PySem.W.typeIn K (.ref C0) = some (.type "type"))
    (cb0_int : PySem.W.mroIn K C0 (.type "int") = some false)
    (cb0_bool : PySem.W.mroIn K C0 (.type "bool") = some false)
    (cb0_tuple : PySem.W.mroIn K C0 (.type "tuple") = some false)
    (cb0_list : PySem.W.mroIn K C0 (.type "list") = some false)
    (cb0_str : PySem.W.mroIn K C0 (.type "str") = some false)
    (cb0_dict : PySem.W.mroIn K C0 (.type "dict") = some false)
    (cb0_float : PySem.W.mroIn K C0 (.type "float") = some false)
    (cc0_0 : PySem.W.mroIn K C0 (.ref C0) = some true)
    (hn : PySem.W.specialIn K (.builtin "object.__class__") "__get__" = some (some (.builtin "getset_descriptor.__get__")))
    (htk : PySem.W.takesIn K (.builtin "object.__class__") = some true)
    (zb_abs : PySem.W.nsIn K mainGlobals "abs" = some none)
    (zb_all : PySem.W.nsIn K mainGlobals "all" = some none)
    (zb_bool : PySem.W.nsIn K mainGlobals "bool" = some none)
    (zb_enumerate : PySem.W.nsIn K mainGlobals "enumerate" = some none)
    (zb_int : PySem.W.nsIn K mainGlobals "int" = some none)
    (zb_isinstance : PySem.W.nsIn K mainGlobals "isinstance" = some none)
    (zb_len : PySem.W.nsIn K mainGlobals "len" = some none)
    (zb_list : PySem.W.nsIn K mainGlobals "list" = some none)
    (zb_min : PySem.W.nsIn K mainGlobals "min" = some none)
    (zb_range : PySem.W.nsIn K mainGlobals "range" = some none)
    (zb_repr : PySem.W.nsIn K mainGlobals "repr" = some none)
    (zb_sum : PySem.W.nsIn K mainGlobals "sum" = some none)
    (zb_tuple : PySem.W.nsIn K mainGlobals "tuple" = some none)
    (zb_zip : PySem.W.nsIn K mainGlobals "zip" = some none)
    (zm_gcd : PySem.W.nsIn K mainGlobals "gcd" = some (some (.builtin "math.gcd")))
    (zi_MOST_ITEM : PySem.W.nsIn K mainGlobals "MOST_ITEM" = some (some (.int 1000000000 ti_MOST_ITEM)))
    (zi_MOST_PAIRS : PySem.W.nsIn K mainGlobals "MOST_PAIRS" = some (some (.int 6 ti_MOST_PAIRS)))
    (zi_MOST_PART : PySem.W.nsIn K mainGlobals "MOST_PART" = some (some (.int 60 ti_MOST_PART)))
    (zi_MOST_PLACE : PySem.W.nsIn K mainGlobals "MOST_PLACE" = some (some (.int 1000000000000000000000000000000 ti_MOST_PLACE)))
    (zi_MOST_SPAN : PySem.W.nsIn K mainGlobals "MOST_SPAN" = some (some (.int 20000 ti_MOST_SPAN)))
    (zi_MOST_WHOLE : PySem.W.nsIn K mainGlobals "MOST_WHOLE" = some (some (.int 20 ti_MOST_WHOLE))) :
    ∃ fd : FuncData, (∀ (s : Shared) (u : Value), BindsTo s fd ⟨[u], []⟩ [(("script" : Str), u)]) ∧ ∀ base : Heap, K.In base → base.Ns mainGlobals mg → FnD l.prog w K mg base 7 fa fd ["script"] (spL K) := by
  obtain ⟨ca, hca⟩ := exists_ca ([(("_law_begun" : Str), f0), (("_law_mixed" : Str), f1), (("_law_take" : Str), f2), (("_law_common" : Str), f3), (("_law_pair" : Str), f4), (("_law_parts" : Str), f5), (("_law_e" : Str), f6), (("_law_pick" : Str), f7), (("_law_lower" : Str), f8), (("_law_span" : Str), f9), (("_law_narrow" : Str), f10), (("is_list" : Str), f11), (("is_tuple" : Str), f12), (("is_number" : Str), f13), (("is_number_pair" : Str), f14), (("are_pairs" : Str), f15), (("is_between" : Str), f16), (("_law_vector" : Str), f17), (("_law_count" : Str), f18), (("_law_first_above" : Str), f19), (("_law_reduced" : Str), f20), (("_law_normal" : Str), f21), (("_law_says" : Str), f22), (("need_stream" : Str), f23), (("least_ratio" : Str), f24), (("ratio_plus" : Str), f25), (("e_of" : Str), f26), (("need_below" : Str), f27), (("is_vector" : Str), f28), (("need_vector" : Str), f29), (("need_few" : Str), f30), (("span_of" : Str), f31), (("need_span" : Str), f32), (("reduced" : Str), f33), (("count_in" : Str), f34), (("later" : Str), f35), (("normal_in" : Str), f36), (("normal" : Str), f37), (("_law_moved_vector" : Str), f38), (("of_one_class" : Str), f39), (("_law_odd" : Str), f40), (("is_normal" : Str), f41), (("_law_is_own_normal" : Str), f42), (("need_between" : Str), f43), (("count_at" : Str), f44), (("law" : Str), f45), (("Stream" : Str), C0)] : List (Str × Addr)) (show ([("_law_begun" : Str), ("_law_mixed" : Str), ("_law_take" : Str), ("_law_common" : Str), ("_law_pair" : Str), ("_law_parts" : Str), ("_law_e" : Str), ("_law_pick" : Str), ("_law_lower" : Str), ("_law_span" : Str), ("_law_narrow" : Str), ("is_list" : Str), ("is_tuple" : Str), ("is_number" : Str), ("is_number_pair" : Str), ("are_pairs" : Str), ("is_between" : Str), ("_law_vector" : Str), ("_law_count" : Str), ("_law_first_above" : Str), ("_law_reduced" : Str), ("_law_normal" : Str), ("_law_says" : Str), ("need_stream" : Str), ("least_ratio" : Str), ("ratio_plus" : Str), ("e_of" : Str), ("need_below" : Str), ("is_vector" : Str), ("need_vector" : Str), ("need_few" : Str), ("span_of" : Str), ("need_span" : Str), ("reduced" : Str), ("count_in" : Str), ("later" : Str), ("normal_in" : Str), ("normal" : Str), ("_law_moved_vector" : Str), ("of_one_class" : Str), ("_law_odd" : Str), ("is_normal" : Str), ("_law_is_own_normal" : Str), ("need_between" : Str), ("count_at" : Str), ("law" : Str), ("Stream" : Str)] : List Str).Nodup by decide +kernel)
  obtain ⟨e0, e1, e2, e3, e4, e5, e6, e7, e8, e9, e10, e11, e12, e13, e14, e15, e16, e17, e18, e19, e20, e21, e22, e23, e24, e25, e26, e27, e28, e29, e30, e31, e32, e33, e34, e35, e36, e37, e38, e39, e40, e41, e42, e43, e44, e45, e46, -⟩ := hca
  subst e0; subst e1; subst e2; subst e3; subst e4; subst e5; subst e6; subst e7; subst e8; subst e9; subst e10; subst e11; subst e12; subst e13; subst e14; subst e15; subst e16; subst e17; subst e18; subst e19; subst e20; subst e21; subst e22; subst e23; subst e24; subst e25; subst e26; subst e27; subst e28; subst e29; subst e30; subst e31; subst e32; subst e33; subst e34; subst e35; subst e36; subst e37; subst e38; subst e39; subst e40; subst e41; subst e42; subst e43; subst e44; subst e45; subst e46
  have el := hfa.symm.trans (PySem.W.mg_of X G a45)
  cases el
  have T : Txt K mg ca := {
    g__law_begun := PySem.W.mg_of X G a0,
    f__law_begun := ⟨_, fun_mk (st := st__law_begun) l0 c0 k0⟩,
    g__law_mixed := PySem.W.mg_of X G a1,
    f__law_mixed := ⟨_, fun_mk (st := st__law_mixed) l1 c1 k1⟩,
    g__law_take := PySem.W.mg_of X G a2,
    f__law_take := ⟨_, fun_mk (st := st__law_take) l2 c2 k2⟩,
    g__law_common := PySem.W.mg_of X G a3,
    f__law_common := ⟨_, fun_mk (st := st__law_common) l3 c3 k3⟩,
    g__law_pair := PySem.W.mg_of X G a4,
    f__law_pair := ⟨_, fun_mk (st := st__law_pair) l4 c4 k4⟩,
    g__law_parts := PySem.W.mg_of X G a5,
    f__law_parts := ⟨_, fun_mk (st := st__law_parts) l5 c5 k5⟩,
    g__law_e := PySem.W.mg_of X G a6,
    f__law_e := ⟨_, fun_mk (st := st__law_e) l6 c6 k6⟩,
    g__law_pick := PySem.W.mg_of X G a7,
    f__law_pick := ⟨_, fun_mk (st := st__law_pick) l7 c7 k7⟩,
    g__law_lower := PySem.W.mg_of X G a8,
    f__law_lower := ⟨_, fun_mk (st := st__law_lower) l8 c8 k8⟩,
    g__law_span := PySem.W.mg_of X G a9,
    f__law_span := ⟨_, fun_mk (st := st__law_span) l9 c9 k9⟩,
    g__law_narrow := PySem.W.mg_of X G a10,
    f__law_narrow := ⟨_, fun_mk (st := st__law_narrow) l10 c10 k10⟩,
    g_is_list := PySem.W.mg_of X G a11,
    f_is_list := ⟨_, fun_mk (st := st_is_list) l11 c11 k11⟩,
    g_is_tuple := PySem.W.mg_of X G a12,
    f_is_tuple := ⟨_, fun_mk (st := st_is_tuple) l12 c12 k12⟩,
    g_is_number := PySem.W.mg_of X G a13,
    f_is_number := ⟨_, fun_mk (st := st_is_number) l13 c13 k13⟩,
    g_is_number_pair := PySem.W.mg_of X G a14,
    f_is_number_pair := ⟨_, fun_mk (st := st_is_number_pair) l14 c14 k14⟩,
    g_are_pairs := PySem.W.mg_of X G a15,
    f_are_pairs := ⟨_, fun_mk (st := st_are_pairs) l15 c15 k15⟩,
    g_is_between := PySem.W.mg_of X G a16,
    f_is_between := ⟨_, fun_mk (st := st_is_between) l16 c16 k16⟩,
    g__law_vector := PySem.W.mg_of X G a17,
    f__law_vector := ⟨_, fun_mk (st := st__law_vector) l17 c17 k17⟩,
    g__law_count := PySem.W.mg_of X G a18,
    f__law_count := ⟨_, fun_mk (st := st__law_count) l18 c18 k18⟩,
    g__law_first_above := PySem.W.mg_of X G a19,
    f__law_first_above := ⟨_, fun_mk (st := st__law_first_above) l19 c19 k19⟩,
    g__law_reduced := PySem.W.mg_of X G a20,
    f__law_reduced := ⟨_, fun_mk (st := st__law_reduced) l20 c20 k20⟩,
    g__law_normal := PySem.W.mg_of X G a21,
    f__law_normal := ⟨_, fun_mk (st := st__law_normal) l21 c21 k21⟩,
    g__law_says := PySem.W.mg_of X G a22,
    f__law_says := ⟨_, fun_mk (st := st__law_says) l22 c22 k22⟩,
    g_need_stream := PySem.W.mg_of X G a23,
    f_need_stream := ⟨_, fun_mk (st := st_need_stream) l23 c23 k23⟩,
    g_least_ratio := PySem.W.mg_of X G a24,
    f_least_ratio := ⟨_, fun_mk (st := st_least_ratio) l24 c24 k24⟩,
    g_ratio_plus := PySem.W.mg_of X G a25,
    f_ratio_plus := ⟨_, fun_mk (st := st_ratio_plus) l25 c25 k25⟩,
    g_e_of := PySem.W.mg_of X G a26,
    f_e_of := ⟨_, fun_mk (st := st_e_of) l26 c26 k26⟩,
    g_need_below := PySem.W.mg_of X G a27,
    f_need_below := ⟨_, fun_mk (st := st_need_below) l27 c27 k27⟩,
    g_is_vector := PySem.W.mg_of X G a28,
    f_is_vector := ⟨_, fun_mk (st := st_is_vector) l28 c28 k28⟩,
    g_need_vector := PySem.W.mg_of X G a29,
    f_need_vector := ⟨_, fun_mk (st := st_need_vector) l29 c29 k29⟩,
    g_need_few := PySem.W.mg_of X G a30,
    f_need_few := ⟨_, fun_mk (st := st_need_few) l30 c30 k30⟩,
    g_span_of := PySem.W.mg_of X G a31,
    f_span_of := ⟨_, fun_mk (st := st_span_of) l31 c31 k31⟩,
    g_need_span := PySem.W.mg_of X G a32,
    f_need_span := ⟨_, fun_mk (st := st_need_span) l32 c32 k32⟩,
    g_reduced := PySem.W.mg_of X G a33,
    f_reduced := ⟨_, fun_mk (st := st_reduced) l33 c33 k33⟩,
    g_count_in := PySem.W.mg_of X G a34,
    f_count_in := ⟨_, fun_mk (st := st_count_in) l34 c34 k34⟩,
    g_later := PySem.W.mg_of X G a35,
    f_later := ⟨_, fun_mk (st := st_later) l35 c35 k35⟩,
    g_normal_in := PySem.W.mg_of X G a36,
    f_normal_in := ⟨_, fun_mk (st := st_normal_in) l36 c36 k36⟩,
    g_normal := PySem.W.mg_of X G a37,
    f_normal := ⟨_, fun_mk (st := st_normal) l37 c37 k37⟩,
    g__law_moved_vector := PySem.W.mg_of X G a38,
    f__law_moved_vector := ⟨_, fun_mk (st := st__law_moved_vector) l38 c38 k38⟩,
    g_of_one_class := PySem.W.mg_of X G a39,
    f_of_one_class := ⟨_, fun_mk (st := st_of_one_class) l39 c39 k39⟩,
    g__law_odd := PySem.W.mg_of X G a40,
    f__law_odd := ⟨_, fun_mk (st := st__law_odd) l40 c40 k40⟩,
    g_is_normal := PySem.W.mg_of X G a41,
    f_is_normal := ⟨_, fun_mk (st := st_is_normal) l41 c41 k41⟩,
    g__law_is_own_normal := PySem.W.mg_of X G a42,
    f__law_is_own_normal := ⟨_, fun_mk (st := st__law_is_own_normal) l42 c42 k42⟩,
    g_need_between := PySem.W.mg_of X G a43,
    f_need_between := ⟨_, fun_mk (st := st_need_between) l43 c43 k43⟩,
    g_count_at := PySem.W.mg_of X G a44,
    f_count_at := ⟨_, fun_mk (st := st_count_at) l44 c44 k44⟩,
    f_law := ⟨_, fun_mk (st := st_law) l45 c45 k45⟩,
    g_Stream := PySem.W.mg_of X G aC0,
    f_Stream := ⟨g0, _, ⟨mC0, iC0, nC0, kC0⟩, fun_mk (st := st_Stream) lC0 cC0 kI0⟩,
    cl_Stream := ⟨pg0, hd0, po0, sa0⟩,
    ha_Stream := hc0,
    hm_Stream := mo0,
    na_Stream_whole := na0_whole,
    na_Stream_pairs := na0_pairs,
    hn := hn,
    htk := htk,
    kt := ⟨by
      intro C hC U hU
      simp only [Cs, UsD, List.mem_cons, List.mem_nil_iff, or_false] at hC hU
      rcases hC with rfl <;> rcases hU with rfl | rfl | rfl | rfl | rfl | rfl | rfl | rfl
      · exact kitC rfl ic0 tc0 rfl
      · exact kitC rfl ic0 tc0 rfl
      · exact kitC rfl ic0 tc0 rfl
      · exact kitC rfl ic0 tc0 rfl
      · exact kitC rfl ic0 tc0 rfl
      · exact kitC rfl ic0 tc0 rfl
      · exact kitC rfl ic0 tc0 rfl
      · exact kitC rfl ic0 tc0 rfl
      , by
      intro C hC U hU
      simp only [Cs, TsD, List.mem_cons, List.mem_nil_iff, or_false] at hC hU
      rcases hC with rfl <;> rcases hU with rfl | rfl | rfl | rfl | rfl | rfl | rfl
      · exact kitCB rfl cb0_int
      · exact kitCB rfl cb0_bool
      · exact kitCB rfl cb0_tuple
      · exact kitCB rfl cb0_list
      · exact kitCB rfl cb0_str
      · exact kitCB rfl cb0_dict
      · exact kitCB rfl cb0_float
      , by
      intro C hC C' hC'
      simp only [Cs, List.mem_cons, List.mem_nil_iff, or_false] at hC hC'
      rcases hC with rfl <;> rcases hC' with rfl
      · simpa using (kitCS (K := K) (C := ca "Stream"))⟩,
    b_abs := PySem.W.mg_none_of X G zb_abs,
    b_all := PySem.W.mg_none_of X G zb_all,
    b_bool := PySem.W.mg_none_of X G zb_bool,
    b_enumerate := PySem.W.mg_none_of X G zb_enumerate,
    b_int := PySem.W.mg_none_of X G zb_int,
    b_isinstance := PySem.W.mg_none_of X G zb_isinstance,
    b_len := PySem.W.mg_none_of X G zb_len,
    b_list := PySem.W.mg_none_of X G zb_list,
    b_min := PySem.W.mg_none_of X G zb_min,
    b_range := PySem.W.mg_none_of X G zb_range,
    b_repr := PySem.W.mg_none_of X G zb_repr,
    b_sum := PySem.W.mg_none_of X G zb_sum,
    b_tuple := PySem.W.mg_none_of X G zb_tuple,
    b_zip := PySem.W.mg_none_of X G zb_zip,
    m_gcd := PySem.W.mg_of X G zm_gcd,
    i_MOST_ITEM := ⟨_, PySem.W.mg_of X G zi_MOST_ITEM⟩,
    i_MOST_PAIRS := ⟨_, PySem.W.mg_of X G zi_MOST_PAIRS⟩,
    i_MOST_PART := ⟨_, PySem.W.mg_of X G zi_MOST_PART⟩,
    i_MOST_PLACE := ⟨_, PySem.W.mg_of X G zi_MOST_PLACE⟩,
    i_MOST_SPAN := ⟨_, PySem.W.mg_of X G zi_MOST_SPAN⟩,
    i_MOST_WHOLE := ⟨_, PySem.W.mg_of X G zi_MOST_WHOLE⟩ }
  exact ⟨_, fun s u => .of_eq rfl, fun base _ _ => law_all T (fun_mk (st := st_law) l45 c45 k45) (fun_mk (st := st__law_begun) l0 c0 k0) beg pure⟩
end K58

set_option Elab.async false
set_option linter.all false
set_option maxRecDepth 100000
set_option maxHeartbeats 4000000
namespace K58
open PySem Dv
theorem bits_le {j : Int} (h : j.natAbs < 2 ^ 60) : Builtin.Int.intBits j ≤ 64 := by
  unfold Builtin.Int.intBits
  split
  · exact Nat.zero_le _
  · rename_i hj
    have h0 : j.natAbs ≠ 0 := by
      intro z
      apply hj
      have : j = 0 := by omega
      rw [this]; rfl
    have := (Nat.log2_lt h0).mpr h
    omega
theorem mulok (i j : Int) (h : j.natAbs < 2 ^ 60) : IntMulOk i j := IntMulOk.of_right (bits_le h)
theorem fmod_nn (i : Int) {n : Int} (h : 0 < n) : 0 ≤ i.fmod n := by rw [Int.fmod_eq_emod_of_nonneg _ (by omega)]; exact Int.emod_nonneg _ (by omega)
theorem fmod_lt (i : Int) {n : Int} (h : 0 < n) : i.fmod n < n := by rw [Int.fmod_eq_emod_of_nonneg _ (by omega)]; exact Int.emod_lt_of_pos _ h
theorem sp_mixed (k : Rv → Prop) (E : Exn → Prop) (h : ∀ i : Int, k (.val (.int i))) : F__law_mixed [.drw] k E := by
  simp [F__law_mixed, dfS, startD, sCons, sNil, sSetN, sSetB, sOwnN, sOwnB, sIf, sRetB, sRetNone, sRetO, sFor, sAsgN, sAsgB, sParN, sParB, slotR, lfR, sExpr, sAppN, sAppB, augI, gTup_t, gCons_c, gCons_n, gNil_n, gNil_c, gN, dVar, dC, vR, rV, rBin, cBin, bV, bTru, bNot, bAnd, bOr, vAnd, vOr, vNot, rIf, vIf, dNeg, dTup, dLst, dTupS, dLstS, aNil, aCons, aStar, rCall, dCall, dCallK, pick, on1, on2, dLen, i1, i2, dInt, dIsi, dTru, dFld, rCut, oNone, oSome, dCut, iOf, iArg, zip2_e, enu1_e, rng1, rng2, rComp, bYes, cChain, dAdd, dSub, dMul, dFd, dMd, dPw, iI, iC, frz, viewN, viewB, wipeV, toSl, D.items, vDr, iDr, sDrPut, rDrNext, vDct, sNever, L2.atI, dIx, dList, dTuple, dEq, dNe, D.okd, okdL, D.eqb, PyData.eqv, D.py, pyL, dSum, dAll, dAny, L2.ixN, dNotB, dIsB, dIsN, dNotN, D.isNon]
  intro n
  refine forD_inv (fun rest ρ => (∀ d ∈ rest, ∃ g : Int, d = .int g ∧ 0 < g ∧ g < 2 ^ 40) ∧ ∃ f : Int, ∃ a b c, ρ = [some (.val .drw), some (.val (.int n)), some (.val (.int f)), a, b, c]) ?_ ?_ _ _ ⟨by simp, _, _, _, _, rfl⟩
  · rintro d r ρ ⟨hd, f, a, b, c, rfl⟩ κ hκ
    obtain ⟨g, rfl, hg, hg2⟩ := hd _ List.mem_cons_self
    simp [dfS, startD, sCons, sNil, sSetN, sSetB, sOwnN, sOwnB, sIf, sRetB, sRetNone, sRetO, sFor, sAsgN, sAsgB, sParN, sParB, slotR, lfR, sExpr, sAppN, sAppB, augI, gTup_t, gCons_c, gCons_n, gNil_n, gNil_c, gN, dVar, dC, vR, rV, rBin, cBin, bV, bTru, bNot, bAnd, bOr, vAnd, vOr, vNot, rIf, vIf, dNeg, dTup, dLst, dTupS, dLstS, aNil, aCons, aStar, rCall, dCall, dCallK, pick, on1, on2, dLen, i1, i2, dInt, dIsi, dTru, dFld, rCut, oNone, oSome, dCut, iOf, iArg, zip2_e, enu1_e, rng1, rng2, rComp, bYes, cChain, dAdd, dSub, dMul, dFd, dMd, dPw, iI, iC, frz, viewN, viewB, wipeV, toSl, D.items, vDr, iDr, sDrPut, rDrNext, vDct, sNever, L2.atI, dIx, dList, dTuple, dEq, dNe, D.okd, okdL, D.eqb, PyData.eqv, D.py, pyL, dSum, dAll, dAny, L2.ixN, dNotB, dIsB, dIsN, dNotN, D.isNon]
    refine ⟨mulok _ _ (by decide), ⟨by decide, by decide⟩, by omega, fun cs => ?_⟩
    refine forD_inv (fun rest ρ => (∀ d ∈ rest, ∃ g : Int, d = .int g) ∧ ∃ b : Int, ∃ c, 0 ≤ b ∧ b < 2 ^ 40 ∧ ρ = [some (.val .drw), some (.val (.int n)), some (.val (.int f)), some (.val (.int g)), some (.val (.int b)), c]) ?_ ?_ _ _ ⟨by simp, _, _, ?_, ?_, rfl⟩
    · rintro d r ρ ⟨hd, b, c, hb, hb2, rfl⟩ κ' hκ'
      obtain ⟨x, rfl⟩ := hd _ List.mem_cons_self
      simp [dfS, startD, sCons, sNil, sSetN, sSetB, sOwnN, sOwnB, sIf, sRetB, sRetNone, sRetO, sFor, sAsgN, sAsgB, sParN, sParB, slotR, lfR, sExpr, sAppN, sAppB, augI, gTup_t, gCons_c, gCons_n, gNil_n, gNil_c, gN, dVar, dC, vR, rV, rBin, cBin, bV, bTru, bNot, bAnd, bOr, vAnd, vOr, vNot, rIf, vIf, dNeg, dTup, dLst, dTupS, dLstS, aNil, aCons, aStar, rCall, dCall, dCallK, pick, on1, on2, dLen, i1, i2, dInt, dIsi, dTru, dFld, rCut, oNone, oSome, dCut, iOf, iArg, zip2_e, enu1_e, rng1, rng2, rComp, bYes, cChain, dAdd, dSub, dMul, dFd, dMd, dPw, iI, iC, frz, viewN, viewB, wipeV, toSl, D.items, vDr, iDr, sDrPut, rDrNext, vDct, sNever, L2.atI, dIx, dList, dTuple, dEq, dNe, D.okd, okdL, D.eqb, PyData.eqv, D.py, pyL, dSum, dAll, dAny, L2.ixN, dNotB, dIsB, dIsN, dNotN, D.isNon]
      refine ⟨mulok _ _ (by decide), by omega, hκ' _ ⟨fun d hd' => hd _ (List.mem_cons_of_mem _ hd'), _, _, ?_, ?_, rfl⟩⟩
      · exact fmod_nn _ hg
      · exact Int.lt_trans (fmod_lt _ hg) hg2
    · rintro ρ ⟨_, b, c, hb, hb2, rfl⟩
      simp [dfS, startD, sCons, sNil, sSetN, sSetB, sOwnN, sOwnB, sIf, sRetB, sRetNone, sRetO, sFor, sAsgN, sAsgB, sParN, sParB, slotR, lfR, sExpr, sAppN, sAppB, augI, gTup_t, gCons_c, gCons_n, gNil_n, gNil_c, gN, dVar, dC, vR, rV, rBin, cBin, bV, bTru, bNot, bAnd, bOr, vAnd, vOr, vNot, rIf, vIf, dNeg, dTup, dLst, dTupS, dLstS, aNil, aCons, aStar, rCall, dCall, dCallK, pick, on1, on2, dLen, i1, i2, dInt, dIsi, dTru, dFld, rCut, oNone, oSome, dCut, iOf, iArg, zip2_e, enu1_e, rng1, rng2, rComp, bYes, cChain, dAdd, dSub, dMul, dFd, dMd, dPw, iI, iC, frz, viewN, viewB, wipeV, toSl, D.items, vDr, iDr, sDrPut, rDrNext, vDct, sNever, L2.atI, dIx, dList, dTuple, dEq, dNe, D.okd, okdL, D.eqb, PyData.eqv, D.py, pyL, dSum, dAll, dAny, L2.ixN, dNotB, dIsB, dIsN, dNotN, D.isNon]
      refine ⟨mulok _ _ (by decide), ⟨by decide, by decide, by omega⟩, by omega, hκ _ ⟨fun d hd' => hd _ (List.mem_cons_of_mem _ hd'), _, _, _, _, rfl⟩⟩
    · exact fmod_nn _ hg
    · exact Int.lt_trans (fmod_lt _ hg) hg2
  · rintro ρ ⟨_, f, a, b, c, rfl⟩
    simp
    exact h f
theorem sp_take (n : Int) (k : Rv → Prop) (E : Exn → Prop) (hn : 0 < n) (hl : n.natAbs.log2 < 9000) (h : ∀ i : Int, 0 ≤ i → i < n → k (.val (.int i))) : F__law_take [.drw, .int n] k E := by
  have fin : ∀ i : Int, k (.val (.int (i.fmod n))) := fun i => h _ (fmod_nn _ hn) (fmod_lt _ hn)
  simp [F__law_take, dfS, startD, sCons, sNil, sSetN, sSetB, sOwnN, sOwnB, sIf, sRetB, sRetNone, sRetO, sFor, sAsgN, sAsgB, sParN, sParB, slotR, lfR, sExpr, sAppN, sAppB, augI, gTup_t, gCons_c, gCons_n, gNil_n, gNil_c, gN, dVar, dC, vR, rV, rBin, cBin, bV, bTru, bNot, bAnd, bOr, vAnd, vOr, vNot, rIf, vIf, dNeg, dTup, dLst, dTupS, dLstS, aNil, aCons, aStar, rCall, dCall, dCallK, pick, on1, on2, dLen, i1, i2, dInt, dIsi, dTru, dFld, rCut, oNone, oSome, dCut, iOf, iArg, zip2_e, enu1_e, rng1, rng2, rComp, bYes, cChain, dAdd, dSub, dMul, dFd, dMd, dPw, iI, iC, frz, viewN, viewB, wipeV, toSl, D.items, vDr, iDr, sDrPut, rDrNext, vDct, sNever, L2.atI, dIx, dList, dTuple, dEq, dNe, D.okd, okdL, D.eqb, PyData.eqv, D.py, pyL, dSum, dAll, dAny, L2.ixN, dNotB, dIsB, dIsN, dNotN, D.isNon]
  intro m
  refine ⟨fun _ => ⟨fun i => ⟨by omega, fun j => ⟨⟨by omega, hl⟩, fin _⟩⟩, sp_mixed _ _ fun i => ⟨⟨i, rfl⟩, fun i => ⟨by omega, fun j => ⟨⟨by omega, hl⟩, fin _⟩⟩⟩⟩, fun _ i => ⟨by omega, fun j => ⟨⟨by omega, hl⟩, fin _⟩⟩⟩
end K58

set_option Elab.async false
set_option linter.all false
set_option maxRecDepth 100000
set_option maxHeartbeats 4000000
namespace K58
open PySem Dv
theorem szl : (1000000 : Nat) ≤ sizeLine := by rw [sizeLine_eq]; decide
theorem all_map (f : Int → Int) (ns : List Int) : AllI (ns.map fun i => D.int (f i)) := fun d hd => by
  obtain ⟨i, _, rfl⟩ := List.mem_map.mp hd
  exact ⟨_, rfl⟩
theorem beg_ok : BegOk 3 b1_law_begun b2_law_begun := by
  intro ns hl
  simp [b1_law_begun, b2_law_begun, List.replicate, dfS, startD, sCons, sNil, sSetN, sSetB, sOwnN, sOwnB, sIf, sRetB, sRetNone, sRetO, sFor, sAsgN, sAsgB, sParN, sParB, slotR, lfR, sExpr, sAppN, sAppB, augI, gTup_t, gCons_c, gCons_n, gNil_n, gNil_c, gN, dVar, dC, vR, rV, rBin, cBin, bV, bTru, bNot, bAnd, bOr, vAnd, vOr, vNot, rIf, vIf, dNeg, dTup, dLst, dTupS, dLstS, aNil, aCons, aStar, rCall, dCall, dCallK, pick, on1, on2, dLen, i1, i2, dInt, dIsi, dTru, dFld, rCut, oNone, oSome, dCut, iOf, iArg, zip2_e, enu1_e, rng1, rng2, rComp, bYes, cChain, dAdd, dSub, dMul, dFd, dMd, dPw, iI, iC, frz, viewN, viewB, wipeV, toSl, D.items, vDr, iDr, sDrPut, rDrNext, vDct, sNever, L2.atI, dIx, dList, dTuple, dEq, dNe, D.okd, okdL, D.eqb, PyData.eqv, D.py, pyL, dSum, dAll, dAny, L2.ixN, dNotB, dIsB, dIsN, dNotN, D.isNon]
  have hz := szl
  refine compD_flt (fun d => match d with | .int i => decide (10 ^ 18 ≤ iAbs i) | _ => false) (fun d => match d with | .int i => .int (iAbs i - 10 ^ 18) | z => z) _ _ ?_ ?_ ?_
  · intro d hd κ κ' κ1 h1 h2
    obtain ⟨i, _, rfl⟩ := List.mem_map.mp hd
    simp [dfS, startD, sCons, sNil, sSetN, sSetB, sOwnN, sOwnB, sIf, sRetB, sRetNone, sRetO, sFor, sAsgN, sAsgB, sParN, sParB, slotR, lfR, sExpr, sAppN, sAppB, augI, gTup_t, gCons_c, gCons_n, gNil_n, gNil_c, gN, dVar, dC, vR, rV, rBin, cBin, bV, bTru, bNot, bAnd, bOr, vAnd, vOr, vNot, rIf, vIf, dNeg, dTup, dLst, dTupS, dLstS, aNil, aCons, aStar, rCall, dCall, dCallK, pick, on1, on2, dLen, i1, i2, dInt, dIsi, dTru, dFld, rCut, oNone, oSome, dCut, iOf, iArg, zip2_e, enu1_e, rng1, rng2, rComp, bYes, cChain, dAdd, dSub, dMul, dFd, dMd, dPw, iI, iC, frz, viewN, viewB, wipeV, toSl, D.items, vDr, iDr, sDrPut, rDrNext, vDct, sNever, L2.atI, dIx, dList, dTuple, dEq, dNe, D.okd, okdL, D.eqb, PyData.eqv, D.py, pyL, dSum, dAll, dAny, L2.ixN, dNotB, dIsB, dIsN, dNotN, D.isNon] at h1 h2 ⊢
    have c : L2.CPow 10 18 := ⟨by decide, by decide, by decide⟩
    exact ⟨c, fun h => ⟨c, h1 h⟩, h2⟩
  · simp; omega
  · refine ⟨fun d hd => ?_, compD_map (fun d => match d with | .int i => .int (iAbs i) | z => z) _ _ ?_ ?_ ?_⟩
    · simp only [List.nil_append, List.mem_map, List.mem_filter] at hd
      obtain ⟨e, ⟨⟨i, _, rfl⟩, _⟩, rfl⟩ := hd
      exact ⟨_, rfl⟩
    · intro d hd κ h1
      obtain ⟨i, _, rfl⟩ := List.mem_map.mp hd
      simp [dfS, startD, sCons, sNil, sSetN, sSetB, sOwnN, sOwnB, sIf, sRetB, sRetNone, sRetO, sFor, sAsgN, sAsgB, sParN, sParB, slotR, lfR, sExpr, sAppN, sAppB, augI, gTup_t, gCons_c, gCons_n, gNil_n, gNil_c, gN, dVar, dC, vR, rV, rBin, cBin, bV, bTru, bNot, bAnd, bOr, vAnd, vOr, vNot, rIf, vIf, dNeg, dTup, dLst, dTupS, dLstS, aNil, aCons, aStar, rCall, dCall, dCallK, pick, on1, on2, dLen, i1, i2, dInt, dIsi, dTru, dFld, rCut, oNone, oSome, dCut, iOf, iArg, zip2_e, enu1_e, rng1, rng2, rComp, bYes, cChain, dAdd, dSub, dMul, dFd, dMd, dPw, iI, iC, frz, viewN, viewB, wipeV, toSl, D.items, vDr, iDr, sDrPut, rDrNext, vDct, sNever, L2.atI, dIx, dList, dTuple, dEq, dNe, D.okd, okdL, D.eqb, PyData.eqv, D.py, pyL, dSum, dAll, dAny, L2.ixN, dNotB, dIsB, dIsN, dNotN, D.isNon] at h1 ⊢
      exact h1
    · simp; omega
    · intro d hd
      simp only [List.nil_append, List.mem_map] at hd
      obtain ⟨e, ⟨i, _, rfl⟩, rfl⟩ := hd
      exact ⟨_, rfl⟩
theorem lg {n : Int} (h : n.natAbs < 2 ^ 200) : n.natAbs.log2 < 9000 := by
  by_cases h0 : n.natAbs = 0
  · rw [h0]; decide
  · have := (Nat.log2_lt h0).mpr h
    omega
theorem ix_nat {n : Nat} {i : Int} (h0 : 0 ≤ i) (h1 : i < n) : L2.ixN n i = some i.toNat := by
  unfold L2.ixN
  rw [if_pos h0, if_pos h1]
theorem sp_pick (ds : List D) (k : Rv → Prop) (E : Exn → Prop) (h0 : ds ≠ []) (hl : ds.length < 1000) (h : ∀ d ∈ ds, k (.val d)) : F__law_pick [.drw, .lst ds] k E := by
  simp [F__law_pick, dfS, startD, sCons, sNil, sSetN, sSetB, sOwnN, sOwnB, sIf, sRetB, sRetNone, sRetO, sFor, sAsgN, sAsgB, sParN, sParB, slotR, lfR, sExpr, sAppN, sAppB, augI, gTup_t, gCons_c, gCons_n, gNil_n, gNil_c, gN, dVar, dC, vR, rV, rBin, cBin, bV, bTru, bNot, bAnd, bOr, vAnd, vOr, vNot, rIf, vIf, dNeg, dTup, dLst, dTupS, dLstS, aNil, aCons, aStar, rCall, dCall, dCallK, pick, on1, on2, dLen, i1, i2, dInt, dIsi, dTru, dFld, rCut, oNone, oSome, dCut, iOf, iArg, zip2_e, enu1_e, rng1, rng2, rComp, bYes, cChain, dAdd, dSub, dMul, dFd, dMd, dPw, iI, iC, frz, viewN, viewB, wipeV, toSl, D.items, vDr, iDr, sDrPut, rDrNext, vDct, sNever, L2.atI, dIx, dList, dTuple, dEq, dNe, D.okd, okdL, D.eqb, PyData.eqv, D.py, pyL, dSum, dAll, dAny, dNotB, dIsB, dIsN, dNotN, D.isNon]
  have h1 : 0 < ds.length := List.length_pos_iff.mpr h0
  refine sp_take _ _ _ (by omega) (lg (by omega)) fun i hi hi2 => ?_
  have hlt : i.toNat < ds.length := by omega
  refine ⟨ds[i.toNat], ?_, h _ (List.getElem_mem hlt)⟩
  rw [ix_nat hi hi2]
  exact List.getElem?_eq_getElem hlt
def dp (p : Int × Int) : D := .tup [.int p.1, .int p.2]
def dps (ps : List (Int × Int)) : D := .tup (ps.map dp)
def dv (v : List Int) : D := .tup (v.map .int)
theorem sp_common (a b : Int) (ha : 0 < a) (hb : 0 < b) (k : Rv → Prop) (E : Exn → Prop) (h : k (.val (.int (Nat.gcd a.natAbs b.natAbs : Nat)))) : F__law_common [.int a, .int b] k E := by
  simp [F__law_common, dfS, startD, sCons, sNil, sSetN, sSetB, sOwnN, sOwnB, sIf, sRetB, sRetNone, sRetO, sFor, sAsgN, sAsgB, sParN, sParB, slotR, lfR, sExpr, sAppN, sAppB, augI, gTup_t, gCons_c, gCons_n, gNil_n, gNil_c, gN, dVar, dC, vR, rV, rBin, cBin, bV, bTru, bNot, bAnd, bOr, vAnd, vOr, vNot, rIf, vIf, dNeg, dTup, dLst, dTupS, dLstS, aNil, aCons, aStar, rCall, dCall, dCallK, pick, on1, on2, dLen, i1, i2, dInt, dIsi, dTru, dFld, rCut, oNone, oSome, dCut, iOf, iArg, zip2_e, enu1_e, rng1, rng2, rComp, bYes, cChain, dAdd, dSub, dMul, dFd, dMd, dPw, iI, iC, frz, viewN, viewB, wipeV, toSl, D.items, vDr, iDr, sDrPut, rDrNext, vDct, sNever, L2.atI, dIx, dList, dTuple, dEq, dNe, D.okd, okdL, D.eqb, PyData.eqv, D.py, pyL, dSum, dAll, dAny, L2.ixN, dNotB, dIsB, dIsN, dNotN, D.isNon]
  refine while_inv (fun n ρ => ∃ x y : Nat, n = y ∧ Nat.gcd x y = Nat.gcd a.natAbs b.natAbs ∧ ρ = [some (.val (.int x)), some (.val (.int y))]) ?_ b.natAbs _ ⟨a.natAbs, b.natAbs, rfl, rfl, ?_⟩
  · rintro n ρ ⟨x, y, rfl, hg, rfl⟩ κ hκ
    simp [dfS, startD, sCons, sNil, sSetN, sSetB, sOwnN, sOwnB, sIf, sRetB, sRetNone, sRetO, sFor, sAsgN, sAsgB, sParN, sParB, slotR, lfR, sExpr, sAppN, sAppB, augI, gTup_t, gCons_c, gCons_n, gNil_n, gNil_c, gN, dVar, dC, vR, rV, rBin, cBin, bV, bTru, bNot, bAnd, bOr, vAnd, vOr, vNot, rIf, vIf, dNeg, dTup, dLst, dTupS, dLstS, aNil, aCons, aStar, rCall, dCall, dCallK, pick, on1, on2, dLen, i1, i2, dInt, dIsi, dTru, dFld, rCut, oNone, oSome, dCut, iOf, iArg, zip2_e, enu1_e, rng1, rng2, rComp, bYes, cChain, dAdd, dSub, dMul, dFd, dMd, dPw, iI, iC, frz, viewN, viewB, wipeV, toSl, D.items, vDr, iDr, sDrPut, rDrNext, vDct, sNever, L2.atI, dIx, dList, dTuple, dEq, dNe, D.okd, okdL, D.eqb, PyData.eqv, D.py, pyL, dSum, dAll, dAny, L2.ixN, dNotB, dIsB, dIsN, dNotN, D.isNon]
    refine ⟨fun hy => ⟨hy, ?_⟩, fun hy => ?_⟩
    · refine hκ (x % n) _ (Nat.mod_lt _ (by omega)) ⟨n, x % n, rfl, ?_, ?_⟩
      · rw [← hg, Nat.gcd_comm n, ← Nat.gcd_rec, Nat.gcd_comm]
      · rw [Int.fmod_eq_emod_of_nonneg _ (by omega)]
        rfl
    · have hx : Nat.gcd a.natAbs b.natAbs = x := by rw [← hg, hy, Nat.gcd_zero_right]
      rw [hx] at h
      exact h
  · unfold iAbs
    rw [if_neg (by omega), if_neg (by omega)]
    have e1 : ((a.natAbs : Nat) : Int) = a := by omega
    have e2 : ((b.natAbs : Nat) : Int) = b := by omega
    rw [e1, e2]
def prd : List (Int × Int) → Int
  | [] => 1
  | p :: ps => p.2 * prd ps
theorem sp_parts (ps : List (Int × Int)) (hp : ∀ p ∈ ps, 0 < p.2 ∧ p.2 < 100) (k : Rv → Prop) (E : Exn → Prop) (h : k (.val (.int (prd ps)))) : F__law_parts [dps ps] k E := by
  simp [F__law_parts, dps, dfS, startD, sCons, sNil, sSetN, sSetB, sOwnN, sOwnB, sIf, sRetB, sRetNone, sRetO, sFor, sAsgN, sAsgB, sParN, sParB, slotR, lfR, sExpr, sAppN, sAppB, augI, gTup_t, gCons_c, gCons_n, gNil_n, gNil_c, gN, dVar, dC, vR, rV, rBin, cBin, bV, bTru, bNot, bAnd, bOr, vAnd, vOr, vNot, rIf, vIf, dNeg, dTup, dLst, dTupS, dLstS, aNil, aCons, aStar, rCall, dCall, dCallK, pick, on1, on2, dLen, i1, i2, dInt, dIsi, dTru, dFld, rCut, oNone, oSome, dCut, iOf, iArg, zip2_e, enu1_e, rng1, rng2, rComp, bYes, cChain, dAdd, dSub, dMul, dFd, dMd, dPw, iI, iC, frz, viewN, viewB, wipeV, toSl, D.items, vDr, iDr, sDrPut, rDrNext, vDct, sNever, L2.atI, dIx, dList, dTuple, dEq, dNe, D.okd, okdL, D.eqb, PyData.eqv, D.py, pyL, dSum, dAll, dAny, L2.ixN, dNotB, dIsB, dIsN, dNotN, D.isNon]
  refine forD_inv (fun rest ρ => ∃ (r : List (Int × Int)) (f : Int) (a b : Option Slot), rest = r.map dp ∧ (∀ p ∈ r, 0 < p.2 ∧ p.2 < 100) ∧ f * prd r = prd ps ∧ ρ = [some (.val (.tup (ps.map dp))), some (.val (.int f)), a, b]) ?_ ?_ _ _ ⟨ps, 1, _, _, rfl, hp, by simp, rfl⟩
  · rintro d r ρ ⟨q, f, a, b, e, hq, hf, rfl⟩ κ hκ
    cases q with
    | nil => cases e
    | cons p q =>
      cases e
      simp [dp, dfS, startD, sCons, sNil, sSetN, sSetB, sOwnN, sOwnB, sIf, sRetB, sRetNone, sRetO, sFor, sAsgN, sAsgB, sParN, sParB, slotR, lfR, sExpr, sAppN, sAppB, augI, gTup_t, gCons_c, gCons_n, gNil_n, gNil_c, gN, dVar, dC, vR, rV, rBin, cBin, bV, bTru, bNot, bAnd, bOr, vAnd, vOr, vNot, rIf, vIf, dNeg, dTup, dLst, dTupS, dLstS, aNil, aCons, aStar, rCall, dCall, dCallK, pick, on1, on2, dLen, i1, i2, dInt, dIsi, dTru, dFld, rCut, oNone, oSome, dCut, iOf, iArg, zip2_e, enu1_e, rng1, rng2, rComp, bYes, cChain, dAdd, dSub, dMul, dFd, dMd, dPw, iI, iC, frz, viewN, viewB, wipeV, toSl, D.items, vDr, iDr, sDrPut, rDrNext, vDct, sNever, L2.atI, dIx, dList, dTuple, dEq, dNe, D.okd, okdL, D.eqb, PyData.eqv, D.py, pyL, dSum, dAll, dAny, L2.ixN, dNotB, dIsB, dIsN, dNotN, D.isNon]
      refine ⟨mulok _ _ (by have := hq p List.mem_cons_self; omega), hκ _ ⟨q, _, _, _, rfl, fun p' h' => hq p' (List.mem_cons_of_mem _ h'), ?_, rfl⟩⟩
      rw [← hf, prd, Int.mul_assoc]
  · rintro ρ ⟨q, f, a, b, e, hq, hf, rfl⟩
    have : q = [] := by cases q with
      | nil => rfl
      | cons _ _ => cases e
    subst this
    simp [prd] at hf ⊢
    rw [hf]; exact h
end K58

set_option Elab.async false
set_option linter.all false
set_option maxRecDepth 100000
set_option maxHeartbeats 4000000
namespace K58
open PySem Dv
def Good (ps : List (Int × Int)) : Prop := ps.length ≤ 5 ∧ ∀ p ∈ ps, 0 < p.1 ∧ p.1 < p.2 ∧ p.2 ≤ 20 ∧ Nat.gcd p.1.natAbs p.2.natAbs = 1
def se (P : Int) (ps : List (Int × Int)) : Int := (ps.map fun p => p.1 * (P / p.2)).sum
theorem prd_b : ∀ {ps : List (Int × Int)}, (∀ p ∈ ps, 0 < p.2 ∧ p.2 ≤ 20) → 0 < prd ps ∧ prd ps ≤ 20 ^ ps.length
  | [], _ => by simp [prd]
  | p :: ps, h => by
    have ih := prd_b (ps := ps) fun q hq => h q (List.mem_cons_of_mem _ hq)
    have hp := h p List.mem_cons_self
    simp only [prd, List.length_cons, Int.pow_succ]
    constructor
    · exact Int.mul_pos hp.1 ih.1
    · calc p.2 * prd ps ≤ 20 * prd ps := Int.mul_le_mul_of_nonneg_right hp.2 (by omega)
        _ ≤ 20 * 20 ^ ps.length := Int.mul_le_mul_of_nonneg_left ih.2 (by omega)
        _ = 20 ^ ps.length * 20 := Int.mul_comm _ _
theorem prd_big {ps : List (Int × Int)} (h : Good ps) : 0 < prd ps ∧ prd ps ≤ 3200000 := by
  have z := prd_b (ps := ps) fun p hp => ⟨by have := h.2 p hp; omega, (h.2 p hp).2.2.1⟩
  refine ⟨z.1, Int.le_trans z.2 ?_⟩
  have : (20 : Int) ^ ps.length ≤ 20 ^ 5 := by
    have := Nat.pow_le_pow_right (by decide : 0 < 20) h.1
    exact_mod_cast this
  exact Int.le_trans this (by decide)
theorem fdiv_pos (a : Int) {b : Int} (h : 0 < b) : a.fdiv b = a / b := Int.fdiv_eq_ediv_of_nonneg _ (by omega)
theorem fmod_pos (a : Int) {b : Int} (h : 0 < b) : a.fmod b = a % b := Int.fmod_eq_emod_of_nonneg _ (by omega)
theorem sp_e (w : Int) (ps : List (Int × Int)) (hp : Good ps) (hw : w.natAbs < 2 ^ 50) (k : Rv → Prop) (E : Exn → Prop) (h : k (.val (.tup [.int (w * prd ps + se (prd ps) ps), .int (prd ps)]))) : F__law_e [.int w, dps ps] k E := by
  have hP := prd_big hp
  simp [F__law_e, dfS, startD, sCons, sNil, sSetN, sSetB, sOwnN, sOwnB, sIf, sRetB, sRetNone, sRetO, sFor, sAsgN, sAsgB, sParN, sParB, slotR, lfR, sExpr, sAppN, sAppB, augI, gTup_t, gCons_c, gCons_n, gNil_n, gNil_c, gN, dVar, dC, vR, rV, rBin, cBin, bV, bTru, bNot, bAnd, bOr, vAnd, vOr, vNot, rIf, vIf, dNeg, dTup, dLst, dTupS, dLstS, aNil, aCons, aStar, rCall, dCall, dCallK, pick, on1, on2, dLen, i1, i2, dInt, dIsi, dTru, dFld, rCut, oNone, oSome, dCut, iOf, iArg, zip2_e, enu1_e, rng1, rng2, rComp, bYes, cChain, dAdd, dSub, dMul, dFd, dMd, dPw, iI, iC, frz, viewN, viewB, wipeV, toSl, D.items, vDr, iDr, sDrPut, rDrNext, vDct, sNever, L2.atI, dIx, dList, dTuple, dEq, dNe, D.okd, okdL, D.eqb, PyData.eqv, D.py, pyL, dSum, dAll, dAny, L2.ixN, dNotB, dIsB, dIsN, dNotN, D.isNon]
  refine sp_parts ps (fun p hp' => ?_) _ _ ?_
  · have := hp.2 p hp'; omega
  simp [dps, dfS, startD, sCons, sNil, sSetN, sSetB, sOwnN, sOwnB, sIf, sRetB, sRetNone, sRetO, sFor, sAsgN, sAsgB, sParN, sParB, slotR, lfR, sExpr, sAppN, sAppB, augI, gTup_t, gCons_c, gCons_n, gNil_n, gNil_c, gN, dVar, dC, vR, rV, rBin, cBin, bV, bTru, bNot, bAnd, bOr, vAnd, vOr, vNot, rIf, vIf, dNeg, dTup, dLst, dTupS, dLstS, aNil, aCons, aStar, rCall, dCall, dCallK, pick, on1, on2, dLen, i1, i2, dInt, dIsi, dTru, dFld, rCut, oNone, oSome, dCut, iOf, iArg, zip2_e, enu1_e, rng1, rng2, rComp, bYes, cChain, dAdd, dSub, dMul, dFd, dMd, dPw, iI, iC, frz, viewN, viewB, wipeV, toSl, D.items, vDr, iDr, sDrPut, rDrNext, vDct, sNever, L2.atI, dIx, dList, dTuple, dEq, dNe, D.okd, okdL, D.eqb, PyData.eqv, D.py, pyL, dSum, dAll, dAny, L2.ixN, dNotB, dIsB, dIsN, dNotN, D.isNon]
  refine ⟨mulok _ _ (by omega), compD_ml dp (fun p => .int (p.1 * (prd ps / p.2))) _ _ (fun p hp' κ hκ => ?_) ?_ ?_⟩
  · have hq := hp.2 p hp'
    simp [dp, dfS, startD, sCons, sNil, sSetN, sSetB, sOwnN, sOwnB, sIf, sRetB, sRetNone, sRetO, sFor, sAsgN, sAsgB, sParN, sParB, slotR, lfR, sExpr, sAppN, sAppB, augI, gTup_t, gCons_c, gCons_n, gNil_n, gNil_c, gN, dVar, dC, vR, rV, rBin, cBin, bV, bTru, bNot, bAnd, bOr, vAnd, vOr, vNot, rIf, vIf, dNeg, dTup, dLst, dTupS, dLstS, aNil, aCons, aStar, rCall, dCall, dCallK, pick, on1, on2, dLen, i1, i2, dInt, dIsi, dTru, dFld, rCut, oNone, oSome, dCut, iOf, iArg, zip2_e, enu1_e, rng1, rng2, rComp, bYes, cChain, dAdd, dSub, dMul, dFd, dMd, dPw, iI, iC, frz, viewN, viewB, wipeV, toSl, D.items, vDr, iDr, sDrPut, rDrNext, vDct, sNever, L2.atI, dIx, dList, dTuple, dEq, dNe, D.okd, okdL, D.eqb, PyData.eqv, D.py, pyL, dSum, dAll, dAny, L2.ixN, dNotB, dIsB, dIsN, dNotN, D.isNon]
    refine ⟨⟨by omega, lg (by omega)⟩, ?_, ?_⟩
    · rw [fdiv_pos _ (by omega)]
      refine mulok _ _ ?_
      have h1 : 0 ≤ prd ps / p.2 := Int.ediv_nonneg (by omega) (by omega)
      have h2 : prd ps / p.2 ≤ prd ps := Int.ediv_le_self _ (by omega)
      omega
    · rw [fdiv_pos _ (by omega)]; exact hκ
  · have := hp.1; have := szl; simp; omega
  · simp [ints_map]
    exact h
end K58

set_option Elab.async false
set_option linter.all false
set_option maxRecDepth 100000
set_option maxHeartbeats 4000000
namespace K58
open PySem Dv
theorem sp_pair (m : Int) (hm : 3 ≤ m) (hm2 : m ≤ 20) (k : Rv → Prop) (E : Exn → Prop) (h : ∀ p : Int × Int, 0 < p.1 → p.1 < p.2 → p.2 ≤ m → Nat.gcd p.1.natAbs p.2.natAbs = 1 → k (.val (dp p))) : F__law_pair [.drw, .int m] k E := by
  simp [F__law_pair, dfS, startD, sCons, sNil, sSetN, sSetB, sOwnN, sOwnB, sIf, sRetB, sRetNone, sRetO, sFor, sAsgN, sAsgB, sParN, sParB, slotR, lfR, sExpr, sAppN, sAppB, augI, gTup_t, gCons_c, gCons_n, gNil_n, gNil_c, gN, dVar, dC, vR, rV, rBin, cBin, bV, bTru, bNot, bAnd, bOr, vAnd, vOr, vNot, rIf, vIf, dNeg, dTup, dLst, dTupS, dLstS, aNil, aCons, aStar, rCall, dCall, dCallK, pick, on1, on2, dLen, i1, i2, dInt, dIsi, dTru, dFld, rCut, oNone, oSome, dCut, iOf, iArg, zip2_e, enu1_e, rng1, rng2, rComp, bYes, cChain, dAdd, dSub, dMul, dFd, dMd, dPw, iI, iC, frz, viewN, viewB, wipeV, toSl, D.items, vDr, iDr, sDrPut, rDrNext, vDct, sNever, L2.atI, dIx, dList, dTuple, dEq, dNe, D.okd, okdL, D.eqb, PyData.eqv, D.py, pyL, dSum, dAll, dAny, L2.ixN, dNotB, dIsB, dIsN, dNotN, D.isNon]
  refine sp_take _ _ _ (by omega) (lg (by omega)) fun i hi hi2 => ?_
  simp [dfS, startD, sCons, sNil, sSetN, sSetB, sOwnN, sOwnB, sIf, sRetB, sRetNone, sRetO, sFor, sAsgN, sAsgB, sParN, sParB, slotR, lfR, sExpr, sAppN, sAppB, augI, gTup_t, gCons_c, gCons_n, gNil_n, gNil_c, gN, dVar, dC, vR, rV, rBin, cBin, bV, bTru, bNot, bAnd, bOr, vAnd, vOr, vNot, rIf, vIf, dNeg, dTup, dLst, dTupS, dLstS, aNil, aCons, aStar, rCall, dCall, dCallK, pick, on1, on2, dLen, i1, i2, dInt, dIsi, dTru, dFld, rCut, oNone, oSome, dCut, iOf, iArg, zip2_e, enu1_e, rng1, rng2, rComp, bYes, cChain, dAdd, dSub, dMul, dFd, dMd, dPw, iI, iC, frz, viewN, viewB, wipeV, toSl, D.items, vDr, iDr, sDrPut, rDrNext, vDct, sNever, L2.atI, dIx, dList, dTuple, dEq, dNe, D.okd, okdL, D.eqb, PyData.eqv, D.py, pyL, dSum, dAll, dAny, L2.ixN, dNotB, dIsB, dIsN, dNotN, D.isNon]
  refine sp_take _ _ _ (by omega) (lg (by omega)) fun j hj hj2 => ?_
  simp [dfS, startD, sCons, sNil, sSetN, sSetB, sOwnN, sOwnB, sIf, sRetB, sRetNone, sRetO, sFor, sAsgN, sAsgB, sParN, sParB, slotR, lfR, sExpr, sAppN, sAppB, augI, gTup_t, gCons_c, gCons_n, gNil_n, gNil_c, gN, dVar, dC, vR, rV, rBin, cBin, bV, bTru, bNot, bAnd, bOr, vAnd, vOr, vNot, rIf, vIf, dNeg, dTup, dLst, dTupS, dLstS, aNil, aCons, aStar, rCall, dCall, dCallK, pick, on1, on2, dLen, i1, i2, dInt, dIsi, dTru, dFld, rCut, oNone, oSome, dCut, iOf, iArg, zip2_e, enu1_e, rng1, rng2, rComp, bYes, cChain, dAdd, dSub, dMul, dFd, dMd, dPw, iI, iC, frz, viewN, viewB, wipeV, toSl, D.items, vDr, iDr, sDrPut, rDrNext, vDct, sNever, L2.atI, dIx, dList, dTuple, dEq, dNe, D.okd, okdL, D.eqb, PyData.eqv, D.py, pyL, dSum, dAll, dAny, L2.ixN, dNotB, dIsB, dIsN, dNotN, D.isNon]
  refine while_inv (fun n ρ => ∃ a : Int, 0 < a ∧ a < 2 + i ∧ (n : Int) = (if a = 1 then 0 else 2 + i - a + 1) ∧ ρ = [some (.val .drw), some (.val (.int m)), some (.val (.int (2 + i))), some (.val (.int a))]) ?_ (if 1 + j = 1 then 0 else (2 + i - (1 + j) + 1).toNat) _ ⟨1 + j, by omega, by omega, by split <;> omega, rfl⟩
  rintro n ρ ⟨a, ha, ha2, hn, rfl⟩ κ hκ
  simp [dfS, startD, sCons, sNil, sSetN, sSetB, sOwnN, sOwnB, sIf, sRetB, sRetNone, sRetO, sFor, sAsgN, sAsgB, sParN, sParB, slotR, lfR, sExpr, sAppN, sAppB, augI, gTup_t, gCons_c, gCons_n, gNil_n, gNil_c, gN, dVar, dC, vR, rV, rBin, cBin, bV, bTru, bNot, bAnd, bOr, vAnd, vOr, vNot, rIf, vIf, dNeg, dTup, dLst, dTupS, dLstS, aNil, aCons, aStar, rCall, dCall, dCallK, pick, on1, on2, dLen, i1, i2, dInt, dIsi, dTru, dFld, rCut, oNone, oSome, dCut, iOf, iArg, zip2_e, enu1_e, rng1, rng2, rComp, bYes, cChain, dAdd, dSub, dMul, dFd, dMd, dPw, iI, iC, frz, viewN, viewB, wipeV, toSl, D.items, vDr, iDr, sDrPut, rDrNext, vDct, sNever, L2.atI, dIx, dList, dTuple, dEq, dNe, D.okd, okdL, D.eqb, PyData.eqv, D.py, pyL, dSum, dAll, dAny, L2.ixN, dNotB, dIsB, dIsN, dNotN, D.isNon]
  refine sp_common _ _ ha (by omega) _ _ ?_
  simp [dfS, startD, sCons, sNil, sSetN, sSetB, sOwnN, sOwnB, sIf, sRetB, sRetNone, sRetO, sFor, sAsgN, sAsgB, sParN, sParB, slotR, lfR, sExpr, sAppN, sAppB, augI, gTup_t, gCons_c, gCons_n, gNil_n, gNil_c, gN, dVar, dC, vR, rV, rBin, cBin, bV, bTru, bNot, bAnd, bOr, vAnd, vOr, vNot, rIf, vIf, dNeg, dTup, dLst, dTupS, dLstS, aNil, aCons, aStar, rCall, dCall, dCallK, pick, on1, on2, dLen, i1, i2, dInt, dIsi, dTru, dFld, rCut, oNone, oSome, dCut, iOf, iArg, zip2_e, enu1_e, rng1, rng2, rComp, bYes, cChain, dAdd, dSub, dMul, dFd, dMd, dPw, iI, iC, frz, viewN, viewB, wipeV, toSl, D.items, vDr, iDr, sDrPut, rDrNext, vDct, sNever, L2.atI, dIx, dList, dTuple, dEq, dNe, D.okd, okdL, D.eqb, PyData.eqv, D.py, pyL, dSum, dAll, dAny, L2.ixN, dNotB, dIsB, dIsN, dNotN, D.isNon]
  refine ⟨fun hg => ?_, fun hg => ?_⟩
  · have ha1 : a ≠ 1 := by
      rintro rfl
      simp at hg
    rw [if_neg ha1] at hn
    refine ⟨fun hl => ?_, fun hl => ?_⟩
    · refine hκ (if a + 1 = 1 then 0 else (2 + i - (a + 1) + 1).toNat) _ ?_ ⟨a + 1, by omega, by omega, by split <;> omega, rfl⟩
      split <;> omega
    · exact hκ 0 _ (by omega) ⟨1, by omega, by omega, by simp, rfl⟩
  · have := h (a, 2 + i) ha ha2 (by simp; omega) (by
      have : Nat.gcd a.natAbs (2 + i).natAbs ≠ 0 := by
        intro z
        have := Nat.eq_zero_of_gcd_eq_zero_left z
        omega
      simp
      omega)
    simpa [dp] using this
def num (w : Int) (ps : List (Int × Int)) : Int := w * prd ps + se (prd ps) ps
theorem se_b {P : Int} (hP : 0 < P) : ∀ {ps : List (Int × Int)}, (∀ p ∈ ps, 0 < p.1 ∧ p.1 < p.2) → 0 ≤ se P ps ∧ se P ps ≤ ps.length * P
  | [], _ => by simp [se]
  | p :: ps, h => by
    have ih := se_b hP (ps := ps) fun q hq => h q (List.mem_cons_of_mem _ hq)
    have hp := h p List.mem_cons_self
    have e : se P (p :: ps) = p.1 * (P / p.2) + se P ps := by simp [se]
    have h1 : 0 ≤ P / p.2 := Int.ediv_nonneg (by omega) (by omega)
    have h2 : p.2 * (P / p.2) ≤ P := Int.mul_ediv_self_le (by omega)
    have h3 : p.1 * (P / p.2) ≤ p.2 * (P / p.2) := Int.mul_le_mul_of_nonneg_right (by omega) h1
    have h4 : 0 ≤ p.1 * (P / p.2) := Int.mul_nonneg (by omega) h1
    rw [e, List.length_cons]
    have e2 : ((ps.length + 1 : Nat) : Int) * P = ps.length * P + P := by
      rw [Int.natCast_add, Int.add_mul]; simp
    rw [e2]
    omega
structure GW (w : Int) (ps : List (Int × Int)) : Prop where
  g : Good ps
  w0 : -8 ≤ w
  w1 : w ≤ -1
  n : num w ps < 0
theorem sp_lower (m : Int) (hm : 3 ≤ m) (hm2 : m ≤ 20) (k : Rv → Prop) (E : Exn → Prop) (h : ∀ w ps, GW w ps → k (.val (.tup [.int w, dps ps]))) : F__law_lower [.drw, .int 5, .int m] k E := by
  simp [F__law_lower, dfS, startD, sCons, sNil, sSetN, sSetB, sOwnN, sOwnB, sIf, sRetB, sRetNone, sRetO, sFor, sAsgN, sAsgB, sParN, sParB, slotR, lfR, sExpr, sAppN, sAppB, augI, gTup_t, gCons_c, gCons_n, gNil_n, gNil_c, gN, dVar, dC, vR, rV, rBin, cBin, bV, bTru, bNot, bAnd, bOr, vAnd, vOr, vNot, rIf, vIf, dNeg, dTup, dLst, dTupS, dLstS, aNil, aCons, aStar, rCall, dCall, dCallK, pick, on1, on2, dLen, i1, i2, dInt, dIsi, dTru, dFld, rCut, oNone, oSome, dCut, iOf, iArg, zip2_e, enu1_e, rng1, rng2, rComp, bYes, cChain, dAdd, dSub, dMul, dFd, dMd, dPw, iI, iC, frz, viewN, viewB, wipeV, toSl, D.items, vDr, iDr, sDrPut, rDrNext, vDct, sNever, L2.atI, dIx, dList, dTuple, dEq, dNe, D.okd, okdL, D.eqb, PyData.eqv, D.py, pyL, dSum, dAll, dAny, L2.ixN, dNotB, dIsB, dIsN, dNotN, D.isNon]
  refine sp_take _ _ _ (by omega) (lg (by omega)) fun i hi hi2 => ?_
  simp [dfS, startD, sCons, sNil, sSetN, sSetB, sOwnN, sOwnB, sIf, sRetB, sRetNone, sRetO, sFor, sAsgN, sAsgB, sParN, sParB, slotR, lfR, sExpr, sAppN, sAppB, augI, gTup_t, gCons_c, gCons_n, gNil_n, gNil_c, gN, dVar, dC, vR, rV, rBin, cBin, bV, bTru, bNot, bAnd, bOr, vAnd, vOr, vNot, rIf, vIf, dNeg, dTup, dLst, dTupS, dLstS, aNil, aCons, aStar, rCall, dCall, dCallK, pick, on1, on2, dLen, i1, i2, dInt, dIsi, dTru, dFld, rCut, oNone, oSome, dCut, iOf, iArg, zip2_e, enu1_e, rng1, rng2, rComp, bYes, cChain, dAdd, dSub, dMul, dFd, dMd, dPw, iI, iC, frz, viewN, viewB, wipeV, toSl, D.items, vDr, iDr, sDrPut, rDrNext, vDct, sNever, L2.atI, dIx, dList, dTuple, dEq, dNe, D.okd, okdL, D.eqb, PyData.eqv, D.py, pyL, dSum, dAll, dAny, L2.ixN, dNotB, dIsB, dIsN, dNotN, D.isNon]
  have e : i = ((i.toNat : Nat) : Int) := by omega
  refine ⟨⟨by omega, by omega⟩, ?_⟩
  rw [e, rngD_map]
  have hz := szl
  refine compD_mr (fun i : Nat => D.int i) dp (fun _ p => 0 < p.1 ∧ p.1 < p.2 ∧ p.2 ≤ m ∧ Nat.gcd p.1.natAbs p.2.natAbs = 1) _ _ (fun x _ κ hκ => ?_) (by simp; omega) fun ps hps => ?_
  · simp [dfS, startD, sCons, sNil, sSetN, sSetB, sOwnN, sOwnB, sIf, sRetB, sRetNone, sRetO, sFor, sAsgN, sAsgB, sParN, sParB, slotR, lfR, sExpr, sAppN, sAppB, augI, gTup_t, gCons_c, gCons_n, gNil_n, gNil_c, gN, dVar, dC, vR, rV, rBin, cBin, bV, bTru, bNot, bAnd, bOr, vAnd, vOr, vNot, rIf, vIf, dNeg, dTup, dLst, dTupS, dLstS, aNil, aCons, aStar, rCall, dCall, dCallK, pick, on1, on2, dLen, i1, i2, dInt, dIsi, dTru, dFld, rCut, oNone, oSome, dCut, iOf, iArg, zip2_e, enu1_e, rng1, rng2, rComp, bYes, cChain, dAdd, dSub, dMul, dFd, dMd, dPw, iI, iC, frz, viewN, viewB, wipeV, toSl, D.items, vDr, iDr, sDrPut, rDrNext, vDct, sNever, L2.atI, dIx, dList, dTuple, dEq, dNe, D.okd, okdL, D.eqb, PyData.eqv, D.py, pyL, dSum, dAll, dAny, L2.ixN, dNotB, dIsB, dIsN, dNotN, D.isNon]
    exact sp_pair m hm hm2 _ _ fun p h1 h2 h3 h4 => by simpa using hκ p ⟨h1, h2, h3, h4⟩
  have hg : Good ps := ⟨by have := hps.length; simp at this; omega, hps.all fun _ p ⟨h1, h2, h3, h4⟩ => ⟨h1, h2, by omega, h4⟩⟩
  simp [dfS, startD, sCons, sNil, sSetN, sSetB, sOwnN, sOwnB, sIf, sRetB, sRetNone, sRetO, sFor, sAsgN, sAsgB, sParN, sParB, slotR, lfR, sExpr, sAppN, sAppB, augI, gTup_t, gCons_c, gCons_n, gNil_n, gNil_c, gN, dVar, dC, vR, rV, rBin, cBin, bV, bTru, bNot, bAnd, bOr, vAnd, vOr, vNot, rIf, vIf, dNeg, dTup, dLst, dTupS, dLstS, aNil, aCons, aStar, rCall, dCall, dCallK, pick, on1, on2, dLen, i1, i2, dInt, dIsi, dTru, dFld, rCut, oNone, oSome, dCut, iOf, iArg, zip2_e, enu1_e, rng1, rng2, rComp, bYes, cChain, dAdd, dSub, dMul, dFd, dMd, dPw, iI, iC, frz, viewN, viewB, wipeV, toSl, D.items, vDr, iDr, sDrPut, rDrNext, vDct, sNever, L2.atI, dIx, dList, dTuple, dEq, dNe, D.okd, okdL, D.eqb, PyData.eqv, D.py, pyL, dSum, dAll, dAny, L2.ixN, dNotB, dIsB, dIsN, dNotN, D.isNon]
  have hP := prd_big hg
  have hs := se_b hP.1 (ps := ps) fun p hp => ⟨(hg.2 p hp).1, (hg.2 p hp).2.1⟩
  refine sp_e 0 ps hg (by omega) _ _ ?_
  simp [dfS, startD, sCons, sNil, sSetN, sSetB, sOwnN, sOwnB, sIf, sRetB, sRetNone, sRetO, sFor, sAsgN, sAsgB, sParN, sParB, slotR, lfR, sExpr, sAppN, sAppB, augI, gTup_t, gCons_c, gCons_n, gNil_n, gNil_c, gN, dVar, dC, vR, rV, rBin, cBin, bV, bTru, bNot, bAnd, bOr, vAnd, vOr, vNot, rIf, vIf, dNeg, dTup, dLst, dTupS, dLstS, aNil, aCons, aStar, rCall, dCall, dCallK, pick, on1, on2, dLen, i1, i2, dInt, dIsi, dTru, dFld, rCut, oNone, oSome, dCut, iOf, iArg, zip2_e, enu1_e, rng1, rng2, rComp, bYes, cChain, dAdd, dSub, dMul, dFd, dMd, dPw, iI, iC, frz, viewN, viewB, wipeV, toSl, D.items, vDr, iDr, sDrPut, rDrNext, vDct, sNever, L2.atI, dIx, dList, dTuple, dEq, dNe, D.okd, okdL, D.eqb, PyData.eqv, D.py, pyL, dSum, dAll, dAny, L2.ixN, dNotB, dIsB, dIsN, dNotN, D.isNon]
  refine ⟨⟨by omega, lg (by omega)⟩, ?_⟩
  refine sp_pick _ _ _ (by simp) (by simp) fun d hd => ?_
  have hd' : ∃ j : Int, d = .int j ∧ 0 ≤ j ∧ j ≤ 2 := by
    simp at hd
    rcases hd with rfl | rfl | rfl <;> exact ⟨_, rfl, by omega, by omega⟩
  obtain ⟨j, rfl, hj, hj2⟩ := hd'
  simp [dfS, startD, sCons, sNil, sSetN, sSetB, sOwnN, sOwnB, sIf, sRetB, sRetNone, sRetO, sFor, sAsgN, sAsgB, sParN, sParB, slotR, lfR, sExpr, sAppN, sAppB, augI, gTup_t, gCons_c, gCons_n, gNil_n, gNil_c, gN, dVar, dC, vR, rV, rBin, cBin, bV, bTru, bNot, bAnd, bOr, vAnd, vOr, vNot, rIf, vIf, dNeg, dTup, dLst, dTupS, dLstS, aNil, aCons, aStar, rCall, dCall, dCallK, pick, on1, on2, dLen, i1, i2, dInt, dIsi, dTru, dFld, rCut, oNone, oSome, dCut, iOf, iArg, zip2_e, enu1_e, rng1, rng2, rComp, bYes, cChain, dAdd, dSub, dMul, dFd, dMd, dPw, iI, iC, frz, viewN, viewB, wipeV, toSl, D.items, vDr, iDr, sDrPut, rDrNext, vDct, sNever, L2.atI, dIx, dList, dTuple, dEq, dNe, D.okd, okdL, D.eqb, PyData.eqv, D.py, pyL, dSum, dAll, dAny, L2.ixN, dNotB, dIsB, dIsN, dNotN, D.isNon]
  have q1 := Int.ediv_mul_le (se (prd ps) ps) (show prd ps ≠ 0 by omega)
  have q2 : 0 ≤ se (prd ps) ps / prd ps := Int.ediv_nonneg hs.1 (by omega)
  have q3 : se (prd ps) ps / prd ps ≤ 5 := by
    have : se (prd ps) ps ≤ 5 * prd ps := Int.le_trans hs.2 (Int.mul_le_mul_of_nonneg_right (by have := hg.1; omega) (by omega))
    have := Int.ediv_le_ediv hP.1 this
    rw [Int.mul_ediv_cancel _ (show prd ps ≠ 0 by omega)] at this
    exact this
  have q4 := Int.lt_ediv_add_one_mul_self (se (prd ps) ps) hP.1
  rw [fdiv_pos _ hP.1]
  have := h (0 - se (prd ps) ps / prd ps - 1 - j) ps ⟨hg, by omega, by omega, ?_⟩
  · simpa [dps] using this
  · unfold num
    have : (0 - se (prd ps) ps / prd ps - 1 - j) * prd ps = - ((se (prd ps) ps / prd ps + 1) * prd ps) - j * prd ps := by
      rw [← Int.neg_mul, ← Int.sub_mul]
      congr 1
      omega
    rw [this]
    have : 0 ≤ j * prd ps := Int.mul_nonneg hj (by omega)
    omega
end K58

set_option Elab.async false
set_option linter.all false
set_option maxRecDepth 100000
set_option maxHeartbeats 4000000
namespace K58
open PySem Dv
def spanL (w : Int) (ps : List (Int × Int)) : Int := ((ps.length + 1) * prd ps - num w ps - 1) / (0 - num w ps)
theorem num_b {w : Int} {ps : List (Int × Int)} (h : GW w ps) : -26000000 ≤ num w ps ∧ num w ps < 0 := by
  have hP := prd_big h.g
  have hs := se_b hP.1 (ps := ps) fun p hp => ⟨(h.g.2 p hp).1, (h.g.2 p hp).2.1⟩
  have h0 := h.w0
  have : -8 * prd ps ≤ w * prd ps := Int.mul_le_mul_of_nonneg_right h0 (by omega)
  refine ⟨?_, h.n⟩
  unfold num
  omega
theorem sp_span (w : Int) (ps : List (Int × Int)) (h : GW w ps) (k : Rv → Prop) (E : Exn → Prop) (hk : k (.val (.int (spanL w ps)))) : F__law_span [.int w, dps ps] k E := by
  have hn := num_b h
  have hP := prd_big h.g
  have h0 := h.w0
  have h1 := h.w1
  simp [F__law_span, dfS, startD, sCons, sNil, sSetN, sSetB, sOwnN, sOwnB, sIf, sRetB, sRetNone, sRetO, sFor, sAsgN, sAsgB, sParN, sParB, slotR, lfR, sExpr, sAppN, sAppB, augI, gTup_t, gCons_c, gCons_n, gNil_n, gNil_c, gN, dVar, dC, vR, rV, rBin, cBin, bV, bTru, bNot, bAnd, bOr, vAnd, vOr, vNot, rIf, vIf, dNeg, dTup, dLst, dTupS, dLstS, aNil, aCons, aStar, rCall, dCall, dCallK, pick, on1, on2, dLen, i1, i2, dInt, dIsi, dTru, dFld, rCut, oNone, oSome, dCut, iOf, iArg, zip2_e, enu1_e, rng1, rng2, rComp, bYes, cChain, dAdd, dSub, dMul, dFd, dMd, dPw, iI, iC, frz, viewN, viewB, wipeV, toSl, D.items, vDr, iDr, sDrPut, rDrNext, vDct, sNever, L2.atI, dIx, dList, dTuple, dEq, dNe, D.okd, okdL, D.eqb, PyData.eqv, D.py, pyL, dSum, dAll, dAny, L2.ixN, dNotB, dIsB, dIsN, dNotN, D.isNon]
  refine sp_e w ps h.g (by omega) _ _ ?_
  have e : w * prd ps + se (prd ps) ps = num w ps := rfl
  rw [e]
  simp [dps, dfS, startD, sCons, sNil, sSetN, sSetB, sOwnN, sOwnB, sIf, sRetB, sRetNone, sRetO, sFor, sAsgN, sAsgB, sParN, sParB, slotR, lfR, sExpr, sAppN, sAppB, augI, gTup_t, gCons_c, gCons_n, gNil_n, gNil_c, gN, dVar, dC, vR, rV, rBin, cBin, bV, bTru, bNot, bAnd, bOr, vAnd, vOr, vNot, rIf, vIf, dNeg, dTup, dLst, dTupS, dLstS, aNil, aCons, aStar, rCall, dCall, dCallK, pick, on1, on2, dLen, i1, i2, dInt, dIsi, dTru, dFld, rCut, oNone, oSome, dCut, iOf, iArg, zip2_e, enu1_e, rng1, rng2, rComp, bYes, cChain, dAdd, dSub, dMul, dFd, dMd, dPw, iI, iC, frz, viewN, viewB, wipeV, toSl, D.items, vDr, iDr, sDrPut, rDrNext, vDct, sNever, L2.atI, dIx, dList, dTuple, dEq, dNe, D.okd, okdL, D.eqb, PyData.eqv, D.py, pyL, dSum, dAll, dAny, L2.ixN, dNotB, dIsB, dIsN, dNotN, D.isNon]
  refine ⟨mulok _ _ (by omega), ⟨by omega, lg (by omega)⟩, ?_⟩
  rw [fdiv_pos _ (by omega)]
  simpa [spanL] using hk
theorem gw_dflt : GW (-2) [(1, 2), (2, 3), (4, 5)] := ⟨⟨by decide, by decide⟩, by decide, by decide, by decide⟩
theorem sp_narrow (m : Int) (hm : 3 ≤ m) (hm2 : m ≤ 20) (k : Rv → Prop) (E : Exn → Prop) (h : ∀ w ps, GW w ps → spanL w ps ≤ 900 → k (.val (.tup [.int w, dps ps]))) : F__law_narrow [.drw, .int 5, .int m, .int 900] k E := by
  simp [F__law_narrow, dfS, startD, sCons, sNil, sSetN, sSetB, sOwnN, sOwnB, sIf, sRetB, sRetNone, sRetO, sFor, sAsgN, sAsgB, sParN, sParB, slotR, lfR, sExpr, sAppN, sAppB, augI, gTup_t, gCons_c, gCons_n, gNil_n, gNil_c, gN, dVar, dC, vR, rV, rBin, cBin, bV, bTru, bNot, bAnd, bOr, vAnd, vOr, vNot, rIf, vIf, dNeg, dTup, dLst, dTupS, dLstS, aNil, aCons, aStar, rCall, dCall, dCallK, pick, on1, on2, dLen, i1, i2, dInt, dIsi, dTru, dFld, rCut, oNone, oSome, dCut, iOf, iArg, zip2_e, enu1_e, rng1, rng2, rComp, bYes, cChain, dAdd, dSub, dMul, dFd, dMd, dPw, iI, iC, frz, viewN, viewB, wipeV, toSl, D.items, vDr, iDr, sDrPut, rDrNext, vDct, sNever, L2.atI, dIx, dList, dTuple, dEq, dNe, D.okd, okdL, D.eqb, PyData.eqv, D.py, pyL, dSum, dAll, dAny, L2.ixN, dNotB, dIsB, dIsN, dNotN, D.isNon]
  rw [show rngD 0 12 = (List.range 12).map (fun i => D.int (i : Nat)) from rngD_map 12]
  refine forD_ml (fun i : Nat => D.int i) (fun _ ρ => ∃ a b c, ρ = [some (.val .drw), some (.val (.int 5)), some (.val (.int m)), some (.val (.int 900)), a, b, c]) ?_ ?_ _ _ ⟨_, _, _, rfl⟩
  · rintro x r ρ ⟨a, b, c, rfl⟩ κ hκ
    simp [dfS, startD, sCons, sNil, sSetN, sSetB, sOwnN, sOwnB, sIf, sRetB, sRetNone, sRetO, sFor, sAsgN, sAsgB, sParN, sParB, slotR, lfR, sExpr, sAppN, sAppB, augI, gTup_t, gCons_c, gCons_n, gNil_n, gNil_c, gN, dVar, dC, vR, rV, rBin, cBin, bV, bTru, bNot, bAnd, bOr, vAnd, vOr, vNot, rIf, vIf, dNeg, dTup, dLst, dTupS, dLstS, aNil, aCons, aStar, rCall, dCall, dCallK, pick, on1, on2, dLen, i1, i2, dInt, dIsi, dTru, dFld, rCut, oNone, oSome, dCut, iOf, iArg, zip2_e, enu1_e, rng1, rng2, rComp, bYes, cChain, dAdd, dSub, dMul, dFd, dMd, dPw, iI, iC, frz, viewN, viewB, wipeV, toSl, D.items, vDr, iDr, sDrPut, rDrNext, vDct, sNever, L2.atI, dIx, dList, dTuple, dEq, dNe, D.okd, okdL, D.eqb, PyData.eqv, D.py, pyL, dSum, dAll, dAny, L2.ixN, dNotB, dIsB, dIsN, dNotN, D.isNon]
    refine sp_lower m hm hm2 _ _ fun w ps hg => ?_
    have hn := num_b hg
    have h0 := hg.w0
    have h1 := hg.w1
    simp [dfS, startD, sCons, sNil, sSetN, sSetB, sOwnN, sOwnB, sIf, sRetB, sRetNone, sRetO, sFor, sAsgN, sAsgB, sParN, sParB, slotR, lfR, sExpr, sAppN, sAppB, augI, gTup_t, gCons_c, gCons_n, gNil_n, gNil_c, gN, dVar, dC, vR, rV, rBin, cBin, bV, bTru, bNot, bAnd, bOr, vAnd, vOr, vNot, rIf, vIf, dNeg, dTup, dLst, dTupS, dLstS, aNil, aCons, aStar, rCall, dCall, dCallK, pick, on1, on2, dLen, i1, i2, dInt, dIsi, dTru, dFld, rCut, oNone, oSome, dCut, iOf, iArg, zip2_e, enu1_e, rng1, rng2, rComp, bYes, cChain, dAdd, dSub, dMul, dFd, dMd, dPw, iI, iC, frz, viewN, viewB, wipeV, toSl, D.items, vDr, iDr, sDrPut, rDrNext, vDct, sNever, L2.atI, dIx, dList, dTuple, dEq, dNe, D.okd, okdL, D.eqb, PyData.eqv, D.py, pyL, dSum, dAll, dAny, L2.ixN, dNotB, dIsB, dIsN, dNotN, D.isNon]
    refine sp_span w ps hg _ _ ?_
    simp [dfS, startD, sCons, sNil, sSetN, sSetB, sOwnN, sOwnB, sIf, sRetB, sRetNone, sRetO, sFor, sAsgN, sAsgB, sParN, sParB, slotR, lfR, sExpr, sAppN, sAppB, augI, gTup_t, gCons_c, gCons_n, gNil_n, gNil_c, gN, dVar, dC, vR, rV, rBin, cBin, bV, bTru, bNot, bAnd, bOr, vAnd, vOr, vNot, rIf, vIf, dNeg, dTup, dLst, dTupS, dLstS, aNil, aCons, aStar, rCall, dCall, dCallK, pick, on1, on2, dLen, i1, i2, dInt, dIsi, dTru, dFld, rCut, oNone, oSome, dCut, iOf, iArg, zip2_e, enu1_e, rng1, rng2, rComp, bYes, cChain, dAdd, dSub, dMul, dFd, dMd, dPw, iI, iC, frz, viewN, viewB, wipeV, toSl, D.items, vDr, iDr, sDrPut, rDrNext, vDct, sNever, L2.atI, dIx, dList, dTuple, dEq, dNe, D.okd, okdL, D.eqb, PyData.eqv, D.py, pyL, dSum, dAll, dAny, L2.ixN, dNotB, dIsB, dIsN, dNotN, D.isNon]
    refine ⟨fun hs => ?_, fun hs => hκ _ ⟨_, _, _, rfl⟩⟩
    refine sp_e w ps hg.g (by omega) _ _ ?_
    simp [L2.ixN, dfS, startD, sCons, sNil, sSetN, sSetB, sOwnN, sOwnB, sIf, sRetB, sRetNone, sRetO, sFor, sAsgN, sAsgB, sParN, sParB, slotR, lfR, sExpr, sAppN, sAppB, augI, gTup_t, gCons_c, gCons_n, gNil_n, gNil_c, gN, dVar, dC, vR, rV, rBin, cBin, bV, bTru, bNot, bAnd, bOr, vAnd, vOr, vNot, rIf, vIf, dNeg, dTup, dLst, dTupS, dLstS, aNil, aCons, aStar, rCall, dCall, dCallK, pick, on1, on2, dLen, i1, i2, dInt, dIsi, dTru, dFld, rCut, oNone, oSome, dCut, iOf, iArg, zip2_e, enu1_e, rng1, rng2, rComp, bYes, cChain, dAdd, dSub, dMul, dFd, dMd, dPw, iI, iC, frz, viewN, viewB, wipeV, toSl, D.items, vDr, iDr, sDrPut, rDrNext, vDct, sNever, L2.atI, dIx, dList, dTuple, dEq, dNe, D.okd, okdL, D.eqb, PyData.eqv, D.py, pyL, dSum, dAll, dAny, L2.ixN, dNotB, dIsB, dIsN, dNotN, D.isNon]
    exact ⟨fun _ => h w ps hg hs, fun _ => hκ _ ⟨_, _, _, rfl⟩⟩
  · rintro ρ ⟨a, b, c, rfl⟩
    exact h (-2) [(1, 2), (2, 3), (4, 5)] gw_dflt (by decide)
def isNum : D → Bool
  | .int _ => true
  | _ => false
theorem sp_is_number (d : D) (hd : d.tn ≠ none) (k : Rv → Prop) (E : Exn → Prop) (hk : k (.val (.bl (isNum d)))) : F_is_number [d] k E := by
  cases d <;> simp [F_is_number, kt, kt1, TsD, D.tn, isiB, isNum, dfS, startD, sCons, sNil, sSetN, sSetB, sOwnN, sOwnB, sIf, sRetB, sRetNone, sRetO, sFor, sAsgN, sAsgB, sParN, sParB, slotR, lfR, sExpr, sAppN, sAppB, augI, gTup_t, gCons_c, gCons_n, gNil_n, gNil_c, gN, dVar, dC, vR, rV, rBin, cBin, bV, bTru, bNot, bAnd, bOr, vAnd, vOr, vNot, rIf, vIf, dNeg, dTup, dLst, dTupS, dLstS, aNil, aCons, aStar, rCall, dCall, dCallK, pick, on1, on2, dLen, i1, i2, dInt, dIsi, dTru, dFld, rCut, oNone, oSome, dCut, iOf, iArg, zip2_e, enu1_e, rng1, rng2, rComp, bYes, cChain, dAdd, dSub, dMul, dFd, dMd, dPw, iI, iC, frz, viewN, viewB, wipeV, toSl, D.items, vDr, iDr, sDrPut, rDrNext, vDct, sNever, L2.atI, dIx, dList, dTuple, dEq, dNe, D.okd, okdL, D.eqb, PyData.eqv, D.py, pyL, dSum, dAll, dAny, L2.ixN, dNotB, dIsB, dIsN, dNotN, D.isNon] at hd hk ⊢ <;> exact hk
def isTup (n : Int) : D → Bool
  | .tup ds => decide ((ds.length : Int) = n)
  | _ => false
theorem sp_is_tuple (d : D) (n : Int) (hd : d.tn ≠ none) (k : Rv → Prop) (E : Exn → Prop) (hk : k (.val (.bl (isTup n d)))) : F_is_tuple [d, .int n] k E := by
  cases d <;> simp [F_is_tuple, kt, kt1, TsD, D.tn, isiB, isTup, dfS, startD, sCons, sNil, sSetN, sSetB, sOwnN, sOwnB, sIf, sRetB, sRetNone, sRetO, sFor, sAsgN, sAsgB, sParN, sParB, slotR, lfR, sExpr, sAppN, sAppB, augI, gTup_t, gCons_c, gCons_n, gNil_n, gNil_c, gN, dVar, dC, vR, rV, rBin, cBin, bV, bTru, bNot, bAnd, bOr, vAnd, vOr, vNot, rIf, vIf, dNeg, dTup, dLst, dTupS, dLstS, aNil, aCons, aStar, rCall, dCall, dCallK, pick, on1, on2, dLen, i1, i2, dInt, dIsi, dTru, dFld, rCut, oNone, oSome, dCut, iOf, iArg, zip2_e, enu1_e, rng1, rng2, rComp, bYes, cChain, dAdd, dSub, dMul, dFd, dMd, dPw, iI, iC, frz, viewN, viewB, wipeV, toSl, D.items, vDr, iDr, sDrPut, rDrNext, vDct, sNever, L2.atI, dIx, dList, dTuple, dEq, dNe, D.okd, okdL, D.eqb, PyData.eqv, D.py, pyL, dSum, dAll, dAny, L2.ixN, dNotB, dIsB, dIsN, dNotN, D.isNon] at hd hk ⊢ <;> exact hk
def isBtw (lo hi : Int) : D → Bool
  | .int n => decide (lo ≤ n) && decide (n ≤ hi)
  | _ => false
theorem sp_is_between (d : D) (lo hi : Int) (hd : d.tn ≠ none) (k : Rv → Prop) (E : Exn → Prop) (hk : k (.val (.bl (isBtw lo hi d)))) : F_is_between [d, .int lo, .int hi] k E := by
  simp [F_is_between, dfS, startD, sCons, sNil, sSetN, sSetB, sOwnN, sOwnB, sIf, sRetB, sRetNone, sRetO, sFor, sAsgN, sAsgB, sParN, sParB, slotR, lfR, sExpr, sAppN, sAppB, augI, gTup_t, gCons_c, gCons_n, gNil_n, gNil_c, gN, dVar, dC, vR, rV, rBin, cBin, bV, bTru, bNot, bAnd, bOr, vAnd, vOr, vNot, rIf, vIf, dNeg, dTup, dLst, dTupS, dLstS, aNil, aCons, aStar, rCall, dCall, dCallK, pick, on1, on2, dLen, i1, i2, dInt, dIsi, dTru, dFld, rCut, oNone, oSome, dCut, iOf, iArg, zip2_e, enu1_e, rng1, rng2, rComp, bYes, cChain, dAdd, dSub, dMul, dFd, dMd, dPw, iI, iC, frz, viewN, viewB, wipeV, toSl, D.items, vDr, iDr, sDrPut, rDrNext, vDct, sNever, L2.atI, dIx, dList, dTuple, dEq, dNe, D.okd, okdL, D.eqb, PyData.eqv, D.py, pyL, dSum, dAll, dAny, L2.ixN, dNotB, dIsB, dIsN, dNotN, D.isNon]
  refine sp_is_number d hd _ _ ?_
  cases d <;> simp [isNum, isBtw, dfS, startD, sCons, sNil, sSetN, sSetB, sOwnN, sOwnB, sIf, sRetB, sRetNone, sRetO, sFor, sAsgN, sAsgB, sParN, sParB, slotR, lfR, sExpr, sAppN, sAppB, augI, gTup_t, gCons_c, gCons_n, gNil_n, gNil_c, gN, dVar, dC, vR, rV, rBin, cBin, bV, bTru, bNot, bAnd, bOr, vAnd, vOr, vNot, rIf, vIf, dNeg, dTup, dLst, dTupS, dLstS, aNil, aCons, aStar, rCall, dCall, dCallK, pick, on1, on2, dLen, i1, i2, dInt, dIsi, dTru, dFld, rCut, oNone, oSome, dCut, iOf, iArg, zip2_e, enu1_e, rng1, rng2, rComp, bYes, cChain, dAdd, dSub, dMul, dFd, dMd, dPw, iI, iC, frz, viewN, viewB, wipeV, toSl, D.items, vDr, iDr, sDrPut, rDrNext, vDct, sNever, L2.atI, dIx, dList, dTuple, dEq, dNe, D.okd, okdL, D.eqb, PyData.eqv, D.py, pyL, dSum, dAll, dAny, L2.ixN, dNotB, dIsB, dIsN, dNotN, D.isNon] at hk ⊢ <;> first | exact hk | skip
  rename_i n
  by_cases h1 : lo ≤ n
  · by_cases h2 : n ≤ hi
    · simp [h1, h2] at hk ⊢; exact ⟨fun z => by omega, hk⟩
    · simp [h1, h2] at hk ⊢; exact ⟨fun z => by omega, hk⟩
  · simp [h1] at hk ⊢; exact fun _ => hk
theorem sp_number_pair (p : Int × Int) (h : 0 < p.1 ∧ p.1 < p.2 ∧ Nat.gcd p.1.natAbs p.2.natAbs = 1) (k : Rv → Prop) (E : Exn → Prop) (hk : k (.val (.bl true))) : F_is_number_pair [dp p] k E := by
  simp [F_is_number_pair, dfS, startD, sCons, sNil, sSetN, sSetB, sOwnN, sOwnB, sIf, sRetB, sRetNone, sRetO, sFor, sAsgN, sAsgB, sParN, sParB, slotR, lfR, sExpr, sAppN, sAppB, augI, gTup_t, gCons_c, gCons_n, gNil_n, gNil_c, gN, dVar, dC, vR, rV, rBin, cBin, bV, bTru, bNot, bAnd, bOr, vAnd, vOr, vNot, rIf, vIf, dNeg, dTup, dLst, dTupS, dLstS, aNil, aCons, aStar, rCall, dCall, dCallK, pick, on1, on2, dLen, i1, i2, dInt, dIsi, dTru, dFld, rCut, oNone, oSome, dCut, iOf, iArg, zip2_e, enu1_e, rng1, rng2, rComp, bYes, cChain, dAdd, dSub, dMul, dFd, dMd, dPw, iI, iC, frz, viewN, viewB, wipeV, toSl, D.items, vDr, iDr, sDrPut, rDrNext, vDct, sNever, L2.atI, dIx, dList, dTuple, dEq, dNe, D.okd, okdL, D.eqb, PyData.eqv, D.py, pyL, dSum, dAll, dAny, L2.ixN, dNotB, dIsB, dIsN, dNotN, D.isNon]
  refine sp_is_tuple (dp p) 2 (by simp [dp, D.tn]) _ _ ?_
  simp [dp, isTup, L2.ixN, dfS, startD, sCons, sNil, sSetN, sSetB, sOwnN, sOwnB, sIf, sRetB, sRetNone, sRetO, sFor, sAsgN, sAsgB, sParN, sParB, slotR, lfR, sExpr, sAppN, sAppB, augI, gTup_t, gCons_c, gCons_n, gNil_n, gNil_c, gN, dVar, dC, vR, rV, rBin, cBin, bV, bTru, bNot, bAnd, bOr, vAnd, vOr, vNot, rIf, vIf, dNeg, dTup, dLst, dTupS, dLstS, aNil, aCons, aStar, rCall, dCall, dCallK, pick, on1, on2, dLen, i1, i2, dInt, dIsi, dTru, dFld, rCut, oNone, oSome, dCut, iOf, iArg, zip2_e, enu1_e, rng1, rng2, rComp, bYes, cChain, dAdd, dSub, dMul, dFd, dMd, dPw, iI, iC, frz, viewN, viewB, wipeV, toSl, D.items, vDr, iDr, sDrPut, rDrNext, vDct, sNever, L2.atI, dIx, dList, dTuple, dEq, dNe, D.okd, okdL, D.eqb, PyData.eqv, D.py, pyL, dSum, dAll, dAny, L2.ixN, dNotB, dIsB, dIsN, dNotN, D.isNon]
  refine sp_is_number _ (by simp [D.tn]) _ _ ?_
  simp [isNum, L2.ixN, dfS, startD, sCons, sNil, sSetN, sSetB, sOwnN, sOwnB, sIf, sRetB, sRetNone, sRetO, sFor, sAsgN, sAsgB, sParN, sParB, slotR, lfR, sExpr, sAppN, sAppB, augI, gTup_t, gCons_c, gCons_n, gNil_n, gNil_c, gN, dVar, dC, vR, rV, rBin, cBin, bV, bTru, bNot, bAnd, bOr, vAnd, vOr, vNot, rIf, vIf, dNeg, dTup, dLst, dTupS, dLstS, aNil, aCons, aStar, rCall, dCall, dCallK, pick, on1, on2, dLen, i1, i2, dInt, dIsi, dTru, dFld, rCut, oNone, oSome, dCut, iOf, iArg, zip2_e, enu1_e, rng1, rng2, rComp, bYes, cChain, dAdd, dSub, dMul, dFd, dMd, dPw, iI, iC, frz, viewN, viewB, wipeV, toSl, D.items, vDr, iDr, sDrPut, rDrNext, vDct, sNever, L2.atI, dIx, dList, dTuple, dEq, dNe, D.okd, okdL, D.eqb, PyData.eqv, D.py, pyL, dSum, dAll, dAny, L2.ixN, dNotB, dIsB, dIsN, dNotN, D.isNon]
  refine sp_is_number _ (by simp [D.tn]) _ _ ?_
  simp [isNum, L2.ixN, iGcd, dfS, startD, sCons, sNil, sSetN, sSetB, sOwnN, sOwnB, sIf, sRetB, sRetNone, sRetO, sFor, sAsgN, sAsgB, sParN, sParB, slotR, lfR, sExpr, sAppN, sAppB, augI, gTup_t, gCons_c, gCons_n, gNil_n, gNil_c, gN, dVar, dC, vR, rV, rBin, cBin, bV, bTru, bNot, bAnd, bOr, vAnd, vOr, vNot, rIf, vIf, dNeg, dTup, dLst, dTupS, dLstS, aNil, aCons, aStar, rCall, dCall, dCallK, pick, on1, on2, dLen, i1, i2, dInt, dIsi, dTru, dFld, rCut, oNone, oSome, dCut, iOf, iArg, zip2_e, enu1_e, rng1, rng2, rComp, bYes, cChain, dAdd, dSub, dMul, dFd, dMd, dPw, iI, iC, frz, viewN, viewB, wipeV, toSl, D.items, vDr, iDr, sDrPut, rDrNext, vDct, sNever, L2.atI, dIx, dList, dTuple, dEq, dNe, D.okd, okdL, D.eqb, PyData.eqv, D.py, pyL, dSum, dAll, dAny, L2.ixN, dNotB, dIsB, dIsN, dNotN, D.isNon]
  obtain ⟨h1, h2, h3⟩ := h
  simp [h1, h2, h3]
  exact ⟨fun z => by omega, hk, fun z => by omega⟩
theorem sp_are_pairs (ps : List (Int × Int)) (h : Good ps) (k : Rv → Prop) (E : Exn → Prop) (hk : k (.val (.bl true))) : F_are_pairs [dps ps] k E := by
  have hl := h.1
  simp [F_are_pairs, F_is_list, kt, ktT, kt1, TsD, D.tn, isiB, dps, dfS, startD, sCons, sNil, sSetN, sSetB, sOwnN, sOwnB, sIf, sRetB, sRetNone, sRetO, sFor, sAsgN, sAsgB, sParN, sParB, slotR, lfR, sExpr, sAppN, sAppB, augI, gTup_t, gCons_c, gCons_n, gNil_n, gNil_c, gN, dVar, dC, vR, rV, rBin, cBin, bV, bTru, bNot, bAnd, bOr, vAnd, vOr, vNot, rIf, vIf, dNeg, dTup, dLst, dTupS, dLstS, aNil, aCons, aStar, rCall, dCall, dCallK, pick, on1, on2, dLen, i1, i2, dInt, dIsi, dTru, dFld, rCut, oNone, oSome, dCut, iOf, iArg, zip2_e, enu1_e, rng1, rng2, rComp, bYes, cChain, dAdd, dSub, dMul, dFd, dMd, dPw, iI, iC, frz, viewN, viewB, wipeV, toSl, D.items, vDr, iDr, sDrPut, rDrNext, vDct, sNever, L2.atI, dIx, dList, dTuple, dEq, dNe, D.okd, okdL, D.eqb, PyData.eqv, D.py, pyL, dSum, dAll, dAny, L2.ixN, dNotB, dIsB, dIsN, dNotN, D.isNon]
  refine ⟨fun z => by omega, fun _ => ?_⟩
  refine compD_ml dp (fun _ => .bl true) _ _ (fun p hp κ hκ => ?_) (by have := szl; simp; omega) ?_
  · obtain ⟨h1, h2, h3, h4⟩ := h.2 p hp
    simp [dfS, startD, sCons, sNil, sSetN, sSetB, sOwnN, sOwnB, sIf, sRetB, sRetNone, sRetO, sFor, sAsgN, sAsgB, sParN, sParB, slotR, lfR, sExpr, sAppN, sAppB, augI, gTup_t, gCons_c, gCons_n, gNil_n, gNil_c, gN, dVar, dC, vR, rV, rBin, cBin, bV, bTru, bNot, bAnd, bOr, vAnd, vOr, vNot, rIf, vIf, dNeg, dTup, dLst, dTupS, dLstS, aNil, aCons, aStar, rCall, dCall, dCallK, pick, on1, on2, dLen, i1, i2, dInt, dIsi, dTru, dFld, rCut, oNone, oSome, dCut, iOf, iArg, zip2_e, enu1_e, rng1, rng2, rComp, bYes, cChain, dAdd, dSub, dMul, dFd, dMd, dPw, iI, iC, frz, viewN, viewB, wipeV, toSl, D.items, vDr, iDr, sDrPut, rDrNext, vDct, sNever, L2.atI, dIx, dList, dTuple, dEq, dNe, D.okd, okdL, D.eqb, PyData.eqv, D.py, pyL, dSum, dAll, dAny, L2.ixN, dNotB, dIsB, dIsN, dNotN, D.isNon]
    refine sp_number_pair p ⟨h1, h2, h4⟩ _ _ ?_
    simp [dp, L2.ixN, dfS, startD, sCons, sNil, sSetN, sSetB, sOwnN, sOwnB, sIf, sRetB, sRetNone, sRetO, sFor, sAsgN, sAsgB, sParN, sParB, slotR, lfR, sExpr, sAppN, sAppB, augI, gTup_t, gCons_c, gCons_n, gNil_n, gNil_c, gN, dVar, dC, vR, rV, rBin, cBin, bV, bTru, bNot, bAnd, bOr, vAnd, vOr, vNot, rIf, vIf, dNeg, dTup, dLst, dTupS, dLstS, aNil, aCons, aStar, rCall, dCall, dCallK, pick, on1, on2, dLen, i1, i2, dInt, dIsi, dTru, dFld, rCut, oNone, oSome, dCut, iOf, iArg, zip2_e, enu1_e, rng1, rng2, rComp, bYes, cChain, dAdd, dSub, dMul, dFd, dMd, dPw, iI, iC, frz, viewN, viewB, wipeV, toSl, D.items, vDr, iDr, sDrPut, rDrNext, vDct, sNever, L2.atI, dIx, dList, dTuple, dEq, dNe, D.okd, okdL, D.eqb, PyData.eqv, D.py, pyL, dSum, dAll, dAny, L2.ixN, dNotB, dIsB, dIsN, dNotN, D.isNon]
    rw [decide_eq_true (by omega : p.2 ≤ 60)]
    exact hκ
  · simp [dfS, startD, sCons, sNil, sSetN, sSetB, sOwnN, sOwnB, sIf, sRetB, sRetNone, sRetO, sFor, sAsgN, sAsgB, sParN, sParB, slotR, lfR, sExpr, sAppN, sAppB, augI, gTup_t, gCons_c, gCons_n, gNil_n, gNil_c, gN, dVar, dC, vR, rV, rBin, cBin, bV, bTru, bNot, bAnd, bOr, vAnd, vOr, vNot, rIf, vIf, dNeg, dTup, dLst, dTupS, dLstS, aNil, aCons, aStar, rCall, dCall, dCallK, pick, on1, on2, dLen, i1, i2, dInt, dIsi, dTru, dFld, rCut, oNone, oSome, dCut, iOf, iArg, zip2_e, enu1_e, rng1, rng2, rComp, bYes, cChain, dAdd, dSub, dMul, dFd, dMd, dPw, iI, iC, frz, viewN, viewB, wipeV, toSl, D.items, vDr, iDr, sDrPut, rDrNext, vDct, sNever, L2.atI, dIx, dList, dTuple, dEq, dNe, D.okd, okdL, D.eqb, PyData.eqv, D.py, pyL, dSum, dAll, dAny, L2.ixN, dNotB, dIsB, dIsN, dNotN, D.isNon]
    rw [show List.map (fun _ : Int × Int => D.bl true) ps = ps.map (fun p => .bl ((fun _ => true) p)) from rfl, bls_map]
    simp
    have e : ps.all (fun _ => true) = true := by simp
    rw [e]
    exact hk
def stm (w : Int) (ps : List (Int × Int)) : D := .obj "Stream" [("whole", .int w), ("pairs", dps ps)]
theorem sp_Stream (w : Int) (ps : List (Int × Int)) (h : GW w ps) (k : Rv → Prop) (E : Exn → Prop) (hk : k (.val (stm w ps))) : F_Stream [.int w, dps ps] k E := by
  intro x
  have h0 := h.w0
  have h1 := h.w1
  simp [F_Stream, dmS, jCons, jFlds, iCons, iNil, dfS, startD, sCons, sNil, sSetN, sSetB, sOwnN, sOwnB, sIf, sRetB, sRetNone, sRetO, sFor, sAsgN, sAsgB, sParN, sParB, slotR, lfR, sExpr, sAppN, sAppB, augI, gTup_t, gCons_c, gCons_n, gNil_n, gNil_c, gN, dVar, dC, vR, rV, rBin, cBin, bV, bTru, bNot, bAnd, bOr, vAnd, vOr, vNot, rIf, vIf, dNeg, dTup, dLst, dTupS, dLstS, aNil, aCons, aStar, rCall, dCall, dCallK, pick, on1, on2, dLen, i1, i2, dInt, dIsi, dTru, dFld, rCut, oNone, oSome, dCut, iOf, iArg, zip2_e, enu1_e, rng1, rng2, rComp, bYes, cChain, dAdd, dSub, dMul, dFd, dMd, dPw, iI, iC, frz, viewN, viewB, wipeV, toSl, D.items, vDr, iDr, sDrPut, rDrNext, vDct, sNever, L2.atI, dIx, dList, dTuple, dEq, dNe, D.okd, okdL, D.eqb, PyData.eqv, D.py, pyL, dSum, dAll, dAny, L2.ixN, dNotB, dIsB, dIsN, dNotN, D.isNon]
  refine sp_are_pairs ps h.g _ _ ?_
  simp [dps, dfS, startD, sCons, sNil, sSetN, sSetB, sOwnN, sOwnB, sIf, sRetB, sRetNone, sRetO, sFor, sAsgN, sAsgB, sParN, sParB, slotR, lfR, sExpr, sAppN, sAppB, augI, gTup_t, gCons_c, gCons_n, gNil_n, gNil_c, gN, dVar, dC, vR, rV, rBin, cBin, bV, bTru, bNot, bAnd, bOr, vAnd, vOr, vNot, rIf, vIf, dNeg, dTup, dLst, dTupS, dLstS, aNil, aCons, aStar, rCall, dCall, dCallK, pick, on1, on2, dLen, i1, i2, dInt, dIsi, dTru, dFld, rCut, oNone, oSome, dCut, iOf, iArg, zip2_e, enu1_e, rng1, rng2, rComp, bYes, cChain, dAdd, dSub, dMul, dFd, dMd, dPw, iI, iC, frz, viewN, viewB, wipeV, toSl, D.items, vDr, iDr, sDrPut, rDrNext, vDct, sNever, L2.atI, dIx, dList, dTuple, dEq, dNe, D.okd, okdL, D.eqb, PyData.eqv, D.py, pyL, dSum, dAll, dAny, L2.ixN, dNotB, dIsB, dIsN, dNotN, D.isNon]
  refine sp_is_between _ _ _ (by simp [D.tn]) _ _ ?_
  rw [show isBtw (-20 - (ps.length : Int)) 20 (.int w) = true from by simp [isBtw]; omega]
  have ne : ¬ ("whole" : Str) = "pairs" := by decide +kernel
  simp [putD, ne, dfS, startD, sCons, sNil, sSetN, sSetB, sOwnN, sOwnB, sIf, sRetB, sRetNone, sRetO, sFor, sAsgN, sAsgB, sParN, sParB, slotR, lfR, sExpr, sAppN, sAppB, augI, gTup_t, gCons_c, gCons_n, gNil_n, gNil_c, gN, dVar, dC, vR, rV, rBin, cBin, bV, bTru, bNot, bAnd, bOr, vAnd, vOr, vNot, rIf, vIf, dNeg, dTup, dLst, dTupS, dLstS, aNil, aCons, aStar, rCall, dCall, dCallK, pick, on1, on2, dLen, i1, i2, dInt, dIsi, dTru, dFld, rCut, oNone, oSome, dCut, iOf, iArg, zip2_e, enu1_e, rng1, rng2, rComp, bYes, cChain, dAdd, dSub, dMul, dFd, dMd, dPw, iI, iC, frz, viewN, viewB, wipeV, toSl, D.items, vDr, iDr, sDrPut, rDrNext, vDct, sNever, L2.atI, dIx, dList, dTuple, dEq, dNe, D.okd, okdL, D.eqb, PyData.eqv, D.py, pyL, dSum, dAll, dAny, L2.ixN, dNotB, dIsB, dIsN, dNotN, D.isNon]
  exact hk
end K58

set_option Elab.async false
set_option linter.all false
set_option maxRecDepth 100000
set_option maxHeartbeats 4000000
namespace K58
open PySem Dv
theorem mulokL (i j : Int) (h : i.natAbs < 2 ^ 60) : IntMulOk i j := IntMulOk.of_left (bits_le h)
theorem cut1 (x : D) (xs : List D) : cutD (x :: xs) (some 1) none = xs := by
  simp [cutD, HT.sIx]
theorem cutN1 (xs : List D) : cutD xs none (some (-1)) = xs.dropLast := by
  simp only [cutD, HT.sIx]
  rw [if_pos (by omega), List.drop_zero, List.dropLast_eq_take]
  congr 1
  omega
def cs (n : Int) : List Int → List (Int × Int) → Int
  | x :: vs, p :: ps => (x - n * p.1) / p.2 + cs n vs ps
  | _, _ => 0
def cnt (w : Int) (ps : List (Int × Int)) (v0 : Int) (vs : List Int) (n : Int) : Int := 1 + v0 - w * n + cs n vs ps
theorem cs_sum (n : Int) : ∀ (vs : List Int) (ps : List (Int × Int)), ((vs.zip ps).map fun q => (q.1 - n * q.2.1) / q.2.2).sum = cs n vs ps
  | [], _ => rfl
  | _ :: _, [] => rfl
  | x :: vs, p :: ps => by simp [cs, ← cs_sum n vs ps]
theorem dv_eq (v0 : Int) (vs : List Int) : dv (v0 :: vs) = .tup (.int v0 :: vs.map .int) := rfl
theorem sp_vector (ps : List (Int × Int)) (hp : Good ps) (m : Int) (hm : 0 < m) (hm2 : m ≤ 10 ^ 9) (k : Rv → Prop) (E : Exn → Prop) (h : ∀ v0 vs, vs.length = ps.length → v0.natAbs ≤ m → (∀ x ∈ vs, (x : Int).natAbs ≤ m) → k (.val (dv (v0 :: vs)))) : F__law_vector [.drw, dps ps, .int m] k E := by
  have hl := hp.1
  simp [F__law_vector, dps, dfS, startD, sCons, sNil, sSetN, sSetB, sOwnN, sOwnB, sIf, sRetB, sRetNone, sRetO, sFor, sAsgN, sAsgB, sParN, sParB, slotR, lfR, sExpr, sAppN, sAppB, augI, gTup_t, gCons_c, gCons_n, gNil_n, gNil_c, gN, dVar, dC, vR, rV, rBin, cBin, bV, bTru, bNot, bAnd, bOr, vAnd, vOr, vNot, rIf, vIf, dNeg, dTup, dLst, dTupS, dLstS, aNil, aCons, aStar, rCall, dCall, dCallK, pick, on1, on2, dLen, i1, i2, dInt, dIsi, dTru, dFld, rCut, oNone, oSome, dCut, iOf, iArg, zip2_e, enu1_e, rng1, rng2, rComp, bYes, cChain, dAdd, dSub, dMul, dFd, dMd, dPw, iI, iC, frz, viewN, viewB, wipeV, toSl, D.items, vDr, iDr, sDrPut, rDrNext, vDct, sNever, L2.atI, dIx, dList, dTuple, dEq, dNe, D.okd, okdL, D.eqb, PyData.eqv, D.py, pyL, dSum, dAll, dAny, L2.ixN, dNotB, dIsB, dIsN, dNotN, D.isNon]
  refine ⟨⟨by omega, by omega⟩, ?_⟩
  rw [show ((ps.length : Int) + 1) = ((ps.length + 1 : Nat) : Int) from by omega, rngD_map]
  refine compD_mr (fun i : Nat => D.int i) (fun i : Int => D.int i) (fun _ (y : Int) => y.natAbs ≤ m) _ _ (fun x _ κ hκ => ?_) (by have := szl; simp; omega) fun ys hys => ?_
  · simp [dfS, startD, sCons, sNil, sSetN, sSetB, sOwnN, sOwnB, sIf, sRetB, sRetNone, sRetO, sFor, sAsgN, sAsgB, sParN, sParB, slotR, lfR, sExpr, sAppN, sAppB, augI, gTup_t, gCons_c, gCons_n, gNil_n, gNil_c, gN, dVar, dC, vR, rV, rBin, cBin, bV, bTru, bNot, bAnd, bOr, vAnd, vOr, vNot, rIf, vIf, dNeg, dTup, dLst, dTupS, dLstS, aNil, aCons, aStar, rCall, dCall, dCallK, pick, on1, on2, dLen, i1, i2, dInt, dIsi, dTru, dFld, rCut, oNone, oSome, dCut, iOf, iArg, zip2_e, enu1_e, rng1, rng2, rComp, bYes, cChain, dAdd, dSub, dMul, dFd, dMd, dPw, iI, iC, frz, viewN, viewB, wipeV, toSl, D.items, vDr, iDr, sDrPut, rDrNext, vDct, sNever, L2.atI, dIx, dList, dTuple, dEq, dNe, D.okd, okdL, D.eqb, PyData.eqv, D.py, pyL, dSum, dAll, dAny, L2.ixN, dNotB, dIsB, dIsN, dNotN, D.isNon]
    refine ⟨mulokL _ _ (by decide), sp_take _ _ _ (by omega) (lg (by omega)) fun i hi hi2 => ?_⟩
    simp [dfS, startD, sCons, sNil, sSetN, sSetB, sOwnN, sOwnB, sIf, sRetB, sRetNone, sRetO, sFor, sAsgN, sAsgB, sParN, sParB, slotR, lfR, sExpr, sAppN, sAppB, augI, gTup_t, gCons_c, gCons_n, gNil_n, gNil_c, gN, dVar, dC, vR, rV, rBin, cBin, bV, bTru, bNot, bAnd, bOr, vAnd, vOr, vNot, rIf, vIf, dNeg, dTup, dLst, dTupS, dLstS, aNil, aCons, aStar, rCall, dCall, dCallK, pick, on1, on2, dLen, i1, i2, dInt, dIsi, dTru, dFld, rCut, oNone, oSome, dCut, iOf, iArg, zip2_e, enu1_e, rng1, rng2, rComp, bYes, cChain, dAdd, dSub, dMul, dFd, dMd, dPw, iI, iC, frz, viewN, viewB, wipeV, toSl, D.items, vDr, iDr, sDrPut, rDrNext, vDct, sNever, L2.atI, dIx, dList, dTuple, dEq, dNe, D.okd, okdL, D.eqb, PyData.eqv, D.py, pyL, dSum, dAll, dAny, L2.ixN, dNotB, dIsB, dIsN, dNotN, D.isNon]
    exact hκ _ (by omega)
  · simp [dfS, startD, sCons, sNil, sSetN, sSetB, sOwnN, sOwnB, sIf, sRetB, sRetNone, sRetO, sFor, sAsgN, sAsgB, sParN, sParB, slotR, lfR, sExpr, sAppN, sAppB, augI, gTup_t, gCons_c, gCons_n, gNil_n, gNil_c, gN, dVar, dC, vR, rV, rBin, cBin, bV, bTru, bNot, bAnd, bOr, vAnd, vOr, vNot, rIf, vIf, dNeg, dTup, dLst, dTupS, dLstS, aNil, aCons, aStar, rCall, dCall, dCallK, pick, on1, on2, dLen, i1, i2, dInt, dIsi, dTru, dFld, rCut, oNone, oSome, dCut, iOf, iArg, zip2_e, enu1_e, rng1, rng2, rComp, bYes, cChain, dAdd, dSub, dMul, dFd, dMd, dPw, iI, iC, frz, viewN, viewB, wipeV, toSl, D.items, vDr, iDr, sDrPut, rDrNext, vDct, sNever, L2.atI, dIx, dList, dTuple, dEq, dNe, D.okd, okdL, D.eqb, PyData.eqv, D.py, pyL, dSum, dAll, dAny, L2.ixN, dNotB, dIsB, dIsN, dNotN, D.isNon]
    have hlen := hys.length
    simp at hlen
    cases ys with
    | nil => simp at hlen
    | cons v0 vs =>
      have ha := hys.all (S := fun y : Int => y.natAbs ≤ m) fun _ _ z => z
      have := h v0 vs (by simpa using hlen) (ha _ List.mem_cons_self) fun x hx => ha x (List.mem_cons_of_mem _ hx)
      simpa [dv] using this
theorem sp_count (w : Int) (ps : List (Int × Int)) (hp : Good ps) (hw : w.natAbs < 2 ^ 50) (v0 : Int) (vs : List Int) (hl : vs.length < 1000) (n : Int) (k : Rv → Prop) (E : Exn → Prop) (h : k (.val (.int (cnt w ps v0 vs n)))) : F__law_count [.int w, dps ps, dv (v0 :: vs), .int n] k E := by
  simp [F__law_count, dv_eq, dps, L2.ixN, dfS, startD, sCons, sNil, sSetN, sSetB, sOwnN, sOwnB, sIf, sRetB, sRetNone, sRetO, sFor, sAsgN, sAsgB, sParN, sParB, slotR, lfR, sExpr, sAppN, sAppB, augI, gTup_t, gCons_c, gCons_n, gNil_n, gNil_c, gN, dVar, dC, vR, rV, rBin, cBin, bV, bTru, bNot, bAnd, bOr, vAnd, vOr, vNot, rIf, vIf, dNeg, dTup, dLst, dTupS, dLstS, aNil, aCons, aStar, rCall, dCall, dCallK, pick, on1, on2, dLen, i1, i2, dInt, dIsi, dTru, dFld, rCut, oNone, oSome, dCut, iOf, iArg, zip2_e, enu1_e, rng1, rng2, rComp, bYes, cChain, dAdd, dSub, dMul, dFd, dMd, dPw, iI, iC, frz, viewN, viewB, wipeV, toSl, D.items, vDr, iDr, sDrPut, rDrNext, vDct, sNever, L2.atI, dIx, dList, dTuple, dEq, dNe, D.okd, okdL, D.eqb, PyData.eqv, D.py, pyL, dSum, dAll, dAny, L2.ixN, dNotB, dIsB, dIsN, dNotN, D.isNon]
  refine ⟨mulokL _ _ (by omega), ?_⟩
  rw [cut1, zipD_map]
  refine compD_ml (fun q : Int × Int × Int => .tup [.int q.1, dp q.2]) (fun q => .int ((q.1 - n * q.2.1) / q.2.2)) _ _ (fun q hq κ hκ => ?_) (by have := szl; have := hp.1; simp; omega) ?_
  · have hm := hp.2 q.2 (List.of_mem_zip hq).2
    simp [dp, dfS, startD, sCons, sNil, sSetN, sSetB, sOwnN, sOwnB, sIf, sRetB, sRetNone, sRetO, sFor, sAsgN, sAsgB, sParN, sParB, slotR, lfR, sExpr, sAppN, sAppB, augI, gTup_t, gCons_c, gCons_n, gNil_n, gNil_c, gN, dVar, dC, vR, rV, rBin, cBin, bV, bTru, bNot, bAnd, bOr, vAnd, vOr, vNot, rIf, vIf, dNeg, dTup, dLst, dTupS, dLstS, aNil, aCons, aStar, rCall, dCall, dCallK, pick, on1, on2, dLen, i1, i2, dInt, dIsi, dTru, dFld, rCut, oNone, oSome, dCut, iOf, iArg, zip2_e, enu1_e, rng1, rng2, rComp, bYes, cChain, dAdd, dSub, dMul, dFd, dMd, dPw, iI, iC, frz, viewN, viewB, wipeV, toSl, D.items, vDr, iDr, sDrPut, rDrNext, vDct, sNever, L2.atI, dIx, dList, dTuple, dEq, dNe, D.okd, okdL, D.eqb, PyData.eqv, D.py, pyL, dSum, dAll, dAny, L2.ixN, dNotB, dIsB, dIsN, dNotN, D.isNon]
    refine ⟨mulok _ _ (by omega), ⟨by omega, lg (by omega)⟩, ?_⟩
    rw [fdiv_pos _ (by omega)]
    exact hκ
  · simp [ints_map, cs_sum]
    exact h
def sx (P : Int) : List Int → List (Int × Int) → Int
  | x :: vs, p :: ps => x * (P / p.2) + sx P vs ps
  | _, _ => 0
theorem sx_sum (P : Int) : ∀ (vs : List Int) (ps : List (Int × Int)), ((vs.zip ps).map fun q => q.1 * (P / q.2.2)).sum = sx P vs ps
  | [], _ => rfl
  | _ :: _, [] => rfl
  | x :: vs, p :: ps => by simp [sx, ← sx_sum P vs ps]
/-- the two bounds of a count -/
theorem cs_b {P : Int} (hP : 0 < P) (n : Int) : ∀ {vs : List Int} {ps : List (Int × Int)}, (∀ p ∈ ps, 0 < p.2 ∧ p.2 ∣ P) → vs.length = ps.length → P * cs n vs ps ≤ sx P vs ps - n * se P ps ∧ sx P vs ps - n * se P ps ≤ P * cs n vs ps + ps.length * P
  | [], [], _, _ => by simp [cs, sx, se]
  | [], _ :: _, _, h => by simp at h
  | _ :: _, [], _, h => by simp at h
  | x :: vs, p :: ps, hd, hl => by
    have ih := cs_b hP n (vs := vs) (ps := ps) (fun q hq => hd q (List.mem_cons_of_mem _ hq)) (by simpa using hl)
    obtain ⟨hb, c, hc⟩ := hd p List.mem_cons_self
    have e : se P (p :: ps) = p.1 * (P / p.2) + se P ps := by simp [se]
    have hc' : P / p.2 = c := by rw [hc, Int.mul_ediv_cancel_left _ (by omega)]
    have hc0 : 0 < c := by
      rcases Int.lt_or_le 0 c with z | z
      · exact z
      · have : p.2 * c ≤ 0 := Int.mul_nonpos_of_nonneg_of_nonpos (by omega) z
        omega
    simp only [cs, sx, e, List.length_cons, hc']
    have h1 := Int.mul_ediv_self_le (x := x - n * p.1) (k := p.2) (by omega)
    have h2 := Int.lt_mul_ediv_self_add (x := x - n * p.1) (k := p.2) (by omega)
    have e1 : P * ((x - n * p.1) / p.2) = c * (p.2 * ((x - n * p.1) / p.2)) := by rw [hc]; grind
    have h3 : c * (p.2 * ((x - n * p.1) / p.2)) ≤ c * (x - n * p.1) := Int.mul_le_mul_of_nonneg_left h1 (by omega)
    have h4 : c * (x - n * p.1) ≤ c * (p.2 * ((x - n * p.1) / p.2) + p.2) := Int.mul_le_mul_of_nonneg_left (by omega) (by omega)
    have e2 : c * (x - n * p.1) = x * c - n * (p.1 * c) := by grind
    have e3 : c * (p.2 * ((x - n * p.1) / p.2) + p.2) = c * (p.2 * ((x - n * p.1) / p.2)) + P := by rw [hc]; grind
    have e4 : n * (p.1 * c + se P ps) = n * (p.1 * c) + n * se P ps := by grind
    have e5 : P * ((x - n * p.1) / p.2 + cs n vs ps) = P * ((x - n * p.1) / p.2) + P * cs n vs ps := by grind
    have e6 : ((ps.length + 1 : Nat) : Int) * P = ps.length * P + P := by rw [Int.natCast_add, Int.add_mul]; simp
    rw [e4, e5, e6]
    omega
theorem prd_dvd : ∀ {ps : List (Int × Int)}, ∀ p ∈ ps, p.2 ∣ prd ps
  | q :: ps, p, h => by
    rcases List.mem_cons.mp h with rfl | h
    · exact ⟨prd ps, rfl⟩
    · obtain ⟨c, hc⟩ := prd_dvd p h
      exact ⟨q.2 * c, by rw [prd, hc]; grind⟩
theorem cnt_b {w : Int} {ps : List (Int × Int)} (hg : Good ps) (v0 : Int) {vs : List Int} (hl : vs.length = ps.length) (n : Int) :
    prd ps * cnt w ps v0 vs n ≤ (1 + v0) * prd ps + sx (prd ps) vs ps - n * num w ps ∧ (1 + v0) * prd ps + sx (prd ps) vs ps - n * num w ps ≤ prd ps * cnt w ps v0 vs n + ps.length * prd ps := by
  have hP := prd_big hg
  have z := cs_b hP.1 n (vs := vs) (ps := ps) (fun p hp => ⟨by have := hg.2 p hp; omega, prd_dvd p hp⟩) hl
  have e : prd ps * cnt w ps v0 vs n = (1 + v0) * prd ps - n * (w * prd ps) + prd ps * cs n vs ps := by unfold cnt; grind
  have e2 : n * num w ps = n * (w * prd ps) + n * se (prd ps) ps := by unfold num; grind
  rw [e, e2]
  omega
def IsFirst (w : Int) (ps : List (Int × Int)) (v0 : Int) (vs : List Int) (p : Int) : Prop := 0 < cnt w ps v0 vs p ∧ ∀ n, n < p → cnt w ps v0 vs n ≤ 0
theorem first_uniq {w : Int} {ps : List (Int × Int)} {v0 : Int} {vs : List Int} {p q : Int} (h1 : IsFirst w ps v0 vs p) (h2 : IsFirst w ps v0 vs q) : p = q := by
  rcases Int.lt_trichotomy p q with h | h | h
  · have := h2.2 p h; have := h1.1; omega
  · exact h
  · have := h1.2 q h; have := h2.1; omega
theorem cnt_some {w : Int} {ps : List (Int × Int)} (h : GW w ps) (v0 : Int) {vs : List Int} (hl : vs.length = ps.length) : ∃ N, 0 < cnt w ps v0 vs N := by
  have hP := prd_big h.g
  have hn := h.n
  refine ⟨((1 + v0) * prd ps + sx (prd ps) vs ps).natAbs + ps.length * prd ps + 1, ?_⟩
  have z := (cnt_b (w := w) h.g v0 hl (((1 + v0) * prd ps + sx (prd ps) vs ps).natAbs + ps.length * prd ps + 1)).2
  generalize (1 + v0) * prd ps + sx (prd ps) vs ps = A at z ⊢
  have hN : 0 ≤ (A.natAbs : Int) + ps.length * prd ps + 1 := by
    have : 0 ≤ (ps.length : Int) * prd ps := Int.mul_nonneg (by omega) (by omega)
    omega
  generalize hNN : (A.natAbs : Int) + ps.length * prd ps + 1 = N at z hN ⊢
  have h3 : N * num w ps ≤ N * (-1) := Int.mul_le_mul_of_nonneg_left (by omega) hN
  rcases Int.lt_or_le 0 (cnt w ps v0 vs N) with q | q
  · exact q
  · have : prd ps * cnt w ps v0 vs N ≤ 0 := Int.mul_nonpos_of_nonneg_of_nonpos (by omega) q
    omega
theorem cnt_neg {w : Int} {ps : List (Int × Int)} (h : GW w ps) (v0 : Int) {vs : List Int} (hl : vs.length = ps.length) {n : Int} (hn : (1 + v0) * prd ps + sx (prd ps) vs ps - n * num w ps ≤ 0) : cnt w ps v0 vs n ≤ 0 := by
  have hP := prd_big h.g
  have z := (cnt_b (w := w) h.g v0 hl n).1
  rcases Int.lt_or_le 0 (cnt w ps v0 vs n) with q | q
  · have : 0 < prd ps * cnt w ps v0 vs n := Int.mul_pos hP.1 q
    omega
  · exact q
end K58

set_option Elab.async false
set_option linter.all false
set_option maxRecDepth 100000
set_option maxHeartbeats 4000000
namespace K58
open PySem Dv
theorem num_def (w : Int) (ps : List (Int × Int)) : w * prd ps + se (prd ps) ps = num w ps := rfl
theorem sp_first (w : Int) (ps : List (Int × Int)) (hg : GW w ps) (v0 : Int) (vs : List Int) (hl : vs.length = ps.length) (k : Rv → Prop) (E : Exn → Prop) (h : ∀ p, IsFirst w ps v0 vs p → k (.val (.int p))) : F__law_first_above [.int w, dps ps, dv (v0 :: vs)] k E := by
  have hP := prd_big hg.g
  have hn := num_b hg
  have h0 := hg.w0
  have h1 := hg.w1
  have hlen := hg.g.1
  simp [F__law_first_above, dfS, startD, sCons, sNil, sSetN, sSetB, sOwnN, sOwnB, sIf, sRetB, sRetNone, sRetO, sFor, sAsgN, sAsgB, sParN, sParB, slotR, lfR, sExpr, sAppN, sAppB, augI, gTup_t, gCons_c, gCons_n, gNil_n, gNil_c, gN, dVar, dC, vR, rV, rBin, cBin, bV, bTru, bNot, bAnd, bOr, vAnd, vOr, vNot, rIf, vIf, dNeg, dTup, dLst, dTupS, dLstS, aNil, aCons, aStar, rCall, dCall, dCallK, pick, on1, on2, dLen, i1, i2, dInt, dIsi, dTru, dFld, rCut, oNone, oSome, dCut, iOf, iArg, zip2_e, enu1_e, rng1, rng2, rComp, bYes, cChain, dAdd, dSub, dMul, dFd, dMd, dPw, iI, iC, frz, viewN, viewB, wipeV, toSl, D.items, vDr, iDr, sDrPut, rDrNext, vDct, sNever, L2.atI, dIx, dList, dTuple, dEq, dNe, D.okd, okdL, D.eqb, PyData.eqv, D.py, pyL, dSum, dAll, dAny, L2.ixN, dNotB, dIsB, dIsN, dNotN, D.isNon]
  refine sp_e w ps hg.g (by omega) _ _ ?_
  rw [num_def]
  simp [dv_eq, dps, L2.ixN, dfS, startD, sCons, sNil, sSetN, sSetB, sOwnN, sOwnB, sIf, sRetB, sRetNone, sRetO, sFor, sAsgN, sAsgB, sParN, sParB, slotR, lfR, sExpr, sAppN, sAppB, augI, gTup_t, gCons_c, gCons_n, gNil_n, gNil_c, gN, dVar, dC, vR, rV, rBin, cBin, bV, bTru, bNot, bAnd, bOr, vAnd, vOr, vNot, rIf, vIf, dNeg, dTup, dLst, dTupS, dLstS, aNil, aCons, aStar, rCall, dCall, dCallK, pick, on1, on2, dLen, i1, i2, dInt, dIsi, dTru, dFld, rCut, oNone, oSome, dCut, iOf, iArg, zip2_e, enu1_e, rng1, rng2, rComp, bYes, cChain, dAdd, dSub, dMul, dFd, dMd, dPw, iI, iC, frz, viewN, viewB, wipeV, toSl, D.items, vDr, iDr, sDrPut, rDrNext, vDct, sNever, L2.atI, dIx, dList, dTuple, dEq, dNe, D.okd, okdL, D.eqb, PyData.eqv, D.py, pyL, dSum, dAll, dAny, L2.ixN, dNotB, dIsB, dIsN, dNotN, D.isNon]
  refine ⟨mulok _ _ (by omega), ?_⟩
  rw [cut1, zipD_map]
  refine compD_ml (fun q : Int × Int × Int => .tup [.int q.1, dp q.2]) (fun q => .int (q.1 * (prd ps / q.2.2))) _ _ (fun q hq κ hκ => ?_) (by have := szl; simp; omega) ?_
  · have hm := hg.g.2 q.2 (List.of_mem_zip hq).2
    have hd : prd ps / q.2.2 ≤ prd ps := Int.ediv_le_self _ (by omega)
    have hd0 : 0 ≤ prd ps / q.2.2 := Int.ediv_nonneg (by omega) (by omega)
    simp [dp, dfS, startD, sCons, sNil, sSetN, sSetB, sOwnN, sOwnB, sIf, sRetB, sRetNone, sRetO, sFor, sAsgN, sAsgB, sParN, sParB, slotR, lfR, sExpr, sAppN, sAppB, augI, gTup_t, gCons_c, gCons_n, gNil_n, gNil_c, gN, dVar, dC, vR, rV, rBin, cBin, bV, bTru, bNot, bAnd, bOr, vAnd, vOr, vNot, rIf, vIf, dNeg, dTup, dLst, dTupS, dLstS, aNil, aCons, aStar, rCall, dCall, dCallK, pick, on1, on2, dLen, i1, i2, dInt, dIsi, dTru, dFld, rCut, oNone, oSome, dCut, iOf, iArg, zip2_e, enu1_e, rng1, rng2, rComp, bYes, cChain, dAdd, dSub, dMul, dFd, dMd, dPw, iI, iC, frz, viewN, viewB, wipeV, toSl, D.items, vDr, iDr, sDrPut, rDrNext, vDct, sNever, L2.atI, dIx, dList, dTuple, dEq, dNe, D.okd, okdL, D.eqb, PyData.eqv, D.py, pyL, dSum, dAll, dAny, L2.ixN, dNotB, dIsB, dIsN, dNotN, D.isNon]
    rw [fdiv_pos _ (by omega)]
    exact ⟨⟨by omega, lg (by omega)⟩, mulok _ _ (by omega), hκ⟩
  · simp [ints_map, sx_sum, dfS, startD, sCons, sNil, sSetN, sSetB, sOwnN, sOwnB, sIf, sRetB, sRetNone, sRetO, sFor, sAsgN, sAsgB, sParN, sParB, slotR, lfR, sExpr, sAppN, sAppB, augI, gTup_t, gCons_c, gCons_n, gNil_n, gNil_c, gN, dVar, dC, vR, rV, rBin, cBin, bV, bTru, bNot, bAnd, bOr, vAnd, vOr, vNot, rIf, vIf, dNeg, dTup, dLst, dTupS, dLstS, aNil, aCons, aStar, rCall, dCall, dCallK, pick, on1, on2, dLen, i1, i2, dInt, dIsi, dTru, dFld, rCut, oNone, oSome, dCut, iOf, iArg, zip2_e, enu1_e, rng1, rng2, rComp, bYes, cChain, dAdd, dSub, dMul, dFd, dMd, dPw, iI, iC, frz, viewN, viewB, wipeV, toSl, D.items, vDr, iDr, sDrPut, rDrNext, vDct, sNever, L2.atI, dIx, dList, dTuple, dEq, dNe, D.okd, okdL, D.eqb, PyData.eqv, D.py, pyL, dSum, dAll, dAny, L2.ixN, dNotB, dIsB, dIsN, dNotN, D.isNon]
    refine ⟨⟨by omega, lg (by omega)⟩, ?_⟩
    rw [← Int.neg_fdiv_neg, fdiv_pos _ (by omega)]
    obtain ⟨N, hN⟩ := cnt_some hg v0 hl
    refine while_inv (fun m ρ => ∃ x a b c d, (m : Int) = N - x ∧ x ≤ N ∧ (∀ n, n < x → cnt w ps v0 vs n ≤ 0) ∧ ρ = [some (.val (.int w)), some (.val (.tup (ps.map dp))), some (.val (.tup (.int v0 :: vs.map .int))), some (.val (.int (num w ps))), some (.val (.int (prd ps))), some (.val (.int x)), a, b, c, d]) ?_ (N - (-((1 + v0) * prd ps + sx (prd ps) vs ps) / -num w ps)).toNat _ ?_
    · rintro m ρ ⟨x, a, b, c, d, hm, hx, hf, rfl⟩ κ hκ
      simp [dfS, startD, sCons, sNil, sSetN, sSetB, sOwnN, sOwnB, sIf, sRetB, sRetNone, sRetO, sFor, sAsgN, sAsgB, sParN, sParB, slotR, lfR, sExpr, sAppN, sAppB, augI, gTup_t, gCons_c, gCons_n, gNil_n, gNil_c, gN, dVar, dC, vR, rV, rBin, cBin, bV, bTru, bNot, bAnd, bOr, vAnd, vOr, vNot, rIf, vIf, dNeg, dTup, dLst, dTupS, dLstS, aNil, aCons, aStar, rCall, dCall, dCallK, pick, on1, on2, dLen, i1, i2, dInt, dIsi, dTru, dFld, rCut, oNone, oSome, dCut, iOf, iArg, zip2_e, enu1_e, rng1, rng2, rComp, bYes, cChain, dAdd, dSub, dMul, dFd, dMd, dPw, iI, iC, frz, viewN, viewB, wipeV, toSl, D.items, vDr, iDr, sDrPut, rDrNext, vDct, sNever, L2.atI, dIx, dList, dTuple, dEq, dNe, D.okd, okdL, D.eqb, PyData.eqv, D.py, pyL, dSum, dAll, dAny, L2.ixN, dNotB, dIsB, dIsN, dNotN, D.isNon]
      have := sp_count w ps hg.g (by omega) v0 vs (by omega) x
      rw [dv_eq, dps] at this
      refine this _ _ ?_
      simp [dfS, startD, sCons, sNil, sSetN, sSetB, sOwnN, sOwnB, sIf, sRetB, sRetNone, sRetO, sFor, sAsgN, sAsgB, sParN, sParB, slotR, lfR, sExpr, sAppN, sAppB, augI, gTup_t, gCons_c, gCons_n, gNil_n, gNil_c, gN, dVar, dC, vR, rV, rBin, cBin, bV, bTru, bNot, bAnd, bOr, vAnd, vOr, vNot, rIf, vIf, dNeg, dTup, dLst, dTupS, dLstS, aNil, aCons, aStar, rCall, dCall, dCallK, pick, on1, on2, dLen, i1, i2, dInt, dIsi, dTru, dFld, rCut, oNone, oSome, dCut, iOf, iArg, zip2_e, enu1_e, rng1, rng2, rComp, bYes, cChain, dAdd, dSub, dMul, dFd, dMd, dPw, iI, iC, frz, viewN, viewB, wipeV, toSl, D.items, vDr, iDr, sDrPut, rDrNext, vDct, sNever, L2.atI, dIx, dList, dTuple, dEq, dNe, D.okd, okdL, D.eqb, PyData.eqv, D.py, pyL, dSum, dAll, dAny, L2.ixN, dNotB, dIsB, dIsN, dNotN, D.isNon]
      refine ⟨fun hc => ?_, fun hc => ?_⟩
      · have hx2 : x ≠ N := by rintro rfl; omega
        refine hκ (N - (x + 1)).toNat _ (by omega) ⟨x + 1, _, _, _, _, by omega, by omega, fun n hn' => ?_, rfl⟩
        rcases Int.lt_or_le n x with q | q
        · exact hf n q
        · have : n = x := by omega
          rw [this]; exact hc
      · exact h x ⟨hc, hf⟩
    · generalize hA : (1 + v0) * prd ps + sx (prd ps) vs ps = A
      have key : ∀ n, n ≤ -A / -num w ps → cnt w ps v0 vs n ≤ 0 := fun n hn' => by
        refine cnt_neg hg v0 hl ?_
        rw [hA]
        have z1 := Int.ediv_mul_le (-A) (show -num w ps ≠ 0 by omega)
        have z2 : n * -num w ps ≤ -A / -num w ps * -num w ps := Int.mul_le_mul_of_nonneg_right hn' (by omega)
        have z3 : n * -num w ps = - (n * num w ps) := Int.mul_neg _ _
        omega
      have hx : -A / -num w ps ≤ N := by
        rcases Int.lt_or_le N (-A / -num w ps) with q | q
        · have := key N (by omega); omega
        · exact q
      exact ⟨_, _, _, _, _, by omega, hx, fun n hn' => key n (by omega), rfl⟩
def md (n : Int) : List Int → List (Int × Int) → List Int
  | x :: vs, p :: ps => (x - n * p.1) % p.2 :: md n vs ps
  | _, _ => []
/-- the normal one, the place known -/
def nrm (w : Int) (ps : List (Int × Int)) (v0 : Int) (vs : List Int) (p : Int) : List Int := (cnt w ps v0 vs p - 1) :: md p vs ps
theorem md_len (n : Int) : ∀ {vs : List Int} {ps : List (Int × Int)}, vs.length = ps.length → (md n vs ps).length = ps.length
  | [], [], _ => rfl
  | x :: vs, p :: ps, h => by simp only [md, List.length_cons, md_len n (vs := vs) (ps := ps) (by simpa using h)]
  | [], _ :: _, h => by simp at h
  | _ :: _, [], h => by simp at h
theorem zip_drop {α β : Type} {xs : List α} {ys : List β} (f : α → D) (g : β → D) : zipD (xs.map f) (ys.map g) = (xs.zip ys).map fun p => .tup [f p.1, g p.2] := zipD_map f g xs ys
/-- a loop over zip of two lists that puts a sum and a list together -/
theorem red_loop {ps0 : List (Int × Int)} (vs0 : List Int) (hp : ∀ p ∈ ps0, 0 < p.2 ∧ p.2 ≤ 20) : ∀ q ∈ vs0.zip ps0, 0 < q.2.2 ∧ q.2.2 ≤ 20 := fun q hq => hp q.2 (List.of_mem_zip hq).2
def zs : List (Int × Int × Int) → Int
  | [] => 0
  | q :: r => q.1 / q.2.2 + zs r
def zm : List (Int × Int × Int) → List Int
  | [] => []
  | q :: r => q.1 % q.2.2 :: zm r
theorem zs_cs : ∀ (vs : List Int) (ps : List (Int × Int)), zs (vs.zip ps) = cs 0 vs ps
  | [], _ => rfl
  | _ :: _, [] => rfl
  | x :: vs, p :: ps => by simp [zs, cs, zs_cs vs ps]
theorem zm_md : ∀ (vs : List Int) (ps : List (Int × Int)), zm (vs.zip ps) = md 0 vs ps
  | [], _ => rfl
  | _ :: _, [] => rfl
  | x :: vs, p :: ps => by simp [zm, md, zm_md vs ps]
theorem zm_len : ∀ (l : List (Int × Int × Int)), (zm l).length = l.length
  | [] => rfl
  | q :: r => by simp [zm, zm_len r]
theorem sp_reduced (ps : List (Int × Int)) (hp : Good ps) (u : D) (v0 : Int) (vs : List Int) (hu : u = .tup ((v0 :: vs).map .int) ∨ u = .lst ((v0 :: vs).map .int)) (k : Rv → Prop) (E : Exn → Prop) (h : k (.val (dv ((v0 + cs 0 vs ps) :: md 0 vs ps)))) : F__law_reduced [dps ps, u] k E := by
  have hlen := hp.1
  have hz := szl
  have goal : ∀ κ0 : Sl → Prop, (∀ a b c, κ0 [some (.val (.tup (ps.map dp))), some (.val u), some (.val (.int (v0 + cs 0 vs ps))), some (.own ((md 0 vs ps).map D.int)), a, b, c]) → forD (gTup 2 (gCons (gN 4) (gCons (gTup 2 (gCons (gN 5) (gCons (gN 6) gNil))) gNil)))
      (sCons (sSetN 2 (vR (rBin (dVar 2) (vR (rBin (dVar 4) (dVar 6) (iI CFd fun i j => i.fdiv j))) dAdd)))
        (sCons (sAppN 3 (vR (rBin (vR (rCall (aCons (dVar 4) aNil) (on1 dInt))) (dVar 6) (iI (fun x j => ¬j = 0) fun i j => i.fmod j)))) sNil))
      ((vs.zip ps).map fun q => .tup [.int q.1, dp q.2])
      [some (.val (.tup (ps.map dp))), some (.val u), some (.val (.int v0)), some (.own []), none, none, none]
      { nx := κ0, rt := k, bk := fun x => False, ct := fun x => False } E := by
    intro κ0 hκ0
    refine forD_ml (fun q : Int × Int × Int => .tup [.int q.1, dp q.2]) (fun r ρ => ∃ s ys a b c, (∀ q ∈ r, 0 < q.2.2 ∧ q.2.2 ≤ 20) ∧ s + zs r = v0 + cs 0 vs ps ∧ ys ++ zm r = md 0 vs ps ∧ ys.length + r.length ≤ 5 ∧ ρ = [some (.val (.tup (ps.map dp))), some (.val u), some (.val (.int s)), some (.own (ys.map D.int)), a, b, c]) ?_ ?_ _ _ ?_
    · rintro q r ρ ⟨s, ys, a, b, c, hq, hs, hy, hl, rfl⟩ κ hκ
      have hb := hq q List.mem_cons_self
      simp [dp, dfS, startD, sCons, sNil, sSetN, sSetB, sOwnN, sOwnB, sIf, sRetB, sRetNone, sRetO, sFor, sAsgN, sAsgB, sParN, sParB, slotR, lfR, sExpr, sAppN, sAppB, augI, gTup_t, gCons_c, gCons_n, gNil_n, gNil_c, gN, dVar, dC, vR, rV, rBin, cBin, bV, bTru, bNot, bAnd, bOr, vAnd, vOr, vNot, rIf, vIf, dNeg, dTup, dLst, dTupS, dLstS, aNil, aCons, aStar, rCall, dCall, dCallK, pick, on1, on2, dLen, i1, i2, dInt, dIsi, dTru, dFld, rCut, oNone, oSome, dCut, iOf, iArg, zip2_e, enu1_e, rng1, rng2, rComp, bYes, cChain, dAdd, dSub, dMul, dFd, dMd, dPw, iI, iC, frz, viewN, viewB, wipeV, toSl, D.items, vDr, iDr, sDrPut, rDrNext, vDct, sNever, L2.atI, dIx, dList, dTuple, dEq, dNe, D.okd, okdL, D.eqb, PyData.eqv, D.py, pyL, dSum, dAll, dAny, L2.ixN, dNotB, dIsB, dIsN, dNotN, D.isNon]
      rw [fdiv_pos _ hb.1, fmod_pos _ hb.1]
      simp only [List.length_cons] at hl
      refine ⟨⟨by omega, lg (by omega)⟩, by omega, by omega, hκ _ ⟨s + q.1 / q.2.2, ys ++ [q.1 % q.2.2], some (.val (.int q.1)), some (.val (.int q.2.1)), some (.val (.int q.2.2)), fun q' h' => hq q' (List.mem_cons_of_mem _ h'), ?_, ?_, ?_, ?_⟩⟩
      · rw [← hs]; simp only [zs]; omega
      · rw [← hy]; simp [zm]
      · simp; omega
      · simp
    · rintro ρ ⟨s, ys, a, b, c, _, hs, hy, hl, rfl⟩
      have e1 : s = v0 + cs 0 vs ps := by simpa [zs] using hs
      have e2 : ys = md 0 vs ps := by simpa [zm] using hy
      rw [e1, e2]
      exact hκ0 a b c
    · refine ⟨v0, [], _, _, _, red_loop vs fun p hp' => ?_, by rw [zs_cs], by rw [zm_md]; rfl, ?_, rfl⟩
      · have := hp.2 p hp'; omega
      · simp; omega
  have hml : (md 0 vs ps).length ≤ 5 := by rw [← zm_md, zm_len]; simp; omega
  rcases hu with rfl | rfl
  · simp [F__law_reduced, dps, L2.ixN, dfS, startD, sCons, sNil, sSetN, sSetB, sOwnN, sOwnB, sIf, sRetB, sRetNone, sRetO, sFor, sAsgN, sAsgB, sParN, sParB, slotR, lfR, sExpr, sAppN, sAppB, augI, gTup_t, gCons_c, gCons_n, gNil_n, gNil_c, gN, dVar, dC, vR, rV, rBin, cBin, bV, bTru, bNot, bAnd, bOr, vAnd, vOr, vNot, rIf, vIf, dNeg, dTup, dLst, dTupS, dLstS, aNil, aCons, aStar, rCall, dCall, dCallK, pick, on1, on2, dLen, i1, i2, dInt, dIsi, dTru, dFld, rCut, oNone, oSome, dCut, iOf, iArg, zip2_e, enu1_e, rng1, rng2, rComp, bYes, cChain, dAdd, dSub, dMul, dFd, dMd, dPw, iI, iC, frz, viewN, viewB, wipeV, toSl, D.items, vDr, iDr, sDrPut, rDrNext, vDct, sNever, L2.atI, dIx, dList, dTuple, dEq, dNe, D.okd, okdL, D.eqb, PyData.eqv, D.py, pyL, dSum, dAll, dAny, L2.ixN, dNotB, dIsB, dIsN, dNotN, D.isNon]
    rw [cut1, zipD_map]
    refine goal _ fun a b c => ?_
    simp [dfS, startD, sCons, sNil, sSetN, sSetB, sOwnN, sOwnB, sIf, sRetB, sRetNone, sRetO, sFor, sAsgN, sAsgB, sParN, sParB, slotR, lfR, sExpr, sAppN, sAppB, augI, gTup_t, gCons_c, gCons_n, gNil_n, gNil_c, gN, dVar, dC, vR, rV, rBin, cBin, bV, bTru, bNot, bAnd, bOr, vAnd, vOr, vNot, rIf, vIf, dNeg, dTup, dLst, dTupS, dLstS, aNil, aCons, aStar, rCall, dCall, dCallK, pick, on1, on2, dLen, i1, i2, dInt, dIsi, dTru, dFld, rCut, oNone, oSome, dCut, iOf, iArg, zip2_e, enu1_e, rng1, rng2, rComp, bYes, cChain, dAdd, dSub, dMul, dFd, dMd, dPw, iI, iC, frz, viewN, viewB, wipeV, toSl, D.items, vDr, iDr, sDrPut, rDrNext, vDct, sNever, L2.atI, dIx, dList, dTuple, dEq, dNe, D.okd, okdL, D.eqb, PyData.eqv, D.py, pyL, dSum, dAll, dAny, L2.ixN, dNotB, dIsB, dIsN, dNotN, D.isNon]
    exact ⟨by omega, by simpa [dv] using h⟩
  · simp [F__law_reduced, dps, L2.ixN, dfS, startD, sCons, sNil, sSetN, sSetB, sOwnN, sOwnB, sIf, sRetB, sRetNone, sRetO, sFor, sAsgN, sAsgB, sParN, sParB, slotR, lfR, sExpr, sAppN, sAppB, augI, gTup_t, gCons_c, gCons_n, gNil_n, gNil_c, gN, dVar, dC, vR, rV, rBin, cBin, bV, bTru, bNot, bAnd, bOr, vAnd, vOr, vNot, rIf, vIf, dNeg, dTup, dLst, dTupS, dLstS, aNil, aCons, aStar, rCall, dCall, dCallK, pick, on1, on2, dLen, i1, i2, dInt, dIsi, dTru, dFld, rCut, oNone, oSome, dCut, iOf, iArg, zip2_e, enu1_e, rng1, rng2, rComp, bYes, cChain, dAdd, dSub, dMul, dFd, dMd, dPw, iI, iC, frz, viewN, viewB, wipeV, toSl, D.items, vDr, iDr, sDrPut, rDrNext, vDct, sNever, L2.atI, dIx, dList, dTuple, dEq, dNe, D.okd, okdL, D.eqb, PyData.eqv, D.py, pyL, dSum, dAll, dAny, L2.ixN, dNotB, dIsB, dIsN, dNotN, D.isNon]
    rw [cut1, zipD_map]
    refine goal _ fun a b c => ?_
    simp [dfS, startD, sCons, sNil, sSetN, sSetB, sOwnN, sOwnB, sIf, sRetB, sRetNone, sRetO, sFor, sAsgN, sAsgB, sParN, sParB, slotR, lfR, sExpr, sAppN, sAppB, augI, gTup_t, gCons_c, gCons_n, gNil_n, gNil_c, gN, dVar, dC, vR, rV, rBin, cBin, bV, bTru, bNot, bAnd, bOr, vAnd, vOr, vNot, rIf, vIf, dNeg, dTup, dLst, dTupS, dLstS, aNil, aCons, aStar, rCall, dCall, dCallK, pick, on1, on2, dLen, i1, i2, dInt, dIsi, dTru, dFld, rCut, oNone, oSome, dCut, iOf, iArg, zip2_e, enu1_e, rng1, rng2, rComp, bYes, cChain, dAdd, dSub, dMul, dFd, dMd, dPw, iI, iC, frz, viewN, viewB, wipeV, toSl, D.items, vDr, iDr, sDrPut, rDrNext, vDct, sNever, L2.atI, dIx, dList, dTuple, dEq, dNe, D.okd, okdL, D.eqb, PyData.eqv, D.py, pyL, dSum, dAll, dAny, L2.ixN, dNotB, dIsB, dIsN, dNotN, D.isNon]
    exact ⟨by omega, by simpa [dv] using h⟩
theorem cs_shift (p : Int) : ∀ (vs : List Int) (ps : List (Int × Int)), cs 0 (((vs.zip ps).map fun q => q.1 - p * q.2.1)) ps = cs p vs ps
  | [], _ => rfl
  | _ :: _, [] => rfl
  | x :: vs, q :: ps => by simp [cs, cs_shift p vs ps]
theorem md_shift (p : Int) : ∀ (vs : List Int) (ps : List (Int × Int)), md 0 (((vs.zip ps).map fun q => q.1 - p * q.2.1)) ps = md p vs ps
  | [], _ => rfl
  | _ :: _, [] => rfl
  | x :: vs, q :: ps => by simp [md, md_shift p vs ps]
theorem sp_law_normal (w : Int) (ps : List (Int × Int)) (hg : GW w ps) (v0 : Int) (vs : List Int) (hl : vs.length = ps.length) (k : Rv → Prop) (E : Exn → Prop) (h : ∀ p, IsFirst w ps v0 vs p → k (.val (dv (nrm w ps v0 vs p)))) : F__law_normal [.int w, dps ps, dv (v0 :: vs)] k E := by
  have hlen := hg.g.1
  have hz := szl
  have h0 := hg.w0
  have h1 := hg.w1
  simp [F__law_normal, dfS, startD, sCons, sNil, sSetN, sSetB, sOwnN, sOwnB, sIf, sRetB, sRetNone, sRetO, sFor, sAsgN, sAsgB, sParN, sParB, slotR, lfR, sExpr, sAppN, sAppB, augI, gTup_t, gCons_c, gCons_n, gNil_n, gNil_c, gN, dVar, dC, vR, rV, rBin, cBin, bV, bTru, bNot, bAnd, bOr, vAnd, vOr, vNot, rIf, vIf, dNeg, dTup, dLst, dTupS, dLstS, aNil, aCons, aStar, rCall, dCall, dCallK, pick, on1, on2, dLen, i1, i2, dInt, dIsi, dTru, dFld, rCut, oNone, oSome, dCut, iOf, iArg, zip2_e, enu1_e, rng1, rng2, rComp, bYes, cChain, dAdd, dSub, dMul, dFd, dMd, dPw, iI, iC, frz, viewN, viewB, wipeV, toSl, D.items, vDr, iDr, sDrPut, rDrNext, vDct, sNever, L2.atI, dIx, dList, dTuple, dEq, dNe, D.okd, okdL, D.eqb, PyData.eqv, D.py, pyL, dSum, dAll, dAny, L2.ixN, dNotB, dIsB, dIsN, dNotN, D.isNon]
  refine sp_first w ps hg v0 vs hl _ _ fun p hp => ?_
  simp [dv_eq, dps, L2.ixN, dfS, startD, sCons, sNil, sSetN, sSetB, sOwnN, sOwnB, sIf, sRetB, sRetNone, sRetO, sFor, sAsgN, sAsgB, sParN, sParB, slotR, lfR, sExpr, sAppN, sAppB, augI, gTup_t, gCons_c, gCons_n, gNil_n, gNil_c, gN, dVar, dC, vR, rV, rBin, cBin, bV, bTru, bNot, bAnd, bOr, vAnd, vOr, vNot, rIf, vIf, dNeg, dTup, dLst, dTupS, dLstS, aNil, aCons, aStar, rCall, dCall, dCallK, pick, on1, on2, dLen, i1, i2, dInt, dIsi, dTru, dFld, rCut, oNone, oSome, dCut, iOf, iArg, zip2_e, enu1_e, rng1, rng2, rComp, bYes, cChain, dAdd, dSub, dMul, dFd, dMd, dPw, iI, iC, frz, viewN, viewB, wipeV, toSl, D.items, vDr, iDr, sDrPut, rDrNext, vDct, sNever, L2.atI, dIx, dList, dTuple, dEq, dNe, D.okd, okdL, D.eqb, PyData.eqv, D.py, pyL, dSum, dAll, dAny, L2.ixN, dNotB, dIsB, dIsN, dNotN, D.isNon]
  refine ⟨mulok _ _ (by omega), ?_⟩
  rw [cut1, zipD_map]
  refine compD_ml (fun q : Int × Int × Int => .tup [.int q.1, dp q.2]) (fun q => .int (q.1 - p * q.2.1)) _ _ (fun q hq κ hκ => ?_) (by simp; omega) ?_
  · have hm := hg.g.2 q.2 (List.of_mem_zip hq).2
    simp [dp, dfS, startD, sCons, sNil, sSetN, sSetB, sOwnN, sOwnB, sIf, sRetB, sRetNone, sRetO, sFor, sAsgN, sAsgB, sParN, sParB, slotR, lfR, sExpr, sAppN, sAppB, augI, gTup_t, gCons_c, gCons_n, gNil_n, gNil_c, gN, dVar, dC, vR, rV, rBin, cBin, bV, bTru, bNot, bAnd, bOr, vAnd, vOr, vNot, rIf, vIf, dNeg, dTup, dLst, dTupS, dLstS, aNil, aCons, aStar, rCall, dCall, dCallK, pick, on1, on2, dLen, i1, i2, dInt, dIsi, dTru, dFld, rCut, oNone, oSome, dCut, iOf, iArg, zip2_e, enu1_e, rng1, rng2, rComp, bYes, cChain, dAdd, dSub, dMul, dFd, dMd, dPw, iI, iC, frz, viewN, viewB, wipeV, toSl, D.items, vDr, iDr, sDrPut, rDrNext, vDct, sNever, L2.atI, dIx, dList, dTuple, dEq, dNe, D.okd, okdL, D.eqb, PyData.eqv, D.py, pyL, dSum, dAll, dAny, L2.ixN, dNotB, dIsB, dIsN, dNotN, D.isNon]
    exact ⟨mulok _ _ (by omega), hκ⟩
  · simp [dfS, startD, sCons, sNil, sSetN, sSetB, sOwnN, sOwnB, sIf, sRetB, sRetNone, sRetO, sFor, sAsgN, sAsgB, sParN, sParB, slotR, lfR, sExpr, sAppN, sAppB, augI, gTup_t, gCons_c, gCons_n, gNil_n, gNil_c, gN, dVar, dC, vR, rV, rBin, cBin, bV, bTru, bNot, bAnd, bOr, vAnd, vOr, vNot, rIf, vIf, dNeg, dTup, dLst, dTupS, dLstS, aNil, aCons, aStar, rCall, dCall, dCallK, pick, on1, on2, dLen, i1, i2, dInt, dIsi, dTru, dFld, rCut, oNone, oSome, dCut, iOf, iArg, zip2_e, enu1_e, rng1, rng2, rComp, bYes, cChain, dAdd, dSub, dMul, dFd, dMd, dPw, iI, iC, frz, viewN, viewB, wipeV, toSl, D.items, vDr, iDr, sDrPut, rDrNext, vDct, sNever, L2.atI, dIx, dList, dTuple, dEq, dNe, D.okd, okdL, D.eqb, PyData.eqv, D.py, pyL, dSum, dAll, dAny, L2.ixN, dNotB, dIsB, dIsN, dNotN, D.isNon]
    refine ⟨by omega, ?_⟩
    have := sp_reduced ps hg.g (.lst (((v0 - p * w) :: ((vs.zip ps).map fun q : Int × Int × Int => q.1 - p * q.2.1)).map D.int)) (v0 - p * w) ((vs.zip ps).map fun q => q.1 - p * q.2.1) (.inr rfl) k E
    simp [dps] at this
    refine this ?_
    have e := h p hp
    rw [cs_shift, md_shift]
    have e2 : v0 - p * w + cs p vs ps = cnt w ps v0 vs p - 1 := by unfold cnt; rw [Int.mul_comm w p]; omega
    rw [e2]
    exact e
end K58

set_option Elab.async false
set_option linter.all false
set_option maxRecDepth 100000
set_option maxHeartbeats 4000000
namespace K58
open PySem Dv
theorem wne : ¬ ("pairs" : Str) = "whole" := by decide +kernel
theorem wbeq : (("pairs" : Str) == "whole") = false := by decide +kernel
theorem st_w (w : Int) (ps : List (Int × Int)) : List.lookup ("whole" : Str) [(("whole" : Str), D.int w), ("pairs", dps ps)] = some (.int w) := by simp [List.lookup]
theorem st_p (w : Int) (ps : List (Int × Int)) : List.lookup ("pairs" : Str) [(("whole" : Str), D.int w), ("pairs", dps ps)] = some (dps ps) := by simp [List.lookup, wbeq]
theorem sp_need_stream (w : Int) (ps : List (Int × Int)) (k : Rv → Prop) (E : Exn → Prop) (hk : k (.val .non)) : F_need_stream [stm w ps] k E := by
  simp [F_need_stream, stm, kt, ktC, Cs, D.tn, D.cn, dfS, startD, sCons, sNil, sSetN, sSetB, sOwnN, sOwnB, sIf, sRetB, sRetNone, sRetO, sFor, sAsgN, sAsgB, sParN, sParB, slotR, lfR, sExpr, sAppN, sAppB, augI, gTup_t, gCons_c, gCons_n, gNil_n, gNil_c, gN, dVar, dC, vR, rV, rBin, cBin, bV, bTru, bNot, bAnd, bOr, vAnd, vOr, vNot, rIf, vIf, dNeg, dTup, dLst, dTupS, dLstS, aNil, aCons, aStar, rCall, dCall, dCallK, pick, on1, on2, dLen, i1, i2, dInt, dIsi, dTru, dFld, rCut, oNone, oSome, dCut, iOf, iArg, zip2_e, enu1_e, rng1, rng2, rComp, bYes, cChain, dAdd, dSub, dMul, dFd, dMd, dPw, iI, iC, frz, viewN, viewB, wipeV, toSl, D.items, vDr, iDr, sDrPut, rDrNext, vDct, sNever, L2.atI, dIx, dList, dTuple, dEq, dNe, D.okd, okdL, D.eqb, PyData.eqv, D.py, pyL, dSum, dAll, dAny, L2.ixN, dNotB, dIsB, dIsN, dNotN, D.isNon]
  exact hk
theorem sp_least (a b : Int) (hb : 0 < b) (hb2 : b < 2 ^ 100) (k : Rv → Prop) (E : Exn → Prop) (hk : ∀ g : Int, 0 < g → g ∣ a → g ∣ b → k (.val (.tup [.int (a / g), .int (b / g)]))) : F_least_ratio [.int a, .int b] k E := by
  simp [F_least_ratio, iGcd, dfS, startD, sCons, sNil, sSetN, sSetB, sOwnN, sOwnB, sIf, sRetB, sRetNone, sRetO, sFor, sAsgN, sAsgB, sParN, sParB, slotR, lfR, sExpr, sAppN, sAppB, augI, gTup_t, gCons_c, gCons_n, gNil_n, gNil_c, gN, dVar, dC, vR, rV, rBin, cBin, bV, bTru, bNot, bAnd, bOr, vAnd, vOr, vNot, rIf, vIf, dNeg, dTup, dLst, dTupS, dLstS, aNil, aCons, aStar, rCall, dCall, dCallK, pick, on1, on2, dLen, i1, i2, dInt, dIsi, dTru, dFld, rCut, oNone, oSome, dCut, iOf, iArg, zip2_e, enu1_e, rng1, rng2, rComp, bYes, cChain, dAdd, dSub, dMul, dFd, dMd, dPw, iI, iC, frz, viewN, viewB, wipeV, toSl, D.items, vDr, iDr, sDrPut, rDrNext, vDct, sNever, L2.atI, dIx, dList, dTuple, dEq, dNe, D.okd, okdL, D.eqb, PyData.eqv, D.py, pyL, dSum, dAll, dAny, L2.ixN, dNotB, dIsB, dIsN, dNotN, D.isNon]
  have hg : 0 < Nat.gcd a.natAbs b.natAbs := Nat.gcd_pos_of_pos_right _ (by omega)
  have hgl : Nat.gcd a.natAbs b.natAbs ≤ b.natAbs := Nat.gcd_le_right _ (by omega)
  refine ⟨fun _ => ?_, fun z => by omega⟩
  have c : CFd a (Nat.gcd a.natAbs b.natAbs : Nat) := ⟨by omega, lg (by omega)⟩
  refine ⟨c, c, ?_⟩
  rw [fdiv_pos _ (by omega), fdiv_pos _ (by omega)]
  refine hk _ (by omega) ?_ ?_
  · exact Int.ofNat_dvd_left.mpr (Nat.gcd_dvd_left _ _)
  · exact Int.ofNat_dvd_left.mpr (Nat.gcd_dvd_right _ _)
def fr : Int → Int → List (Int × Int) → Int × Int
  | N, d, [] => (N, d)
  | N, d, p :: ps => fr (N * p.2 + p.1 * d) (d * p.2) ps
theorem se_mul {P : Int} (b : Int) : ∀ {ps : List (Int × Int)}, (∀ p ∈ ps, 0 < p.2 ∧ p.2 ∣ P) → se (b * P) ps = b * se P ps
  | [], _ => by simp [se]
  | p :: ps, h => by
    have ih := se_mul b (ps := ps) fun q hq => h q (List.mem_cons_of_mem _ hq)
    obtain ⟨hb, c, hc⟩ := h p List.mem_cons_self
    have e : ∀ P, se P (p :: ps) = p.1 * (P / p.2) + se P ps := fun P => by simp [se]
    rw [e, e, ih]
    have e1 : P / p.2 = c := by rw [hc, Int.mul_ediv_cancel_left _ (by omega)]
    have e2 : b * P / p.2 = b * c := by rw [hc, show b * (p.2 * c) = p.2 * (b * c) from by grind, Int.mul_ediv_cancel_left _ (by omega)]
    rw [e1, e2]
    grind
theorem fr_eq : ∀ (ps : List (Int × Int)) (N d : Int), (∀ p ∈ ps, 0 < p.2) → fr N d ps = (N * prd ps + d * se (prd ps) ps, d * prd ps)
  | [], N, d, _ => by simp [fr, prd, se]
  | p :: ps, N, d, h => by
    have hb := h p List.mem_cons_self
    rw [fr, fr_eq ps _ _ fun q hq => h q (List.mem_cons_of_mem _ hq)]
    have e : se (prd (p :: ps)) (p :: ps) = p.1 * prd ps + p.2 * se (prd ps) ps := by
      have z : se (prd (p :: ps)) (p :: ps) = p.1 * (prd (p :: ps) / p.2) + se (prd (p :: ps)) ps := by simp [se]
      rw [z]
      have e1 : prd (p :: ps) / p.2 = prd ps := by rw [prd, Int.mul_ediv_cancel_left _ (by omega)]
      rw [e1, prd, se_mul p.2 fun q hq => ⟨h q (List.mem_cons_of_mem _ hq), prd_dvd q hq⟩]
    rw [e, prd]
    congr 1 <;> grind
/-- e in some terms -/
structure EIs (w : Int) (ps : List (Int × Int)) (A B : Int) : Prop where
  b0 : 0 < B
  b1 : B ≤ prd ps
  e : A * prd ps = num w ps * B
theorem EIs.neg {w : Int} {ps : List (Int × Int)} {A B : Int} (h : EIs w ps A B) (g : GW w ps) : A < 0 ∧ -26000000 * 3200000 ≤ A := by
  have hP := prd_big g.g
  have hn := num_b g
  have e := h.e
  have hb := h.b0
  have hb1 := h.b1
  constructor
  · rcases Int.lt_or_le A 0 with z | z
    · exact z
    · have h1 : 0 ≤ A * prd ps := Int.mul_nonneg z (by omega)
      have h2 : num w ps * B < 0 := Int.mul_neg_of_neg_of_pos (by omega) hb
      omega
  · rcases Int.lt_or_le A (-26000000 * 3200000) with z | z
    · have h1 : A * prd ps ≤ A * 1 := Int.mul_le_mul_of_nonpos_left (by omega) (by omega)
      have h2 : num w ps * B ≥ -26000000 * B := Int.mul_le_mul_of_nonneg_right hn.1 (by omega)
      omega
    · exact z
theorem sp_e_of (w : Int) (ps : List (Int × Int)) (hg : GW w ps) (k : Rv → Prop) (E : Exn → Prop) (hk : ∀ A B, EIs w ps A B → k (.val (.tup [.int A, .int B]))) : F_e_of [stm w ps] k E := by
  have hP := prd_big hg.g
  simp [F_e_of, dfS, startD, sCons, sNil, sSetN, sSetB, sOwnN, sOwnB, sIf, sRetB, sRetNone, sRetO, sFor, sAsgN, sAsgB, sParN, sParB, slotR, lfR, sExpr, sAppN, sAppB, augI, gTup_t, gCons_c, gCons_n, gNil_n, gNil_c, gN, dVar, dC, vR, rV, rBin, cBin, bV, bTru, bNot, bAnd, bOr, vAnd, vOr, vNot, rIf, vIf, dNeg, dTup, dLst, dTupS, dLstS, aNil, aCons, aStar, rCall, dCall, dCallK, pick, on1, on2, dLen, i1, i2, dInt, dIsi, dTru, dFld, rCut, oNone, oSome, dCut, iOf, iArg, zip2_e, enu1_e, rng1, rng2, rComp, bYes, cChain, dAdd, dSub, dMul, dFd, dMd, dPw, iI, iC, frz, viewN, viewB, wipeV, toSl, D.items, vDr, iDr, sDrPut, rDrNext, vDct, sNever, L2.atI, dIx, dList, dTuple, dEq, dNe, D.okd, okdL, D.eqb, PyData.eqv, D.py, pyL, dSum, dAll, dAny, L2.ixN, dNotB, dIsB, dIsN, dNotN, D.isNon]
  refine sp_need_stream w ps _ _ ?_
  simp [stm, st_w, st_p, dfS, startD, sCons, sNil, sSetN, sSetB, sOwnN, sOwnB, sIf, sRetB, sRetNone, sRetO, sFor, sAsgN, sAsgB, sParN, sParB, slotR, lfR, sExpr, sAppN, sAppB, augI, gTup_t, gCons_c, gCons_n, gNil_n, gNil_c, gN, dVar, dC, vR, rV, rBin, cBin, bV, bTru, bNot, bAnd, bOr, vAnd, vOr, vNot, rIf, vIf, dNeg, dTup, dLst, dTupS, dLstS, aNil, aCons, aStar, rCall, dCall, dCallK, pick, on1, on2, dLen, i1, i2, dInt, dIsi, dTru, dFld, rCut, oNone, oSome, dCut, iOf, iArg, zip2_e, enu1_e, rng1, rng2, rComp, bYes, cChain, dAdd, dSub, dMul, dFd, dMd, dPw, iI, iC, frz, viewN, viewB, wipeV, toSl, D.items, vDr, iDr, sDrPut, rDrNext, vDct, sNever, L2.atI, dIx, dList, dTuple, dEq, dNe, D.okd, okdL, D.eqb, PyData.eqv, D.py, pyL, dSum, dAll, dAny, L2.ixN, dNotB, dIsB, dIsN, dNotN, D.isNon]
  refine ⟨ps.map dp, by simp [dps, D.items], ?_⟩
  refine forD_ml dp (fun r ρ => ∃ A B N d c, (∀ p ∈ r, 0 < p.2 ∧ p.2 ≤ 20) ∧ 0 < B ∧ B ≤ d ∧ A * d = N * B ∧ d * prd r = prd ps ∧ fr N d r = (num w ps, prd ps) ∧ ρ = [some (.val (stm w ps)), some (.val (.tup [.int A, .int B])), c]) ?_ ?_ _ _ ?_
  · rintro p r ρ ⟨A, B, N, d, c, hr, hB, hBd, hAB, hd, hf, rfl⟩ κ hκ
    have hp := hr p List.mem_cons_self
    have hr' : ∀ q ∈ r, 0 < q.2 ∧ q.2 ≤ 20 := fun q hq => hr q (List.mem_cons_of_mem _ hq)
    have hpr := prd_b hr'
    have hdb : d * p.2 ≤ prd ps := by
      rw [← hd, prd, ← Int.mul_assoc]
      have : d * p.2 * 1 ≤ d * p.2 * prd r := Int.mul_le_mul_of_nonneg_left (by omega) (Int.mul_nonneg (by omega) (by omega))
      omega
    have hBb : B * p.2 ≤ d * p.2 := Int.mul_le_mul_of_nonneg_right hBd (by omega)
    have hBb0 : 0 < B * p.2 := Int.mul_pos hB hp.1
    have hd1 : d ≤ d * p.2 := by
      have : d * 1 ≤ d * p.2 := Int.mul_le_mul_of_nonneg_left (by omega) (by omega)
      omega
    simp [F_ratio_plus, dp, stm, dfS, startD, sCons, sNil, sSetN, sSetB, sOwnN, sOwnB, sIf, sRetB, sRetNone, sRetO, sFor, sAsgN, sAsgB, sParN, sParB, slotR, lfR, sExpr, sAppN, sAppB, augI, gTup_t, gCons_c, gCons_n, gNil_n, gNil_c, gN, dVar, dC, vR, rV, rBin, cBin, bV, bTru, bNot, bAnd, bOr, vAnd, vOr, vNot, rIf, vIf, dNeg, dTup, dLst, dTupS, dLstS, aNil, aCons, aStar, rCall, dCall, dCallK, pick, on1, on2, dLen, i1, i2, dInt, dIsi, dTru, dFld, rCut, oNone, oSome, dCut, iOf, iArg, zip2_e, enu1_e, rng1, rng2, rComp, bYes, cChain, dAdd, dSub, dMul, dFd, dMd, dPw, iI, iC, frz, viewN, viewB, wipeV, toSl, D.items, vDr, iDr, sDrPut, rDrNext, vDct, sNever, L2.atI, dIx, dList, dTuple, dEq, dNe, D.okd, okdL, D.eqb, PyData.eqv, D.py, pyL, dSum, dAll, dAny, L2.ixN, dNotB, dIsB, dIsN, dNotN, D.isNon]
    refine ⟨mulok _ _ (by omega), mulok _ _ (by omega), mulok _ _ (by omega), ?_⟩
    refine sp_least _ _ hBb0 (by omega) _ _ fun g hg0 hga hgb => ?_
    simp [dfS, startD, sCons, sNil, sSetN, sSetB, sOwnN, sOwnB, sIf, sRetB, sRetNone, sRetO, sFor, sAsgN, sAsgB, sParN, sParB, slotR, lfR, sExpr, sAppN, sAppB, augI, gTup_t, gCons_c, gCons_n, gNil_n, gNil_c, gN, dVar, dC, vR, rV, rBin, cBin, bV, bTru, bNot, bAnd, bOr, vAnd, vOr, vNot, rIf, vIf, dNeg, dTup, dLst, dTupS, dLstS, aNil, aCons, aStar, rCall, dCall, dCallK, pick, on1, on2, dLen, i1, i2, dInt, dIsi, dTru, dFld, rCut, oNone, oSome, dCut, iOf, iArg, zip2_e, enu1_e, rng1, rng2, rComp, bYes, cChain, dAdd, dSub, dMul, dFd, dMd, dPw, iI, iC, frz, viewN, viewB, wipeV, toSl, D.items, vDr, iDr, sDrPut, rDrNext, vDct, sNever, L2.atI, dIx, dList, dTuple, dEq, dNe, D.okd, okdL, D.eqb, PyData.eqv, D.py, pyL, dSum, dAll, dAny, L2.ixN, dNotB, dIsB, dIsN, dNotN, D.isNon]
    obtain ⟨a', ha'⟩ := hga
    obtain ⟨b', hb'⟩ := hgb
    have q1 : (A * p.2 + p.1 * B) / g = a' := by rw [ha', Int.mul_ediv_cancel_left _ (by omega)]
    have q2 : B * p.2 / g = b' := by rw [hb', Int.mul_ediv_cancel_left _ (by omega)]
    rw [q1, q2]
    have hb0 : 0 < b' := by
      rcases Int.lt_or_le 0 b' with z | z
      · exact z
      · have : g * b' ≤ 0 := Int.mul_nonpos_of_nonneg_of_nonpos (by omega) z
        omega
    refine hκ _ ⟨a', b', N * p.2 + p.1 * d, d * p.2, _, hr', hb0, ?_, ?_, ?_, ?_, rfl⟩
    · have : 1 * b' ≤ g * b' := Int.mul_le_mul_of_nonneg_right (by omega) (by omega)
      omega
    · have : g * (a' * (d * p.2)) = g * ((N * p.2 + p.1 * d) * b') := by
        calc g * (a' * (d * p.2)) = (g * a') * (d * p.2) := by grind
          _ = (A * p.2 + p.1 * B) * (d * p.2) := by rw [ha']
          _ = (A * d) * (p.2 * p.2) + p.1 * d * (B * p.2) := by grind
          _ = (N * B) * (p.2 * p.2) + p.1 * d * (B * p.2) := by rw [hAB]
          _ = (N * p.2 + p.1 * d) * (B * p.2) := by grind
          _ = (N * p.2 + p.1 * d) * (g * b') := by rw [hb']
          _ = g * ((N * p.2 + p.1 * d) * b') := by grind
      exact Int.eq_of_mul_eq_mul_left (by omega) this
    · rw [← hd, prd]; grind
    · exact hf
  · rintro ρ ⟨A, B, N, d, c, _, hB, hBd, hAB, hd, hf, rfl⟩
    simp [prd] at hd
    simp [fr] at hf
    simp [dfS, startD, sCons, sNil, sSetN, sSetB, sOwnN, sOwnB, sIf, sRetB, sRetNone, sRetO, sFor, sAsgN, sAsgB, sParN, sParB, slotR, lfR, sExpr, sAppN, sAppB, augI, gTup_t, gCons_c, gCons_n, gNil_n, gNil_c, gN, dVar, dC, vR, rV, rBin, cBin, bV, bTru, bNot, bAnd, bOr, vAnd, vOr, vNot, rIf, vIf, dNeg, dTup, dLst, dTupS, dLstS, aNil, aCons, aStar, rCall, dCall, dCallK, pick, on1, on2, dLen, i1, i2, dInt, dIsi, dTru, dFld, rCut, oNone, oSome, dCut, iOf, iArg, zip2_e, enu1_e, rng1, rng2, rComp, bYes, cChain, dAdd, dSub, dMul, dFd, dMd, dPw, iI, iC, frz, viewN, viewB, wipeV, toSl, D.items, vDr, iDr, sDrPut, rDrNext, vDct, sNever, L2.atI, dIx, dList, dTuple, dEq, dNe, D.okd, okdL, D.eqb, PyData.eqv, D.py, pyL, dSum, dAll, dAny, L2.ixN, dNotB, dIsB, dIsN, dNotN, D.isNon]
    refine hk A B ⟨hB, by omega, ?_⟩
    rw [← hf.1, ← hf.2]
    exact hAB
  · refine ⟨w, 1, w, 1, _, fun p hp => ?_, by omega, by omega, by omega, by omega, ?_, rfl⟩
    · have := hg.g.2 p hp; omega
    · rw [fr_eq ps _ _ fun p hp => by have := hg.g.2 p hp; omega]
      simp [num]
end K58

set_option Elab.async false
set_option linter.all false
set_option maxRecDepth 100000
set_option maxHeartbeats 4000000
namespace K58
open PySem Dv
theorem sp_need_below (w : Int) (ps : List (Int × Int)) (hg : GW w ps) (k : Rv → Prop) (E : Exn → Prop) (hk : k (.val .non)) : F_need_below [stm w ps] k E := by
  simp [F_need_below, dfS, startD, sCons, sNil, sSetN, sSetB, sOwnN, sOwnB, sIf, sRetB, sRetNone, sRetO, sFor, sAsgN, sAsgB, sParN, sParB, slotR, lfR, sExpr, sAppN, sAppB, augI, gTup_t, gCons_c, gCons_n, gNil_n, gNil_c, gN, dVar, dC, vR, rV, rBin, cBin, bV, bTru, bNot, bAnd, bOr, vAnd, vOr, vNot, rIf, vIf, dNeg, dTup, dLst, dTupS, dLstS, aNil, aCons, aStar, rCall, dCall, dCallK, pick, on1, on2, dLen, i1, i2, dInt, dIsi, dTru, dFld, rCut, oNone, oSome, dCut, iOf, iArg, zip2_e, enu1_e, rng1, rng2, rComp, bYes, cChain, dAdd, dSub, dMul, dFd, dMd, dPw, iI, iC, frz, viewN, viewB, wipeV, toSl, D.items, vDr, iDr, sDrPut, rDrNext, vDct, sNever, L2.atI, dIx, dList, dTuple, dEq, dNe, D.okd, okdL, D.eqb, PyData.eqv, D.py, pyL, dSum, dAll, dAny, L2.ixN, dNotB, dIsB, dIsN, dNotN, D.isNon]
  refine sp_need_stream w ps _ _ ?_
  simp [stm, dfS, startD, sCons, sNil, sSetN, sSetB, sOwnN, sOwnB, sIf, sRetB, sRetNone, sRetO, sFor, sAsgN, sAsgB, sParN, sParB, slotR, lfR, sExpr, sAppN, sAppB, augI, gTup_t, gCons_c, gCons_n, gNil_n, gNil_c, gN, dVar, dC, vR, rV, rBin, cBin, bV, bTru, bNot, bAnd, bOr, vAnd, vOr, vNot, rIf, vIf, dNeg, dTup, dLst, dTupS, dLstS, aNil, aCons, aStar, rCall, dCall, dCallK, pick, on1, on2, dLen, i1, i2, dInt, dIsi, dTru, dFld, rCut, oNone, oSome, dCut, iOf, iArg, zip2_e, enu1_e, rng1, rng2, rComp, bYes, cChain, dAdd, dSub, dMul, dFd, dMd, dPw, iI, iC, frz, viewN, viewB, wipeV, toSl, D.items, vDr, iDr, sDrPut, rDrNext, vDct, sNever, L2.atI, dIx, dList, dTuple, dEq, dNe, D.okd, okdL, D.eqb, PyData.eqv, D.py, pyL, dSum, dAll, dAny, L2.ixN, dNotB, dIsB, dIsN, dNotN, D.isNon]
  refine sp_e_of w ps hg _ _ fun A B hAB => ?_
  have := (hAB.neg hg).1
  simp [dfS, startD, sCons, sNil, sSetN, sSetB, sOwnN, sOwnB, sIf, sRetB, sRetNone, sRetO, sFor, sAsgN, sAsgB, sParN, sParB, slotR, lfR, sExpr, sAppN, sAppB, augI, gTup_t, gCons_c, gCons_n, gNil_n, gNil_c, gN, dVar, dC, vR, rV, rBin, cBin, bV, bTru, bNot, bAnd, bOr, vAnd, vOr, vNot, rIf, vIf, dNeg, dTup, dLst, dTupS, dLstS, aNil, aCons, aStar, rCall, dCall, dCallK, pick, on1, on2, dLen, i1, i2, dInt, dIsi, dTru, dFld, rCut, oNone, oSome, dCut, iOf, iArg, zip2_e, enu1_e, rng1, rng2, rComp, bYes, cChain, dAdd, dSub, dMul, dFd, dMd, dPw, iI, iC, frz, viewN, viewB, wipeV, toSl, D.items, vDr, iDr, sDrPut, rDrNext, vDct, sNever, L2.atI, dIx, dList, dTuple, dEq, dNe, D.okd, okdL, D.eqb, PyData.eqv, D.py, pyL, dSum, dAll, dAny, L2.ixN, dNotB, dIsB, dIsN, dNotN, D.isNon]
  exact ⟨by omega, fun _ => hk⟩
def smallD : D → Bool := isBtw (-1000000000) 1000000000
def isVec (n : Nat) : D → Bool
  | .tup ds => decide (ds.length = n + 1) && ds.all smallD
  | _ => false
theorem sp_is_vector (w : Int) (ps : List (Int × Int)) (hg : Good ps) (d : D) (hd : d.tn ≠ none) (hds : ∀ ds, d = .tup ds → ∀ x ∈ ds, D.tn x ≠ none) (k : Rv → Prop) (E : Exn → Prop) (hk : k (.val (.bl (isVec ps.length d)))) : F_is_vector [stm w ps, d] k E := by
  have hlen := hg.1
  have hz := szl
  simp [F_is_vector, stm, st_w, st_p, dfS, startD, sCons, sNil, sSetN, sSetB, sOwnN, sOwnB, sIf, sRetB, sRetNone, sRetO, sFor, sAsgN, sAsgB, sParN, sParB, slotR, lfR, sExpr, sAppN, sAppB, augI, gTup_t, gCons_c, gCons_n, gNil_n, gNil_c, gN, dVar, dC, vR, rV, rBin, cBin, bV, bTru, bNot, bAnd, bOr, vAnd, vOr, vNot, rIf, vIf, dNeg, dTup, dLst, dTupS, dLstS, aNil, aCons, aStar, rCall, dCall, dCallK, pick, on1, on2, dLen, i1, i2, dInt, dIsi, dTru, dFld, rCut, oNone, oSome, dCut, iOf, iArg, zip2_e, enu1_e, rng1, rng2, rComp, bYes, cChain, dAdd, dSub, dMul, dFd, dMd, dPw, iI, iC, frz, viewN, viewB, wipeV, toSl, D.items, vDr, iDr, sDrPut, rDrNext, vDct, sNever, L2.atI, dIx, dList, dTuple, dEq, dNe, D.okd, okdL, D.eqb, PyData.eqv, D.py, pyL, dSum, dAll, dAny, L2.ixN, dNotB, dIsB, dIsN, dNotN, D.isNon]
  simp [dps, dfS, startD, sCons, sNil, sSetN, sSetB, sOwnN, sOwnB, sIf, sRetB, sRetNone, sRetO, sFor, sAsgN, sAsgB, sParN, sParB, slotR, lfR, sExpr, sAppN, sAppB, augI, gTup_t, gCons_c, gCons_n, gNil_n, gNil_c, gN, dVar, dC, vR, rV, rBin, cBin, bV, bTru, bNot, bAnd, bOr, vAnd, vOr, vNot, rIf, vIf, dNeg, dTup, dLst, dTupS, dLstS, aNil, aCons, aStar, rCall, dCall, dCallK, pick, on1, on2, dLen, i1, i2, dInt, dIsi, dTru, dFld, rCut, oNone, oSome, dCut, iOf, iArg, zip2_e, enu1_e, rng1, rng2, rComp, bYes, cChain, dAdd, dSub, dMul, dFd, dMd, dPw, iI, iC, frz, viewN, viewB, wipeV, toSl, D.items, vDr, iDr, sDrPut, rDrNext, vDct, sNever, L2.atI, dIx, dList, dTuple, dEq, dNe, D.okd, okdL, D.eqb, PyData.eqv, D.py, pyL, dSum, dAll, dAny, L2.ixN, dNotB, dIsB, dIsN, dNotN, D.isNon]
  refine sp_is_tuple d _ hd _ _ ?_
  cases d <;> simp [isTup, isVec, dfS, startD, sCons, sNil, sSetN, sSetB, sOwnN, sOwnB, sIf, sRetB, sRetNone, sRetO, sFor, sAsgN, sAsgB, sParN, sParB, slotR, lfR, sExpr, sAppN, sAppB, augI, gTup_t, gCons_c, gCons_n, gNil_n, gNil_c, gN, dVar, dC, vR, rV, rBin, cBin, bV, bTru, bNot, bAnd, bOr, vAnd, vOr, vNot, rIf, vIf, dNeg, dTup, dLst, dTupS, dLstS, aNil, aCons, aStar, rCall, dCall, dCallK, pick, on1, on2, dLen, i1, i2, dInt, dIsi, dTru, dFld, rCut, oNone, oSome, dCut, iOf, iArg, zip2_e, enu1_e, rng1, rng2, rComp, bYes, cChain, dAdd, dSub, dMul, dFd, dMd, dPw, iI, iC, frz, viewN, viewB, wipeV, toSl, D.items, vDr, iDr, sDrPut, rDrNext, vDct, sNever, L2.atI, dIx, dList, dTuple, dEq, dNe, D.okd, okdL, D.eqb, PyData.eqv, D.py, pyL, dSum, dAll, dAny, L2.ixN, dNotB, dIsB, dIsN, dNotN, D.isNon] at hk ⊢ <;> first | exact hk | skip
  rename_i ds
  refine ⟨fun hn => ?_, fun hn => ?_⟩
  · have : ¬ ds.length = ps.length + 1 := by omega
    simp [this] at hk
    exact hk
  · have e : ds.length = ps.length + 1 := by omega
    simp [e] at hk
    have := compD_ml (g := gN 3) (fe := vR (dCall (aCons (dVar 3) (aCons (vR (rBin (dC (D.int 0)) (dC (D.int 1000000000)) (iI (fun x x_1 => True) fun i j => i - j))) (aCons (dC (D.int 1000000000)) aNil))) F_is_between)) (ρ := [some (D.obj "Stream" [("whole", D.int w), ("pairs", D.tup (ps.map dp))]), some (D.tup ds), none, none]) (k := fun acc => ∃ bs, D.bls acc = some bs ∧ k (.val (.bl (bs.all id)))) (fun x : D => x) (fun x => .bl (smallD x)) ds []
    simp at this
    refine this (fun x hx κ hκ => ?_) (by omega) _ (bls_map _ _) ?_
    · simp [dfS, startD, sCons, sNil, sSetN, sSetB, sOwnN, sOwnB, sIf, sRetB, sRetNone, sRetO, sFor, sAsgN, sAsgB, sParN, sParB, slotR, lfR, sExpr, sAppN, sAppB, augI, gTup_t, gCons_c, gCons_n, gNil_n, gNil_c, gN, dVar, dC, vR, rV, rBin, cBin, bV, bTru, bNot, bAnd, bOr, vAnd, vOr, vNot, rIf, vIf, dNeg, dTup, dLst, dTupS, dLstS, aNil, aCons, aStar, rCall, dCall, dCallK, pick, on1, on2, dLen, i1, i2, dInt, dIsi, dTru, dFld, rCut, oNone, oSome, dCut, iOf, iArg, zip2_e, enu1_e, rng1, rng2, rComp, bYes, cChain, dAdd, dSub, dMul, dFd, dMd, dPw, iI, iC, frz, viewN, viewB, wipeV, toSl, D.items, vDr, iDr, sDrPut, rDrNext, vDct, sNever, L2.atI, dIx, dList, dTuple, dEq, dNe, D.okd, okdL, D.eqb, PyData.eqv, D.py, pyL, dSum, dAll, dAny, L2.ixN, dNotB, dIsB, dIsN, dNotN, D.isNon]
      exact sp_is_between x _ _ (hds ds rfl x hx) _ _ (by simpa [smallD, frz] using hκ)
    · simp only [List.all_map]
      exact hk
theorem vec_ok (ps : List (Int × Int)) (v0 : Int) (vs : List Int) (hl : vs.length = ps.length) (h0 : v0.natAbs ≤ 1000000000) (h1 : ∀ x ∈ vs, (x : Int).natAbs ≤ 1000000000) : isVec ps.length (dv (v0 :: vs)) = true := by
  simp [isVec, dv, hl, smallD, isBtw]
  exact ⟨by omega, fun x hx => by have := h1 x hx; omega⟩
theorem dv_tn (v : List Int) : (dv v).tn ≠ none := by simp [dv, D.tn]
theorem dv_tns (v : List Int) : ∀ ds, dv v = .tup ds → ∀ x ∈ ds, D.tn x ≠ none := fun ds e x hx => by
  simp [dv] at e
  subst e
  obtain ⟨i, _, rfl⟩ := List.mem_map.mp hx
  simp [D.tn]
theorem sp_need_vector (w : Int) (ps : List (Int × Int)) (hg : Good ps) (v0 : Int) (vs : List Int) (hl : vs.length = ps.length) (h0 : v0.natAbs ≤ 1000000000) (h1 : ∀ x ∈ vs, (x : Int).natAbs ≤ 1000000000) (k : Rv → Prop) (E : Exn → Prop) (hk : k (.val .non)) : F_need_vector [stm w ps, dv (v0 :: vs)] k E := by
  simp [F_need_vector, dfS, startD, sCons, sNil, sSetN, sSetB, sOwnN, sOwnB, sIf, sRetB, sRetNone, sRetO, sFor, sAsgN, sAsgB, sParN, sParB, slotR, lfR, sExpr, sAppN, sAppB, augI, gTup_t, gCons_c, gCons_n, gNil_n, gNil_c, gN, dVar, dC, vR, rV, rBin, cBin, bV, bTru, bNot, bAnd, bOr, vAnd, vOr, vNot, rIf, vIf, dNeg, dTup, dLst, dTupS, dLstS, aNil, aCons, aStar, rCall, dCall, dCallK, pick, on1, on2, dLen, i1, i2, dInt, dIsi, dTru, dFld, rCut, oNone, oSome, dCut, iOf, iArg, zip2_e, enu1_e, rng1, rng2, rComp, bYes, cChain, dAdd, dSub, dMul, dFd, dMd, dPw, iI, iC, frz, viewN, viewB, wipeV, toSl, D.items, vDr, iDr, sDrPut, rDrNext, vDct, sNever, L2.atI, dIx, dList, dTuple, dEq, dNe, D.okd, okdL, D.eqb, PyData.eqv, D.py, pyL, dSum, dAll, dAny, L2.ixN, dNotB, dIsB, dIsN, dNotN, D.isNon]
  refine sp_is_vector w ps hg _ (dv_tn _) (dv_tns _) _ _ ?_
  rw [vec_ok ps v0 vs hl h0 h1]
  simp [dfS, startD, sCons, sNil, sSetN, sSetB, sOwnN, sOwnB, sIf, sRetB, sRetNone, sRetO, sFor, sAsgN, sAsgB, sParN, sParB, slotR, lfR, sExpr, sAppN, sAppB, augI, gTup_t, gCons_c, gCons_n, gNil_n, gNil_c, gN, dVar, dC, vR, rV, rBin, cBin, bV, bTru, bNot, bAnd, bOr, vAnd, vOr, vNot, rIf, vIf, dNeg, dTup, dLst, dTupS, dLstS, aNil, aCons, aStar, rCall, dCall, dCallK, pick, on1, on2, dLen, i1, i2, dInt, dIsi, dTru, dFld, rCut, oNone, oSome, dCut, iOf, iArg, zip2_e, enu1_e, rng1, rng2, rComp, bYes, cChain, dAdd, dSub, dMul, dFd, dMd, dPw, iI, iC, frz, viewN, viewB, wipeV, toSl, D.items, vDr, iDr, sDrPut, rDrNext, vDct, sNever, L2.atI, dIx, dList, dTuple, dEq, dNe, D.okd, okdL, D.eqb, PyData.eqv, D.py, pyL, dSum, dAll, dAny, L2.ixN, dNotB, dIsB, dIsN, dNotN, D.isNon]
  exact hk
theorem sp_need_span (w : Int) (ps : List (Int × Int)) (hg : GW w ps) (hs : spanL w ps ≤ 900) (k : Rv → Prop) (E : Exn → Prop) (hk : k (.val .non)) : F_need_span [stm w ps] k E := by
  have hP := prd_big hg.g
  have hlen := hg.g.1
  simp [F_need_span, F_span_of, dfS, startD, sCons, sNil, sSetN, sSetB, sOwnN, sOwnB, sIf, sRetB, sRetNone, sRetO, sFor, sAsgN, sAsgB, sParN, sParB, slotR, lfR, sExpr, sAppN, sAppB, augI, gTup_t, gCons_c, gCons_n, gNil_n, gNil_c, gN, dVar, dC, vR, rV, rBin, cBin, bV, bTru, bNot, bAnd, bOr, vAnd, vOr, vNot, rIf, vIf, dNeg, dTup, dLst, dTupS, dLstS, aNil, aCons, aStar, rCall, dCall, dCallK, pick, on1, on2, dLen, i1, i2, dInt, dIsi, dTru, dFld, rCut, oNone, oSome, dCut, iOf, iArg, zip2_e, enu1_e, rng1, rng2, rComp, bYes, cChain, dAdd, dSub, dMul, dFd, dMd, dPw, iI, iC, frz, viewN, viewB, wipeV, toSl, D.items, vDr, iDr, sDrPut, rDrNext, vDct, sNever, L2.atI, dIx, dList, dTuple, dEq, dNe, D.okd, okdL, D.eqb, PyData.eqv, D.py, pyL, dSum, dAll, dAny, L2.ixN, dNotB, dIsB, dIsN, dNotN, D.isNon]
  refine sp_e_of w ps hg _ _ fun A B hAB => ?_
  have hA := hAB.neg hg
  have hB := hAB.b0
  have hB1 := hAB.b1
  have he := hAB.e
  have hn := num_b hg
  simp [stm, st_w, st_p, dfS, startD, sCons, sNil, sSetN, sSetB, sOwnN, sOwnB, sIf, sRetB, sRetNone, sRetO, sFor, sAsgN, sAsgB, sParN, sParB, slotR, lfR, sExpr, sAppN, sAppB, augI, gTup_t, gCons_c, gCons_n, gNil_n, gNil_c, gN, dVar, dC, vR, rV, rBin, cBin, bV, bTru, bNot, bAnd, bOr, vAnd, vOr, vNot, rIf, vIf, dNeg, dTup, dLst, dTupS, dLstS, aNil, aCons, aStar, rCall, dCall, dCallK, pick, on1, on2, dLen, i1, i2, dInt, dIsi, dTru, dFld, rCut, oNone, oSome, dCut, iOf, iArg, zip2_e, enu1_e, rng1, rng2, rComp, bYes, cChain, dAdd, dSub, dMul, dFd, dMd, dPw, iI, iC, frz, viewN, viewB, wipeV, toSl, D.items, vDr, iDr, sDrPut, rDrNext, vDct, sNever, L2.atI, dIx, dList, dTuple, dEq, dNe, D.okd, okdL, D.eqb, PyData.eqv, D.py, pyL, dSum, dAll, dAny, L2.ixN, dNotB, dIsB, dIsN, dNotN, D.isNon]
  simp [dps, dfS, startD, sCons, sNil, sSetN, sSetB, sOwnN, sOwnB, sIf, sRetB, sRetNone, sRetO, sFor, sAsgN, sAsgB, sParN, sParB, slotR, lfR, sExpr, sAppN, sAppB, augI, gTup_t, gCons_c, gCons_n, gNil_n, gNil_c, gN, dVar, dC, vR, rV, rBin, cBin, bV, bTru, bNot, bAnd, bOr, vAnd, vOr, vNot, rIf, vIf, dNeg, dTup, dLst, dTupS, dLstS, aNil, aCons, aStar, rCall, dCall, dCallK, pick, on1, on2, dLen, i1, i2, dInt, dIsi, dTru, dFld, rCut, oNone, oSome, dCut, iOf, iArg, zip2_e, enu1_e, rng1, rng2, rComp, bYes, cChain, dAdd, dSub, dMul, dFd, dMd, dPw, iI, iC, frz, viewN, viewB, wipeV, toSl, D.items, vDr, iDr, sDrPut, rDrNext, vDct, sNever, L2.atI, dIx, dList, dTuple, dEq, dNe, D.okd, okdL, D.eqb, PyData.eqv, D.py, pyL, dSum, dAll, dAny, L2.ixN, dNotB, dIsB, dIsN, dNotN, D.isNon]
  refine ⟨mulok _ _ (by omega), ⟨by omega, lg (by omega)⟩, ?_⟩
  simp [F_need_few, dfS, startD, sCons, sNil, sSetN, sSetB, sOwnN, sOwnB, sIf, sRetB, sRetNone, sRetO, sFor, sAsgN, sAsgB, sParN, sParB, slotR, lfR, sExpr, sAppN, sAppB, augI, gTup_t, gCons_c, gCons_n, gNil_n, gNil_c, gN, dVar, dC, vR, rV, rBin, cBin, bV, bTru, bNot, bAnd, bOr, vAnd, vOr, vNot, rIf, vIf, dNeg, dTup, dLst, dTupS, dLstS, aNil, aCons, aStar, rCall, dCall, dCallK, pick, on1, on2, dLen, i1, i2, dInt, dIsi, dTru, dFld, rCut, oNone, oSome, dCut, iOf, iArg, zip2_e, enu1_e, rng1, rng2, rComp, bYes, cChain, dAdd, dSub, dMul, dFd, dMd, dPw, iI, iC, frz, viewN, viewB, wipeV, toSl, D.items, vDr, iDr, sDrPut, rDrNext, vDct, sNever, L2.atI, dIx, dList, dTuple, dEq, dNe, D.okd, okdL, D.eqb, PyData.eqv, D.py, pyL, dSum, dAll, dAny, L2.ixN, dNotB, dIsB, dIsN, dNotN, D.isNon]
  have key : -900 ≤ (((ps.length : Int) + 1) * B).fdiv A := by
    rw [← Int.neg_fdiv_neg, fdiv_pos _ (by omega)]
    have h1 : ((ps.length : Int) + 1) * prd ps ≤ 900 * -num w ps := by
      have z := Int.lt_ediv_add_one_mul_self (((ps.length : Int) + 1) * prd ps - num w ps - 1) (show 0 < 0 - num w ps by omega)
      unfold spanL at hs
      have z2 : ((((ps.length : Int) + 1) * prd ps - num w ps - 1) / (0 - num w ps) + 1) * (0 - num w ps) ≤ 901 * (0 - num w ps) := Int.mul_le_mul_of_nonneg_right (by omega) (by omega)
      omega
    have h2 : ((ps.length : Int) + 1) * B ≤ 900 * -A := by
      have z : prd ps * (((ps.length : Int) + 1) * B) ≤ prd ps * (900 * -A) := by
        calc prd ps * (((ps.length : Int) + 1) * B) = (((ps.length : Int) + 1) * prd ps) * B := by grind
          _ ≤ (900 * -num w ps) * B := Int.mul_le_mul_of_nonneg_right h1 (by omega)
          _ = -900 * (num w ps * B) := by grind
          _ = -900 * (A * prd ps) := by rw [he]
          _ = prd ps * (900 * -A) := by grind
      exact Int.le_of_mul_le_mul_left z hP.1
    refine Int.le_ediv_of_mul_le (by omega) ?_
    omega
  exact ⟨by omega, fun _ => hk⟩
theorem swz {α β : Type} : ∀ (xs : List α) (ys : List β), (xs.zip ys).map Prod.swap = ys.zip xs
  | [], ys => by cases ys <;> rfl
  | _ :: _, [] => rfl
  | x :: xs, y :: ys => by simp [swz xs ys]
theorem sp_red (w : Int) (ps : List (Int × Int)) (hp : Good ps) (v0 : Int) (vs : List Int) (k : Rv → Prop) (E : Exn → Prop) (h : k (.val (dv ((v0 + cs 0 vs ps) :: md 0 vs ps)))) : F_reduced [stm w ps, dv (v0 :: vs)] k E := by
  have hlen := hp.1
  have hz := szl
  have hml : (md 0 vs ps).length ≤ 5 := by rw [← zm_md, zm_len]; simp; omega
  simp [F_reduced, dv_eq, stm, st_w, st_p, dfS, startD, sCons, sNil, sSetN, sSetB, sOwnN, sOwnB, sIf, sRetB, sRetNone, sRetO, sFor, sAsgN, sAsgB, sParN, sParB, slotR, lfR, sExpr, sAppN, sAppB, augI, gTup_t, gCons_c, gCons_n, gNil_n, gNil_c, gN, dVar, dC, vR, rV, rBin, cBin, bV, bTru, bNot, bAnd, bOr, vAnd, vOr, vNot, rIf, vIf, dNeg, dTup, dLst, dTupS, dLstS, aNil, aCons, aStar, rCall, dCall, dCallK, pick, on1, on2, dLen, i1, i2, dInt, dIsi, dTru, dFld, rCut, oNone, oSome, dCut, iOf, iArg, zip2_e, enu1_e, rng1, rng2, rComp, bYes, cChain, dAdd, dSub, dMul, dFd, dMd, dPw, iI, iC, frz, viewN, viewB, wipeV, toSl, D.items, vDr, iDr, sDrPut, rDrNext, vDct, sNever, L2.atI, dIx, dList, dTuple, dEq, dNe, D.okd, okdL, D.eqb, PyData.eqv, D.py, pyL, dSum, dAll, dAny, L2.ixN, dNotB, dIsB, dIsN, dNotN, D.isNon]
  refine ⟨ps.map dp, by simp [dps, D.items], ?_⟩
  rw [cut1, zipD_map]
  refine forD_ml (fun q : (Int × Int) × Int => .tup [dp q.1, .int q.2]) (fun r ρ => ∃ s ys a b c, (∀ q ∈ r, 0 < q.1.2 ∧ q.1.2 ≤ 20) ∧ s + zs (r.map Prod.swap) = v0 + cs 0 vs ps ∧ ys ++ zm (r.map Prod.swap) = md 0 vs ps ∧ ys.length + r.length ≤ 5 ∧ ρ = [some (.val (stm w ps)), some (.val (.tup (.int v0 :: vs.map .int))), some (.val (.int s)), some (.own (ys.map D.int)), a, b, c]) ?_ ?_ _ _ ?_
  · rintro q r ρ ⟨s, ys, a, b, c, hq, hs, hy, hl, rfl⟩ κ hκ
    have hb := hq q List.mem_cons_self
    simp [dp, dfS, startD, sCons, sNil, sSetN, sSetB, sOwnN, sOwnB, sIf, sRetB, sRetNone, sRetO, sFor, sAsgN, sAsgB, sParN, sParB, slotR, lfR, sExpr, sAppN, sAppB, augI, gTup_t, gCons_c, gCons_n, gNil_n, gNil_c, gN, dVar, dC, vR, rV, rBin, cBin, bV, bTru, bNot, bAnd, bOr, vAnd, vOr, vNot, rIf, vIf, dNeg, dTup, dLst, dTupS, dLstS, aNil, aCons, aStar, rCall, dCall, dCallK, pick, on1, on2, dLen, i1, i2, dInt, dIsi, dTru, dFld, rCut, oNone, oSome, dCut, iOf, iArg, zip2_e, enu1_e, rng1, rng2, rComp, bYes, cChain, dAdd, dSub, dMul, dFd, dMd, dPw, iI, iC, frz, viewN, viewB, wipeV, toSl, D.items, vDr, iDr, sDrPut, rDrNext, vDct, sNever, L2.atI, dIx, dList, dTuple, dEq, dNe, D.okd, okdL, D.eqb, PyData.eqv, D.py, pyL, dSum, dAll, dAny, L2.ixN, dNotB, dIsB, dIsN, dNotN, D.isNon]
    rw [fdiv_pos _ hb.1, fmod_pos _ hb.1]
    simp only [List.length_cons] at hl
    refine ⟨⟨by omega, lg (by omega)⟩, by omega, by omega, hκ _ ⟨s + q.2 / q.1.2, ys ++ [q.2 % q.1.2], some (.val (.int q.1.1)), some (.val (.int q.1.2)), some (.val (.int q.2)), fun q' h' => hq q' (List.mem_cons_of_mem _ h'), ?_, ?_, ?_, ?_⟩⟩
    · rw [← hs]; simp [zs]; omega
    · rw [← hy]; simp [zm]
    · simp; omega
    · simp [stm]
  · rintro ρ ⟨s, ys, a, b, c, _, hs, hy, hl, rfl⟩
    have e1 : s = v0 + cs 0 vs ps := by simpa [zs] using hs
    have e2 : ys = md 0 vs ps := by simpa [zm] using hy
    rw [e1, e2]
    simp [stm, dfS, startD, sCons, sNil, sSetN, sSetB, sOwnN, sOwnB, sIf, sRetB, sRetNone, sRetO, sFor, sAsgN, sAsgB, sParN, sParB, slotR, lfR, sExpr, sAppN, sAppB, augI, gTup_t, gCons_c, gCons_n, gNil_n, gNil_c, gN, dVar, dC, vR, rV, rBin, cBin, bV, bTru, bNot, bAnd, bOr, vAnd, vOr, vNot, rIf, vIf, dNeg, dTup, dLst, dTupS, dLstS, aNil, aCons, aStar, rCall, dCall, dCallK, pick, on1, on2, dLen, i1, i2, dInt, dIsi, dTru, dFld, rCut, oNone, oSome, dCut, iOf, iArg, zip2_e, enu1_e, rng1, rng2, rComp, bYes, cChain, dAdd, dSub, dMul, dFd, dMd, dPw, iI, iC, frz, viewN, viewB, wipeV, toSl, D.items, vDr, iDr, sDrPut, rDrNext, vDct, sNever, L2.atI, dIx, dList, dTuple, dEq, dNe, D.okd, okdL, D.eqb, PyData.eqv, D.py, pyL, dSum, dAll, dAny, L2.ixN, dNotB, dIsB, dIsN, dNotN, D.isNon]
    exact ⟨by omega, by simpa [dv] using h⟩
  · refine ⟨v0, [], _, _, _, fun q hq => ?_, ?_, ?_, ?_, rfl⟩
    · have := hp.2 q.1 (List.of_mem_zip hq).1; omega
    · rw [swz, zs_cs]
    · rw [swz, zm_md]; rfl
    · simp; omega
theorem sp_cin (w : Int) (ps : List (Int × Int)) (hp : Good ps) (hw : w.natAbs < 2 ^ 50) (v0 : Int) (vs : List Int) (n : Int) (k : Rv → Prop) (E : Exn → Prop) (h : k (.val (.int (cnt w ps v0 vs n)))) : F_count_in [stm w ps, dv (v0 :: vs), .int n] k E := by
  have hlen := hp.1
  simp [F_count_in, dv_eq, stm, st_w, st_p, dfS, startD, sCons, sNil, sSetN, sSetB, sOwnN, sOwnB, sIf, sRetB, sRetNone, sRetO, sFor, sAsgN, sAsgB, sParN, sParB, slotR, lfR, sExpr, sAppN, sAppB, augI, gTup_t, gCons_c, gCons_n, gNil_n, gNil_c, gN, dVar, dC, vR, rV, rBin, cBin, bV, bTru, bNot, bAnd, bOr, vAnd, vOr, vNot, rIf, vIf, dNeg, dTup, dLst, dTupS, dLstS, aNil, aCons, aStar, rCall, dCall, dCallK, pick, on1, on2, dLen, i1, i2, dInt, dIsi, dTru, dFld, rCut, oNone, oSome, dCut, iOf, iArg, zip2_e, enu1_e, rng1, rng2, rComp, bYes, cChain, dAdd, dSub, dMul, dFd, dMd, dPw, iI, iC, frz, viewN, viewB, wipeV, toSl, D.items, vDr, iDr, sDrPut, rDrNext, vDct, sNever, L2.atI, dIx, dList, dTuple, dEq, dNe, D.okd, okdL, D.eqb, PyData.eqv, D.py, pyL, dSum, dAll, dAny, L2.ixN, dNotB, dIsB, dIsN, dNotN, D.isNon]
  refine ⟨mulokL _ _ (by omega), ps.map dp, by simp [dps, D.items], ?_⟩
  rw [cut1, zipD_map]
  refine forD_ml (fun q : (Int × Int) × Int => .tup [dp q.1, .int q.2]) (fun r ρ => ∃ s a b c, (∀ q ∈ r, 0 < q.1.1 ∧ q.1.1 < q.1.2 ∧ q.1.2 ≤ 20) ∧ s + (r.map fun q => (q.2 - n * q.1.1) / q.1.2).sum = cnt w ps v0 vs n ∧ ρ = [some (.val (stm w ps)), some (.val (.tup (.int v0 :: vs.map .int))), some (.val (.int n)), some (.val (.int s)), a, b, c]) ?_ ?_ _ _ ?_
  · rintro q r ρ ⟨s, a, b, c, hq, hs, rfl⟩ κ hκ
    have hb := hq q List.mem_cons_self
    simp [dp, stm, dfS, startD, sCons, sNil, sSetN, sSetB, sOwnN, sOwnB, sIf, sRetB, sRetNone, sRetO, sFor, sAsgN, sAsgB, sParN, sParB, slotR, lfR, sExpr, sAppN, sAppB, augI, gTup_t, gCons_c, gCons_n, gNil_n, gNil_c, gN, dVar, dC, vR, rV, rBin, cBin, bV, bTru, bNot, bAnd, bOr, vAnd, vOr, vNot, rIf, vIf, dNeg, dTup, dLst, dTupS, dLstS, aNil, aCons, aStar, rCall, dCall, dCallK, pick, on1, on2, dLen, i1, i2, dInt, dIsi, dTru, dFld, rCut, oNone, oSome, dCut, iOf, iArg, zip2_e, enu1_e, rng1, rng2, rComp, bYes, cChain, dAdd, dSub, dMul, dFd, dMd, dPw, iI, iC, frz, viewN, viewB, wipeV, toSl, D.items, vDr, iDr, sDrPut, rDrNext, vDct, sNever, L2.atI, dIx, dList, dTuple, dEq, dNe, D.okd, okdL, D.eqb, PyData.eqv, D.py, pyL, dSum, dAll, dAny, L2.ixN, dNotB, dIsB, dIsN, dNotN, D.isNon]
    rw [fdiv_pos _ (by omega)]
    refine ⟨mulok _ _ (by omega), ⟨by omega, lg (by omega)⟩, hκ _ ⟨s + (q.2 - n * q.1.1) / q.1.2, some (.val (.int q.1.1)), some (.val (.int q.1.2)), some (.val (.int q.2)), fun q' h' => hq q' (List.mem_cons_of_mem _ h'), ?_, by simp [stm]⟩⟩
    rw [← hs]; simp; omega
  · rintro ρ ⟨s, a, b, c, _, hs, rfl⟩
    have e1 : s = cnt w ps v0 vs n := by simpa using hs
    rw [e1]
    simp [stm, dfS, startD, sCons, sNil, sSetN, sSetB, sOwnN, sOwnB, sIf, sRetB, sRetNone, sRetO, sFor, sAsgN, sAsgB, sParN, sParB, slotR, lfR, sExpr, sAppN, sAppB, augI, gTup_t, gCons_c, gCons_n, gNil_n, gNil_c, gN, dVar, dC, vR, rV, rBin, cBin, bV, bTru, bNot, bAnd, bOr, vAnd, vOr, vNot, rIf, vIf, dNeg, dTup, dLst, dTupS, dLstS, aNil, aCons, aStar, rCall, dCall, dCallK, pick, on1, on2, dLen, i1, i2, dInt, dIsi, dTru, dFld, rCut, oNone, oSome, dCut, iOf, iArg, zip2_e, enu1_e, rng1, rng2, rComp, bYes, cChain, dAdd, dSub, dMul, dFd, dMd, dPw, iI, iC, frz, viewN, viewB, wipeV, toSl, D.items, vDr, iDr, sDrPut, rDrNext, vDct, sNever, L2.atI, dIx, dList, dTuple, dEq, dNe, D.okd, okdL, D.eqb, PyData.eqv, D.py, pyL, dSum, dAll, dAny, L2.ixN, dNotB, dIsB, dIsN, dNotN, D.isNon]
    exact h
  · refine ⟨1 + v0 - w * n, _, _, _, fun q hq => ?_, ?_, rfl⟩
    · have := hp.2 q.1 (List.of_mem_zip hq).1; omega
    · have : ((ps.zip vs).map fun q => (q.2 - n * q.1.1) / q.1.2) = ((vs.zip ps).map fun q => (q.1 - n * q.2.1) / q.2.2) := by
        rw [← swz, List.map_map]; rfl
      rw [this, cs_sum]; rfl
end K58

set_option Elab.async false
set_option linter.all false
set_option maxRecDepth 100000
set_option maxHeartbeats 4000000
namespace K58
open PySem Dv
theorem sp_later (w : Int) (ps : List (Int × Int)) (hp : Good ps) (hw : w.natAbs < 2 ^ 50) (v0 : Int) (vs : List Int) (n : Int) (k : Rv → Prop) (E : Exn → Prop) (h : k (.val (dv (nrm w ps v0 vs n)))) : F_later [stm w ps, dv (v0 :: vs), .int n] k E := by
  have hlen := hp.1
  have hz := szl
  simp [F_later, dv_eq, stm, st_w, st_p, dfS, startD, sCons, sNil, sSetN, sSetB, sOwnN, sOwnB, sIf, sRetB, sRetNone, sRetO, sFor, sAsgN, sAsgB, sParN, sParB, slotR, lfR, sExpr, sAppN, sAppB, augI, gTup_t, gCons_c, gCons_n, gNil_n, gNil_c, gN, dVar, dC, vR, rV, rBin, cBin, bV, bTru, bNot, bAnd, bOr, vAnd, vOr, vNot, rIf, vIf, dNeg, dTup, dLst, dTupS, dLstS, aNil, aCons, aStar, rCall, dCall, dCallK, pick, on1, on2, dLen, i1, i2, dInt, dIsi, dTru, dFld, rCut, oNone, oSome, dCut, iOf, iArg, zip2_e, enu1_e, rng1, rng2, rComp, bYes, cChain, dAdd, dSub, dMul, dFd, dMd, dPw, iI, iC, frz, viewN, viewB, wipeV, toSl, D.items, vDr, iDr, sDrPut, rDrNext, vDct, sNever, L2.atI, dIx, dList, dTuple, dEq, dNe, D.okd, okdL, D.eqb, PyData.eqv, D.py, pyL, dSum, dAll, dAny, L2.ixN, dNotB, dIsB, dIsN, dNotN, D.isNon]
  refine ⟨ps.map dp, by simp [dps, D.items], ?_⟩
  rw [cut1, zipD_map]
  refine compD_ml (fun q : (Int × Int) × Int => .tup [dp q.1, .int q.2]) (fun q => .int (q.2 - n * q.1.1)) _ _ (fun q hq κ hκ => ?_) (by simp; omega) ?_
  · have hm := hp.2 q.1 (List.of_mem_zip hq).1
    simp [dp, dfS, startD, sCons, sNil, sSetN, sSetB, sOwnN, sOwnB, sIf, sRetB, sRetNone, sRetO, sFor, sAsgN, sAsgB, sParN, sParB, slotR, lfR, sExpr, sAppN, sAppB, augI, gTup_t, gCons_c, gCons_n, gNil_n, gNil_c, gN, dVar, dC, vR, rV, rBin, cBin, bV, bTru, bNot, bAnd, bOr, vAnd, vOr, vNot, rIf, vIf, dNeg, dTup, dLst, dTupS, dLstS, aNil, aCons, aStar, rCall, dCall, dCallK, pick, on1, on2, dLen, i1, i2, dInt, dIsi, dTru, dFld, rCut, oNone, oSome, dCut, iOf, iArg, zip2_e, enu1_e, rng1, rng2, rComp, bYes, cChain, dAdd, dSub, dMul, dFd, dMd, dPw, iI, iC, frz, viewN, viewB, wipeV, toSl, D.items, vDr, iDr, sDrPut, rDrNext, vDct, sNever, L2.atI, dIx, dList, dTuple, dEq, dNe, D.okd, okdL, D.eqb, PyData.eqv, D.py, pyL, dSum, dAll, dAny, L2.ixN, dNotB, dIsB, dIsN, dNotN, D.isNon]
    exact ⟨mulok _ _ (by omega), hκ⟩
  · have e : ((ps.zip vs).map fun q : (Int × Int) × Int => D.int (q.2 - n * q.1.1)) = ((vs.zip ps).map fun q => q.1 - n * q.2.1).map D.int := by
      rw [← swz, List.map_map, List.map_map]; rfl
    simp [dfS, startD, sCons, sNil, sSetN, sSetB, sOwnN, sOwnB, sIf, sRetB, sRetNone, sRetO, sFor, sAsgN, sAsgB, sParN, sParB, slotR, lfR, sExpr, sAppN, sAppB, augI, gTup_t, gCons_c, gCons_n, gNil_n, gNil_c, gN, dVar, dC, vR, rV, rBin, cBin, bV, bTru, bNot, bAnd, bOr, vAnd, vOr, vNot, rIf, vIf, dNeg, dTup, dLst, dTupS, dLstS, aNil, aCons, aStar, rCall, dCall, dCallK, pick, on1, on2, dLen, i1, i2, dInt, dIsi, dTru, dFld, rCut, oNone, oSome, dCut, iOf, iArg, zip2_e, enu1_e, rng1, rng2, rComp, bYes, cChain, dAdd, dSub, dMul, dFd, dMd, dPw, iI, iC, frz, viewN, viewB, wipeV, toSl, D.items, vDr, iDr, sDrPut, rDrNext, vDct, sNever, L2.atI, dIx, dList, dTuple, dEq, dNe, D.okd, okdL, D.eqb, PyData.eqv, D.py, pyL, dSum, dAll, dAny, L2.ixN, dNotB, dIsB, dIsN, dNotN, D.isNon]
    refine ⟨mulok _ _ (by omega), by omega, ?_⟩
    have := sp_red w ps hp (v0 - n * w) ((vs.zip ps).map fun q => q.1 - n * q.2.1) k E
    rw [cs_shift, md_shift] at this
    have e2 : v0 - n * w + cs n vs ps = cnt w ps v0 vs n - 1 := by unfold cnt; rw [Int.mul_comm w n]; omega
    rw [e2] at this
    have := this h
    rw [dv_eq, stm] at this
    rw [e]
    exact this
/-- a vector and its reduced one have the same counts -/
theorem cs_red (n : Int) : ∀ (vs : List Int) (ps : List (Int × Int)), (∀ p ∈ ps, 0 < p.2) → cs n (md 0 vs ps) ps = cs n vs ps - cs 0 vs ps
  | [], [], _ => by simp [cs, md]
  | [], _ :: _, _ => by simp [cs, md]
  | _ :: _, [], _ => by simp [cs, md]
  | x :: vs, p :: ps, h => by
    have hb := h p List.mem_cons_self
    simp only [cs, md, cs_red n vs ps fun q hq => h q (List.mem_cons_of_mem _ hq)]
    have e : (x - 0 * p.1) % p.2 - n * p.1 = (x - n * p.1) + p.2 * (-(x / p.2)) := by
      have := Int.emod_add_mul_ediv x p.2
      rw [Int.zero_mul, Int.sub_zero]
      grind
    rw [e, Int.add_mul_ediv_left _ _ (by omega), Int.zero_mul, Int.sub_zero]
    omega
theorem md_red (n : Int) : ∀ (vs : List Int) (ps : List (Int × Int)), (∀ p ∈ ps, 0 < p.2) → md n (md 0 vs ps) ps = md n vs ps
  | [], [], _ => by simp [md]
  | [], _ :: _, _ => by simp [md]
  | _ :: _, [], _ => by simp [md]
  | x :: vs, p :: ps, h => by
    have hb := h p List.mem_cons_self
    simp only [md, md_red n vs ps fun q hq => h q (List.mem_cons_of_mem _ hq)]
    have e : (x - 0 * p.1) % p.2 - n * p.1 = (x - n * p.1) + p.2 * (-(x / p.2)) := by
      have := Int.emod_add_mul_ediv x p.2
      rw [Int.zero_mul, Int.sub_zero]
      grind
    rw [e, Int.add_mul_emod_self_left]
theorem cnt_red (w : Int) (ps : List (Int × Int)) (hp : ∀ p ∈ ps, 0 < p.2) (v0 : Int) (vs : List Int) (n : Int) : cnt w ps (v0 + cs 0 vs ps) (md 0 vs ps) n = cnt w ps v0 vs n := by
  unfold cnt
  rw [cs_red n vs ps hp]
  omega
theorem sx_md {P : Int} (hP : 0 < P) : ∀ {vs : List Int} {ps : List (Int × Int)}, (∀ p ∈ ps, 0 < p.2) → vs.length = ps.length → sx P (md 0 vs ps) ps ≤ ps.length * P
  | [], [], _, _ => by simp [sx, md]
  | [], _ :: _, _, h => by simp at h
  | _ :: _, [], _, h => by simp at h
  | x :: vs, p :: ps, h, hl => by
    have hb := h p List.mem_cons_self
    have ih := sx_md hP (vs := vs) (ps := ps) (fun q hq => h q (List.mem_cons_of_mem _ hq)) (by simpa using hl)
    simp only [md, sx, List.length_cons]
    have h1 : (x - 0 * p.1) % p.2 < p.2 := Int.emod_lt_of_pos _ hb
    have h2 : 0 ≤ P / p.2 := Int.ediv_nonneg (by omega) (by omega)
    have h3 : (x - 0 * p.1) % p.2 * (P / p.2) ≤ p.2 * (P / p.2) := Int.mul_le_mul_of_nonneg_right (by omega) h2
    have h4 : p.2 * (P / p.2) ≤ P := Int.mul_ediv_self_le (by omega)
    have e6 : ((ps.length + 1 : Nat) : Int) * P = ps.length * P + P := by rw [Int.natCast_add, Int.add_mul]; simp
    rw [e6]
    omega
theorem sp_normal_in (w : Int) (ps : List (Int × Int)) (hg : GW w ps) (v0 : Int) (vs : List Int) (hl : vs.length = ps.length) (k : Rv → Prop) (E : Exn → Prop) (h : ∀ p, IsFirst w ps v0 vs p → k (.val (dv (nrm w ps v0 vs p)))) : F_normal_in [stm w ps, dv (v0 :: vs)] k E := by
  have hP := prd_big hg.g
  have hn := num_b hg
  have h0 := hg.w0
  have h1 := hg.w1
  have hlen := hg.g.1
  have hp2 : ∀ p ∈ ps, 0 < p.2 := fun p hp => by have := hg.g.2 p hp; omega
  have hml : (md 0 vs ps).length = ps.length := md_len 0 hl
  simp [F_normal_in, dfS, startD, sCons, sNil, sSetN, sSetB, sOwnN, sOwnB, sIf, sRetB, sRetNone, sRetO, sFor, sAsgN, sAsgB, sParN, sParB, slotR, lfR, sExpr, sAppN, sAppB, augI, gTup_t, gCons_c, gCons_n, gNil_n, gNil_c, gN, dVar, dC, vR, rV, rBin, cBin, bV, bTru, bNot, bAnd, bOr, vAnd, vOr, vNot, rIf, vIf, dNeg, dTup, dLst, dTupS, dLstS, aNil, aCons, aStar, rCall, dCall, dCallK, pick, on1, on2, dLen, i1, i2, dInt, dIsi, dTru, dFld, rCut, oNone, oSome, dCut, iOf, iArg, zip2_e, enu1_e, rng1, rng2, rComp, bYes, cChain, dAdd, dSub, dMul, dFd, dMd, dPw, iI, iC, frz, viewN, viewB, wipeV, toSl, D.items, vDr, iDr, sDrPut, rDrNext, vDct, sNever, L2.atI, dIx, dList, dTuple, dEq, dNe, D.okd, okdL, D.eqb, PyData.eqv, D.py, pyL, dSum, dAll, dAny, L2.ixN, dNotB, dIsB, dIsN, dNotN, D.isNon]
  refine sp_e_of w ps hg _ _ fun A B hAB => ?_
  have hA := hAB.neg hg
  have hB := hAB.b0
  have hB1 := hAB.b1
  have he := hAB.e
  simp [dfS, startD, sCons, sNil, sSetN, sSetB, sOwnN, sOwnB, sIf, sRetB, sRetNone, sRetO, sFor, sAsgN, sAsgB, sParN, sParB, slotR, lfR, sExpr, sAppN, sAppB, augI, gTup_t, gCons_c, gCons_n, gNil_n, gNil_c, gN, dVar, dC, vR, rV, rBin, cBin, bV, bTru, bNot, bAnd, bOr, vAnd, vOr, vNot, rIf, vIf, dNeg, dTup, dLst, dTupS, dLstS, aNil, aCons, aStar, rCall, dCall, dCallK, pick, on1, on2, dLen, i1, i2, dInt, dIsi, dTru, dFld, rCut, oNone, oSome, dCut, iOf, iArg, zip2_e, enu1_e, rng1, rng2, rComp, bYes, cChain, dAdd, dSub, dMul, dFd, dMd, dPw, iI, iC, frz, viewN, viewB, wipeV, toSl, D.items, vDr, iDr, sDrPut, rDrNext, vDct, sNever, L2.atI, dIx, dList, dTuple, dEq, dNe, D.okd, okdL, D.eqb, PyData.eqv, D.py, pyL, dSum, dAll, dAny, L2.ixN, dNotB, dIsB, dIsN, dNotN, D.isNon]
  refine sp_red w ps hg.g v0 vs _ _ ?_
  generalize hu : v0 + cs 0 vs ps = u0
  generalize hus : md 0 vs ps = us at hml ⊢
  simp [stm, st_p, dv_eq, dfS, startD, sCons, sNil, sSetN, sSetB, sOwnN, sOwnB, sIf, sRetB, sRetNone, sRetO, sFor, sAsgN, sAsgB, sParN, sParB, slotR, lfR, sExpr, sAppN, sAppB, augI, gTup_t, gCons_c, gCons_n, gNil_n, gNil_c, gN, dVar, dC, vR, rV, rBin, cBin, bV, bTru, bNot, bAnd, bOr, vAnd, vOr, vNot, rIf, vIf, dNeg, dTup, dLst, dTupS, dLstS, aNil, aCons, aStar, rCall, dCall, dCallK, pick, on1, on2, dLen, i1, i2, dInt, dIsi, dTru, dFld, rCut, oNone, oSome, dCut, iOf, iArg, zip2_e, enu1_e, rng1, rng2, rComp, bYes, cChain, dAdd, dSub, dMul, dFd, dMd, dPw, iI, iC, frz, viewN, viewB, wipeV, toSl, D.items, vDr, iDr, sDrPut, rDrNext, vDct, sNever, L2.atI, dIx, dList, dTuple, dEq, dNe, D.okd, okdL, D.eqb, PyData.eqv, D.py, pyL, dSum, dAll, dAny, L2.ixN, dNotB, dIsB, dIsN, dNotN, D.isNon]
  simp [dps, dfS, startD, sCons, sNil, sSetN, sSetB, sOwnN, sOwnB, sIf, sRetB, sRetNone, sRetO, sFor, sAsgN, sAsgB, sParN, sParB, slotR, lfR, sExpr, sAppN, sAppB, augI, gTup_t, gCons_c, gCons_n, gNil_n, gNil_c, gN, dVar, dC, vR, rV, rBin, cBin, bV, bTru, bNot, bAnd, bOr, vAnd, vOr, vNot, rIf, vIf, dNeg, dTup, dLst, dTupS, dLstS, aNil, aCons, aStar, rCall, dCall, dCallK, pick, on1, on2, dLen, i1, i2, dInt, dIsi, dTru, dFld, rCut, oNone, oSome, dCut, iOf, iArg, zip2_e, enu1_e, rng1, rng2, rComp, bYes, cChain, dAdd, dSub, dMul, dFd, dMd, dPw, iI, iC, frz, viewN, viewB, wipeV, toSl, D.items, vDr, iDr, sDrPut, rDrNext, vDct, sNever, L2.atI, dIx, dList, dTuple, dEq, dNe, D.okd, okdL, D.eqb, PyData.eqv, D.py, pyL, dSum, dAll, dAny, L2.ixN, dNotB, dIsB, dIsN, dNotN, D.isNon]
  refine ⟨mulok _ _ (by omega), ⟨by omega, lg (by omega)⟩, ?_⟩
  have hc : ∀ n, cnt w ps u0 us n = cnt w ps v0 vs n := fun n => by rw [← hu, ← hus]; exact cnt_red w ps hp2 v0 vs n
  obtain ⟨N, hN⟩ := cnt_some hg v0 hl
  generalize hq : ((1 + u0 + (ps.length : Int)) * B).fdiv A = q
  have key : ∀ n, n ≤ q → cnt w ps v0 vs n ≤ 0 := fun n hnq => by
    rw [← hc n]
    refine cnt_neg hg u0 hml ?_
    have hsx : sx (prd ps) us ps ≤ ps.length * prd ps := by rw [← hus]; exact sx_md hP.1 hp2 hl
    have z1 : (1 + u0 + (ps.length : Int)) * B ≤ A * q := by
      rw [← hq, ← Int.neg_fdiv_neg, fdiv_pos _ (by omega)]
      have := Int.ediv_mul_le (-((1 + u0 + (ps.length : Int)) * B)) (show -A ≠ 0 by omega)
      have e : A * (-((1 + u0 + (ps.length : Int)) * B) / -A) = - (-((1 + u0 + (ps.length : Int)) * B) / -A * -A) := by grind
      rw [e]
      omega
    have z2 : A * q ≤ A * n := Int.mul_le_mul_of_nonpos_left (by omega) hnq
    have z3 : (1 + u0 + (ps.length : Int)) * prd ps ≤ n * num w ps := by
      have : B * ((1 + u0 + (ps.length : Int)) * prd ps) ≤ B * (n * num w ps) := by
        calc B * ((1 + u0 + (ps.length : Int)) * prd ps) = (1 + u0 + (ps.length : Int)) * B * prd ps := by grind
          _ ≤ (A * n) * prd ps := Int.mul_le_mul_of_nonneg_right (by omega) (by omega)
          _ = n * (A * prd ps) := by grind
          _ = n * (num w ps * B) := by rw [he]
          _ = B * (n * num w ps) := by grind
      exact Int.le_of_mul_le_mul_left this hB
    have z4 : (1 + u0 + (ps.length : Int)) * prd ps = (1 + u0) * prd ps + ps.length * prd ps := by grind
    omega
  refine while_inv (fun m ρ => ∃ x, (m : Int) = N - x ∧ x ≤ N ∧ (∀ n, n < x → cnt w ps v0 vs n ≤ 0) ∧ ρ = [some (.val (stm w ps)), some (.val (dv (u0 :: us))), some (.val (.int A)), some (.val (.int B)), some (.val (.int x))]) ?_ (N - (q - 1)).toNat _ ?_
  · rintro m ρ ⟨x, hm, hx, hf, rfl⟩ κ hκ
    simp [dfS, startD, sCons, sNil, sSetN, sSetB, sOwnN, sOwnB, sIf, sRetB, sRetNone, sRetO, sFor, sAsgN, sAsgB, sParN, sParB, slotR, lfR, sExpr, sAppN, sAppB, augI, gTup_t, gCons_c, gCons_n, gNil_n, gNil_c, gN, dVar, dC, vR, rV, rBin, cBin, bV, bTru, bNot, bAnd, bOr, vAnd, vOr, vNot, rIf, vIf, dNeg, dTup, dLst, dTupS, dLstS, aNil, aCons, aStar, rCall, dCall, dCallK, pick, on1, on2, dLen, i1, i2, dInt, dIsi, dTru, dFld, rCut, oNone, oSome, dCut, iOf, iArg, zip2_e, enu1_e, rng1, rng2, rComp, bYes, cChain, dAdd, dSub, dMul, dFd, dMd, dPw, iI, iC, frz, viewN, viewB, wipeV, toSl, D.items, vDr, iDr, sDrPut, rDrNext, vDct, sNever, L2.atI, dIx, dList, dTuple, dEq, dNe, D.okd, okdL, D.eqb, PyData.eqv, D.py, pyL, dSum, dAll, dAny, L2.ixN, dNotB, dIsB, dIsN, dNotN, D.isNon]
    refine sp_cin w ps hg.g (by omega) u0 us x _ _ ?_
    rw [hc]
    simp [dfS, startD, sCons, sNil, sSetN, sSetB, sOwnN, sOwnB, sIf, sRetB, sRetNone, sRetO, sFor, sAsgN, sAsgB, sParN, sParB, slotR, lfR, sExpr, sAppN, sAppB, augI, gTup_t, gCons_c, gCons_n, gNil_n, gNil_c, gN, dVar, dC, vR, rV, rBin, cBin, bV, bTru, bNot, bAnd, bOr, vAnd, vOr, vNot, rIf, vIf, dNeg, dTup, dLst, dTupS, dLstS, aNil, aCons, aStar, rCall, dCall, dCallK, pick, on1, on2, dLen, i1, i2, dInt, dIsi, dTru, dFld, rCut, oNone, oSome, dCut, iOf, iArg, zip2_e, enu1_e, rng1, rng2, rComp, bYes, cChain, dAdd, dSub, dMul, dFd, dMd, dPw, iI, iC, frz, viewN, viewB, wipeV, toSl, D.items, vDr, iDr, sDrPut, rDrNext, vDct, sNever, L2.atI, dIx, dList, dTuple, dEq, dNe, D.okd, okdL, D.eqb, PyData.eqv, D.py, pyL, dSum, dAll, dAny, L2.ixN, dNotB, dIsB, dIsN, dNotN, D.isNon]
    refine ⟨fun hcx => ?_, fun hcx => ?_⟩
    · have hx2 : x ≠ N := by rintro rfl; omega
      refine hκ (N - (x + 1)).toNat _ (by omega) ⟨x + 1, by omega, by omega, fun n hn' => ?_, rfl⟩
      rcases Int.lt_or_le n x with z | z
      · exact hf n z
      · have : n = x := by omega
        rw [this]; exact hcx
    · refine sp_later w ps hg.g (by omega) u0 us x _ _ ?_
      have := h x ⟨hcx, hf⟩
      have e : nrm w ps u0 us x = nrm w ps v0 vs x := by
        unfold nrm
        rw [hc, ← hus, md_red x vs ps hp2]
      rw [e]
      exact this
  · have hx : q - 1 ≤ N := by
      rcases Int.lt_or_le N q with z | z
      · have := key N (by omega); omega
      · omega
    exact ⟨q - 1, by omega, hx, fun n hn' => key n (by omega), by simp [stm, dv, dps]⟩
theorem sp_normal (w : Int) (ps : List (Int × Int)) (hg : GW w ps) (hs : spanL w ps ≤ 900) (v0 : Int) (vs : List Int) (hl : vs.length = ps.length) (h0 : v0.natAbs ≤ 1000000000) (h1 : ∀ x ∈ vs, (x : Int).natAbs ≤ 1000000000) (k : Rv → Prop) (E : Exn → Prop) (h : ∀ p, IsFirst w ps v0 vs p → k (.val (dv (nrm w ps v0 vs p)))) : F_normal [stm w ps, dv (v0 :: vs)] k E := by
  simp [F_normal, dfS, startD, sCons, sNil, sSetN, sSetB, sOwnN, sOwnB, sIf, sRetB, sRetNone, sRetO, sFor, sAsgN, sAsgB, sParN, sParB, slotR, lfR, sExpr, sAppN, sAppB, augI, gTup_t, gCons_c, gCons_n, gNil_n, gNil_c, gN, dVar, dC, vR, rV, rBin, cBin, bV, bTru, bNot, bAnd, bOr, vAnd, vOr, vNot, rIf, vIf, dNeg, dTup, dLst, dTupS, dLstS, aNil, aCons, aStar, rCall, dCall, dCallK, pick, on1, on2, dLen, i1, i2, dInt, dIsi, dTru, dFld, rCut, oNone, oSome, dCut, iOf, iArg, zip2_e, enu1_e, rng1, rng2, rComp, bYes, cChain, dAdd, dSub, dMul, dFd, dMd, dPw, iI, iC, frz, viewN, viewB, wipeV, toSl, D.items, vDr, iDr, sDrPut, rDrNext, vDct, sNever, L2.atI, dIx, dList, dTuple, dEq, dNe, D.okd, okdL, D.eqb, PyData.eqv, D.py, pyL, dSum, dAll, dAny, L2.ixN, dNotB, dIsB, dIsN, dNotN, D.isNon]
  refine sp_need_below w ps hg _ _ ?_
  refine sp_need_vector w ps hg.g v0 vs hl h0 h1 _ _ ?_
  refine sp_need_span w ps hg hs _ _ ?_
  exact sp_normal_in w ps hg v0 vs hl _ _ h
end K58

set_option Elab.async false
set_option linter.all false
set_option maxRecDepth 100000
set_option maxHeartbeats 4000000
namespace K58
open PySem Dv
theorem join_le {B : Nat} : ∀ {ts : List Str}, (∀ t ∈ ts, Str.length t ≤ B) → (Str.join ", " ts).length ≤ ts.length * (B + 2)
  | [], _ => by simp [Str.join, Str.empty, Str.length]
  | [x], h => by have := h x List.mem_cons_self; simp [Str.join]; omega
  | x :: y :: r, h => by
    have ih := join_le (ts := y :: r) fun t ht => h t (List.mem_cons_of_mem _ ht)
    have hx := h x List.mem_cons_self
    have e : Str.join ", " (x :: y :: r) = x ++ ", " ++ Str.join ", " (y :: r) := rfl
    rw [e, Str.length_append, Str.length_append]
    have : (", " : Str).length = 2 := by decide +kernel
    simp only [List.length_cons] at ih ⊢
    rw [this]
    have e2 : (r.length + 1 + 1) * (B + 2) = (r.length + 1) * (B + 2) + (B + 2) := by rw [Nat.add_mul]; omega
    omega
theorem shownAll_map (ls : List Int) : PyData.shownAll (ls.map .int) = ls.map fun i => Str.ofString (toString i) := by
  induction ls with
  | nil => rfl
  | cons i ls ih => simp only [List.map_cons, PyData.shownAll, PyData.shown, ih]
theorem dv_shown (ls : List Int) (h : ∀ i ∈ ls, (i : Int).natAbs.log2 < 1920) (hn : ls.length ≤ 1000) : (PyData.tuple (ls.map .int)).showable = true ∧ (PyData.tuple (ls.map .int)).shown.length ≤ sizeLine := by
  constructor
  · simp only [PyData.showable]
    induction ls with
    | nil => rfl
    | cons i ls ih =>
      simp only [List.map_cons, PyData.showableAll, PyData.showable, Bool.and_eq_true, decide_eq_true_eq]
      exact ⟨h i List.mem_cons_self, ih (fun j hj => h j (List.mem_cons_of_mem _ hj)) (by simp at hn; omega)⟩
  · simp only [PyData.shown, shownAll_map]
    have hj := join_le (B := 1921) (ts := ls.map fun i => Str.ofString (toString i)) fun t ht => by
      obtain ⟨i, hi, rfl⟩ := List.mem_map.mp ht
      exact PyProof.Rows.int_text_len_1921 (h i hi)
    unfold tupleText
    rw [Str.length_append, Str.length_append]
    have h1 : ("(" : Str).length = 1 := by decide +kernel
    have h2 : (Str.ofString (if (ls.map fun i => Str.ofString (toString i)).length == 1 then ",)" else ")")).length ≤ 2 := by
      split <;> decide +kernel
    rw [h1]
    simp only [List.length_map] at hj h2 ⊢
    rw [sizeLine_eq]
    have : ls.length * 1923 ≤ 1000 * 1923 := Nat.mul_le_mul_right _ hn
    omega
theorem pyL_ints (ls : List Int) : pyL (ls.map .int) = ls.map .int := by
  induction ls with
  | nil => rfl
  | cons i ls ih => simp only [List.map_cons, pyL, D.py, ih]
theorem dv_py (ls : List Int) : (dv ls).py = .tuple (ls.map .int) := by simp only [dv, D.py, pyL_ints]
theorem okdL_ints (n : Nat) (ls : List Int) : okdL n (ls.map .int) = true := by
  induction ls with
  | nil => rfl
  | cons i ls ih => simp only [List.map_cons, okdL, D.okd, ih, Bool.and_self]
theorem dv_okd (ls : List Int) : (dv ls).okd 60 = true := by simp only [dv, D.okd, okdL_ints]
theorem eqvAll_ints : ∀ (a b : List Int), PyData.eqvAll (a.map .int) (b.map .int) = decide (a = b)
  | [], [] => rfl
  | [], _ :: _ => rfl
  | _ :: _, [] => rfl
  | x :: a, y :: b => by
    simp only [List.map_cons, PyData.eqvAll, PyData.eqv, eqvAll_ints a b, List.cons.injEq]
    by_cases h : x = y <;> simp [h]
theorem dv_eqb (a b : List Int) : (dv a).eqb (dv b) = decide (a = b) := by
  unfold D.eqb
  rw [dv_py, dv_py]
  simp only [PyData.eqv]
  exact eqvAll_ints a b
theorem sp_says_dv (ls : List Int) (h : ∀ i ∈ ls, (i : Int).natAbs.log2 < 1920) (hn : ls.length ≤ 1000) (k : Rv → Prop) (E : Exn → Prop) (hk : k (.val (.bl true))) : F__law_says [dv ls, dv ls] k E := by
  have hs := dv_shown ls h hn
  have hp := dv_py ls
  have ho := dv_okd ls
  simp [F__law_says, dRepr, dEqS, dfS, startD, sCons, sNil, sSetN, sSetB, sOwnN, sOwnB, sIf, sRetB, sRetNone, sRetO, sFor, sAsgN, sAsgB, sParN, sParB, slotR, lfR, sExpr, sAppN, sAppB, augI, gTup_t, gCons_c, gCons_n, gNil_n, gNil_c, gN, dVar, dC, vR, rV, rBin, cBin, bV, bTru, bNot, bAnd, bOr, vAnd, vOr, vNot, rIf, vIf, dNeg, dTup, dLst, dTupS, dLstS, aNil, aCons, aStar, rCall, dCall, dCallK, pick, on1, on2, dLen, i1, i2, dInt, dIsi, dTru, dFld, rCut, oNone, oSome, dCut, iOf, iArg, zip2_e, enu1_e, rng1, rng2, rComp, bYes, cChain, dAdd, dSub, dMul, dFd, dMd, dPw, iI, iC, frz, viewN, viewB, wipeV, toSl, D.items, vDr, iDr, sDrPut, rDrNext, vDct, sNever, L2.atI, dIx, dList, dTuple, dEq, dNe, D.okd, okdL, D.eqb, PyData.eqv, D.py, pyL, dSum, dAll, dAny, L2.ixN, dNotB, dIsB, dIsN, dNotN, D.isNon] at ho hp ⊢
  simp only [dv] at ho hp ⊢
  rw [hp]
  exact ⟨⟨ho, hs⟩, hk⟩
theorem sp_says_bl (b : Bool) (k : Rv → Prop) (E : Exn → Prop) (hk : k (.val (.bl true))) : F__law_says [.bl b, .bl b] k E := by
  have hz := szl
  have h1 : ∀ b : Bool, (PyData.bool b).shown.length ≤ 5 := by decide +kernel
  have := h1 b
  simp [F__law_says, dRepr, dEqS, PyData.showable, dfS, startD, sCons, sNil, sSetN, sSetB, sOwnN, sOwnB, sIf, sRetB, sRetNone, sRetO, sFor, sAsgN, sAsgB, sParN, sParB, slotR, lfR, sExpr, sAppN, sAppB, augI, gTup_t, gCons_c, gCons_n, gNil_n, gNil_c, gN, dVar, dC, vR, rV, rBin, cBin, bV, bTru, bNot, bAnd, bOr, vAnd, vOr, vNot, rIf, vIf, dNeg, dTup, dLst, dTupS, dLstS, aNil, aCons, aStar, rCall, dCall, dCallK, pick, on1, on2, dLen, i1, i2, dInt, dIsi, dTru, dFld, rCut, oNone, oSome, dCut, iOf, iArg, zip2_e, enu1_e, rng1, rng2, rComp, bYes, cChain, dAdd, dSub, dMul, dFd, dMd, dPw, iI, iC, frz, viewN, viewB, wipeV, toSl, D.items, vDr, iDr, sDrPut, rDrNext, vDct, sNever, L2.atI, dIx, dList, dTuple, dEq, dNe, D.okd, okdL, D.eqb, PyData.eqv, D.py, pyL, dSum, dAll, dAny, L2.ixN, dNotB, dIsB, dIsN, dNotN, D.isNon]
  exact ⟨by omega, hk⟩
/-! ### a class's other vectors -/
def mvd (t : Int) : List Int → List Int → List (Int × Int) → List Int
  | m :: ms, x :: vs, p :: ps => (x + t * p.1 + m * p.2) :: mvd t ms vs ps
  | _, _, _ => []
theorem mvd_len (t : Int) : ∀ {ms vs : List Int} {ps : List (Int × Int)}, ms.length = ps.length → vs.length = ps.length → (mvd t ms vs ps).length = ps.length
  | [], [], [], _, _ => rfl
  | m :: ms, x :: vs, p :: ps, h1, h2 => by simp only [mvd, List.length_cons, mvd_len t (ms := ms) (vs := vs) (ps := ps) (by simpa using h1) (by simpa using h2)]
  | [], _, _ :: _, h, _ => by simp at h
  | _ :: _, _, [], h, _ => by simp at h
  | _, [], _ :: _, _, h => by simp at h
  | _, _ :: _, [], _, h => by simp at h
theorem cs_mvd (t n : Int) : ∀ {ms vs : List Int} {ps : List (Int × Int)}, (∀ p ∈ ps, 0 < p.2) → ms.length = ps.length → vs.length = ps.length → cs n (mvd t ms vs ps) ps = cs (n - t) vs ps + ms.sum
  | [], [], [], _, _, _ => rfl
  | m :: ms, x :: vs, p :: ps, h, h1, h2 => by
    have hb := h p List.mem_cons_self
    simp only [mvd, cs, List.sum_cons, cs_mvd t n (ms := ms) (vs := vs) (ps := ps) (fun q hq => h q (List.mem_cons_of_mem _ hq)) (by simpa using h1) (by simpa using h2)]
    have e : x + t * p.1 + m * p.2 - n * p.1 = (x - (n - t) * p.1) + p.2 * m := by grind
    rw [e, Int.add_mul_ediv_left _ _ (by omega)]
    omega
  | [], _, _ :: _, _, h, _ => by simp at h
  | _ :: _, _, [], _, h, _ => by simp at h
  | _, [], _ :: _, _, _, h => by simp at h
  | _, _ :: _, [], _, _, h => by simp at h
theorem md_mvd (t n : Int) : ∀ {ms vs : List Int} {ps : List (Int × Int)}, (∀ p ∈ ps, 0 < p.2) → ms.length = ps.length → vs.length = ps.length → md n (mvd t ms vs ps) ps = md (n - t) vs ps
  | [], [], [], _, _, _ => rfl
  | m :: ms, x :: vs, p :: ps, h, h1, h2 => by
    simp only [mvd, md, md_mvd t n (ms := ms) (vs := vs) (ps := ps) (fun q hq => h q (List.mem_cons_of_mem _ hq)) (by simpa using h1) (by simpa using h2)]
    have e : x + t * p.1 + m * p.2 - n * p.1 = (x - (n - t) * p.1) + p.2 * m := by grind
    rw [e, Int.add_mul_emod_self_left]
  | [], _, _ :: _, _, h, _ => by simp at h
  | _ :: _, _, [], _, h, _ => by simp at h
  | _, [], _ :: _, _, _, h => by simp at h
  | _, _ :: _, [], _, _, h => by simp at h
theorem cnt_mvd (w t n : Int) {ms vs : List Int} {ps : List (Int × Int)} (v0 : Int) (h : ∀ p ∈ ps, 0 < p.2) (h1 : ms.length = ps.length) (h2 : vs.length = ps.length) : cnt w ps (v0 + t * w - ms.sum) (mvd t ms vs ps) n = cnt w ps v0 vs (n - t) := by
  unfold cnt
  rw [cs_mvd t n h h1 h2]
  have : w * n = w * (n - t) + t * w := by grind
  omega
theorem first_mvd (w t : Int) {ms vs : List Int} {ps : List (Int × Int)} (v0 : Int) (h : ∀ p ∈ ps, 0 < p.2) (h1 : ms.length = ps.length) (h2 : vs.length = ps.length) {p : Int} (hf : IsFirst w ps v0 vs p) : IsFirst w ps (v0 + t * w - ms.sum) (mvd t ms vs ps) (p + t) := by
  refine ⟨?_, fun n hn => ?_⟩
  · rw [cnt_mvd w t _ v0 h h1 h2]
    have : p + t - t = p := by omega
    rw [this]; exact hf.1
  · rw [cnt_mvd w t _ v0 h h1 h2]
    exact hf.2 _ (by omega)
theorem nrm_mvd (w t : Int) {ms vs : List Int} {ps : List (Int × Int)} (v0 : Int) (h : ∀ p ∈ ps, 0 < p.2) (h1 : ms.length = ps.length) (h2 : vs.length = ps.length) (p : Int) : nrm w ps (v0 + t * w - ms.sum) (mvd t ms vs ps) (p + t) = nrm w ps v0 vs p := by
  unfold nrm
  rw [cnt_mvd w t _ v0 h h1 h2, md_mvd t _ h h1 h2]
  have : p + t - t = p := by omega
  rw [this]
/-- what of_one_class asks -/
def Occ (w : Int) (ps : List (Int × Int)) (v0 : Int) (vs : List Int) (u0 : Int) (us : List Int) : Prop :=
  ∃ (t : Int) (ms : List Int), ms.length = ps.length ∧ v0 = u0 + t * w - ms.sum ∧ vs = mvd t ms us ps
theorem occ_of_md (q r : Int) : ∀ {vs us : List Int} {ps : List (Int × Int)}, (∀ p ∈ ps, 0 < p.2) → vs.length = ps.length → us.length = ps.length → md q vs ps = md r us ps → ∃ ms : List Int, ms.length = ps.length ∧ vs = mvd (q - r) ms us ps ∧ cs q vs ps = cs r us ps + ms.sum
  | [], [], [], _, _, _, _ => ⟨[], rfl, rfl, rfl⟩
  | x :: vs, y :: us, p :: ps, h, h1, h2, e => by
    have hb := h p List.mem_cons_self
    simp only [md, List.cons.injEq] at e
    obtain ⟨ms, e1, e2, e3⟩ := occ_of_md q r (vs := vs) (us := us) (ps := ps) (fun z hz => h z (List.mem_cons_of_mem _ hz)) (by simpa using h1) (by simpa using h2) e.2
    refine ⟨((x - q * p.1) / p.2 - (y - r * p.1) / p.2) :: ms, by simp [e1], ?_, ?_⟩
    · simp only [mvd]
      rw [← e2]
      congr 1
      have a1 := Int.emod_add_mul_ediv (x - q * p.1) p.2
      have a2 := Int.emod_add_mul_ediv (y - r * p.1) p.2
      have a3 := e.1
      grind
    · simp only [cs, List.sum_cons, e3]
      omega
  | [], _, _ :: _, _, h, _, _ => by simp at h
  | _ :: _, _, [], _, h, _, _ => by simp at h
  | _, [], _ :: _, _, _, h, _ => by simp at h
  | _, _ :: _, [], _, _, h, _ => by simp at h
/-- one class, one normal vector -/
theorem occ_iff {w : Int} {ps : List (Int × Int)} (h : ∀ p ∈ ps, 0 < p.2) {v0 u0 : Int} {vs us : List Int} (h1 : vs.length = ps.length) (h2 : us.length = ps.length) {q r : Int} (hq : IsFirst w ps v0 vs q) (hr : IsFirst w ps u0 us r) : Occ w ps v0 vs u0 us ↔ nrm w ps v0 vs q = nrm w ps u0 us r := by
  constructor
  · rintro ⟨t, ms, e1, rfl, rfl⟩
    have z := first_mvd w t u0 h e1 h2 hr
    have : q = r + t := first_uniq hq z
    rw [this]
    exact nrm_mvd w t u0 h e1 h2 r
  · intro e
    unfold nrm at e
    simp only [List.cons.injEq] at e
    obtain ⟨ms, e1, e2, e3⟩ := occ_of_md q r h h1 h2 e.2
    refine ⟨q - r, ms, e1, ?_, e2⟩
    have e4 := e.1
    unfold cnt at e4
    have : (q - r) * w = w * q - w * r := by grind
    omega
end K58

set_option Elab.async false
set_option linter.all false
set_option maxRecDepth 100000
set_option maxHeartbeats 4000000
namespace K58
open PySem Dv
def gp : List Int → List Int → List Int
  | x :: vs, y :: us => (x - y) :: gp vs us
  | _, _ => []
theorem gp_zip : ∀ (vs us : List Int), ((vs.zip us).map fun q => q.1 - q.2) = gp vs us
  | [], _ => rfl
  | _ :: _, [] => rfl
  | x :: vs, y :: us => by simp [gp, gp_zip vs us]
theorem gp_len : ∀ {vs us : List Int}, vs.length = us.length → (gp vs us).length = us.length
  | [], [], _ => rfl
  | x :: vs, y :: us, h => by simp only [gp, List.length_cons, gp_len (vs := vs) (us := us) (by simpa using h)]
  | [], _ :: _, h => by simp at h
  | _ :: _, [], h => by simp at h
def okG (q : Int) : List Int → List (Int × Int) → Prop
  | g :: gs, p :: ps => p.2 ∣ g - q * p.1 ∧ okG q gs ps
  | _, _ => True
/-- the gaps of one class -/
theorem gp_mvd (t : Int) : ∀ {ms us : List Int} {ps : List (Int × Int)}, ms.length = ps.length → us.length = ps.length → okG t (gp (mvd t ms us ps) us) ps
  | [], [], [], _, _ => trivial
  | m :: ms, y :: us, p :: ps, h1, h2 => by
    refine ⟨⟨m, by grind⟩, gp_mvd t (by simpa using h1) (by simpa using h2)⟩
  | [], _, _ :: _, h, _ => by simp at h
  | _ :: _, _, [], h, _ => by simp at h
  | _, [], _ :: _, _, h => by simp at h
  | _, _ :: _, [], _, h => by simp at h
theorem sx_mvd {P : Int} (t : Int) : ∀ {ms us : List Int} {ps : List (Int × Int)}, (∀ p ∈ ps, 0 < p.2 ∧ p.2 ∣ P) → ms.length = ps.length → us.length = ps.length → sx P (gp (mvd t ms us ps) us) ps = t * se P ps + P * ms.sum
  | [], [], [], _, _, _ => by simp [gp, mvd, sx, se]
  | m :: ms, y :: us, p :: ps, h, h1, h2 => by
    obtain ⟨hb, c, hc⟩ := h p List.mem_cons_self
    have ih := sx_mvd (P := P) t (ms := ms) (us := us) (ps := ps) (fun q hq => h q (List.mem_cons_of_mem _ hq)) (by simpa using h1) (by simpa using h2)
    have e : se P (p :: ps) = p.1 * (P / p.2) + se P ps := by simp [se]
    have e1 : P / p.2 = c := by rw [hc, Int.mul_ediv_cancel_left _ (by omega)]
    simp only [gp, mvd, sx, ih, e, e1, List.sum_cons]
    grind
  | [], _, _ :: _, _, h, _ => by simp at h
  | _ :: _, _, [], _, h, _ => by simp at h
  | _, [], _ :: _, _, _, h => by simp at h
  | _, _ :: _, [], _, _, h => by simp at h
theorem mvd_of (q : Int) : ∀ {vs us : List Int} {ps : List (Int × Int)}, vs.length = ps.length → us.length = ps.length → okG q (gp vs us) ps → ∃ ms : List Int, ms.length = ps.length ∧ vs = mvd q ms us ps
  | [], [], [], _, _, _ => ⟨[], rfl, rfl⟩
  | x :: vs, y :: us, p :: ps, h1, h2, ⟨⟨m, hm⟩, h⟩ => by
    obtain ⟨ms, e1, e2⟩ := mvd_of q (by simpa using h1) (by simpa using h2) h
    refine ⟨m :: ms, by simp [e1], ?_⟩
    simp only [mvd]
    rw [← e2]
    congr 1
    grind
  | [], _, _ :: _, h, _, _ => by simp at h
  | _ :: _, _, [], h, _, _ => by simp at h
  | _, [], _ :: _, _, h, _ => by simp at h
  | _, _ :: _, [], _, h, _ => by simp at h
def tot (ps : List (Int × Int)) (v0 : Int) (vs : List Int) (u0 : Int) (us : List Int) : Int := (v0 - u0) * prd ps + sx (prd ps) (gp vs us) ps
theorem occ_tot {w : Int} {ps : List (Int × Int)} (hg : Good ps) {v0 u0 : Int} {vs us : List Int} (h1 : vs.length = ps.length) (h2 : us.length = ps.length) : Occ w ps v0 vs u0 us ↔ ∃ q, tot ps v0 vs u0 us = num w ps * q ∧ okG q (gp vs us) ps := by
  have hP := prd_big hg
  have hd : ∀ p ∈ ps, 0 < p.2 ∧ p.2 ∣ prd ps := fun p hp => ⟨by have := hg.2 p hp; omega, prd_dvd p hp⟩
  constructor
  · rintro ⟨t, ms, e1, rfl, rfl⟩
    refine ⟨t, ?_, gp_mvd t e1 h2⟩
    unfold tot num
    rw [sx_mvd t hd e1 h2]
    grind
  · rintro ⟨q, e, ok⟩
    obtain ⟨ms, e1, rfl⟩ := mvd_of q h1 h2 ok
    refine ⟨q, ms, e1, ?_, rfl⟩
    unfold tot num at e
    rw [sx_mvd q hd e1 h2] at e
    have : prd ps * (v0 - u0) = prd ps * (q * w - ms.sum) := by grind
    have := Int.eq_of_mul_eq_mul_left (by omega) this
    omega
theorem okG_all (q : Int) : ∀ {gs : List Int} {ps : List (Int × Int)}, (∀ p ∈ ps, 0 < p.2) → (((ps.zip gs).map fun z => decide ((z.2 - q * z.1.1).fmod z.1.2 = 0)).all id = true ↔ okG q gs ps)
  | [], ps, _ => by cases ps <;> simp [okG]
  | _ :: _, [], _ => by simp [okG]
  | g :: gs, p :: ps, h => by
    have hb := h p List.mem_cons_self
    have ih := okG_all q (gs := gs) (ps := ps) fun z hz => h z (List.mem_cons_of_mem _ hz)
    simp only [List.zip_cons_cons, List.map_cons, List.all_cons, Bool.and_eq_true, ih, okG, id, decide_eq_true_eq]
    rw [fmod_pos _ hb, Int.dvd_iff_emod_eq_zero]
theorem sp_ooc (w : Int) (ps : List (Int × Int)) (hg : GW w ps) (v0 : Int) (vs : List Int) (hl : vs.length = ps.length) (h0 : v0.natAbs ≤ 1000000000) (h1 : ∀ x ∈ vs, (x : Int).natAbs ≤ 1000000000) (u0 : Int) (us : List Int) (hl2 : us.length = ps.length) (h02 : u0.natAbs ≤ 1000000000) (h12 : ∀ x ∈ us, (x : Int).natAbs ≤ 1000000000)
    (k : Rv → Prop) (E : Exn → Prop) (h : ∀ b : Bool, (b = true ↔ Occ w ps v0 vs u0 us) → k (.val (.bl b))) : F_of_one_class [stm w ps, dv (v0 :: vs), dv (u0 :: us)] k E := by
  have hP := prd_big hg.g
  have hn := num_b hg
  have hlen := hg.g.1
  have hz := szl
  have hp2 : ∀ p ∈ ps, 0 < p.2 := fun p hp => by have := hg.g.2 p hp; omega
  simp [F_of_one_class, dfS, startD, sCons, sNil, sSetN, sSetB, sOwnN, sOwnB, sIf, sRetB, sRetNone, sRetO, sFor, sAsgN, sAsgB, sParN, sParB, slotR, lfR, sExpr, sAppN, sAppB, augI, gTup_t, gCons_c, gCons_n, gNil_n, gNil_c, gN, dVar, dC, vR, rV, rBin, cBin, bV, bTru, bNot, bAnd, bOr, vAnd, vOr, vNot, rIf, vIf, dNeg, dTup, dLst, dTupS, dLstS, aNil, aCons, aStar, rCall, dCall, dCallK, pick, on1, on2, dLen, i1, i2, dInt, dIsi, dTru, dFld, rCut, oNone, oSome, dCut, iOf, iArg, zip2_e, enu1_e, rng1, rng2, rComp, bYes, cChain, dAdd, dSub, dMul, dFd, dMd, dPw, iI, iC, frz, viewN, viewB, wipeV, toSl, D.items, vDr, iDr, sDrPut, rDrNext, vDct, sNever, L2.atI, dIx, dList, dTuple, dEq, dNe, D.okd, okdL, D.eqb, PyData.eqv, D.py, pyL, dSum, dAll, dAny, L2.ixN, dNotB, dIsB, dIsN, dNotN, D.isNon]
  refine sp_need_below w ps hg _ _ ?_
  refine sp_need_vector w ps hg.g v0 vs hl h0 h1 _ _ ?_
  refine sp_need_vector w ps hg.g u0 us hl2 h02 h12 _ _ ?_
  refine sp_e_of w ps hg _ _ fun A B hAB => ?_
  have hA := hAB.neg hg
  have hB := hAB.b0
  have hB1 := hAB.b1
  have he := hAB.e
  simp [stm, dv, dfS, startD, sCons, sNil, sSetN, sSetB, sOwnN, sOwnB, sIf, sRetB, sRetNone, sRetO, sFor, sAsgN, sAsgB, sParN, sParB, slotR, lfR, sExpr, sAppN, sAppB, augI, gTup_t, gCons_c, gCons_n, gNil_n, gNil_c, gN, dVar, dC, vR, rV, rBin, cBin, bV, bTru, bNot, bAnd, bOr, vAnd, vOr, vNot, rIf, vIf, dNeg, dTup, dLst, dTupS, dLstS, aNil, aCons, aStar, rCall, dCall, dCallK, pick, on1, on2, dLen, i1, i2, dInt, dIsi, dTru, dFld, rCut, oNone, oSome, dCut, iOf, iArg, zip2_e, enu1_e, rng1, rng2, rComp, bYes, cChain, dAdd, dSub, dMul, dFd, dMd, dPw, iI, iC, frz, viewN, viewB, wipeV, toSl, D.items, vDr, iDr, sDrPut, rDrNext, vDct, sNever, L2.atI, dIx, dList, dTuple, dEq, dNe, D.okd, okdL, D.eqb, PyData.eqv, D.py, pyL, dSum, dAll, dAny, L2.ixN, dNotB, dIsB, dIsN, dNotN, D.isNon]
  have ez : zipD (D.int v0 :: vs.map D.int) (D.int u0 :: us.map D.int) = ((v0 :: vs).zip (u0 :: us)).map fun q => .tup [.int q.1, .int q.2] := by
    rw [← List.map_cons, ← List.map_cons, zipD_map]
  rw [ez]
  refine compD_ml (fun q : Int × Int => .tup [.int q.1, .int q.2]) (fun q => .int (q.1 - q.2)) _ _ (fun q hq κ hκ => ?_) (by simp; omega) ?_
  · simp [dfS, startD, sCons, sNil, sSetN, sSetB, sOwnN, sOwnB, sIf, sRetB, sRetNone, sRetO, sFor, sAsgN, sAsgB, sParN, sParB, slotR, lfR, sExpr, sAppN, sAppB, augI, gTup_t, gCons_c, gCons_n, gNil_n, gNil_c, gN, dVar, dC, vR, rV, rBin, cBin, bV, bTru, bNot, bAnd, bOr, vAnd, vOr, vNot, rIf, vIf, dNeg, dTup, dLst, dTupS, dLstS, aNil, aCons, aStar, rCall, dCall, dCallK, pick, on1, on2, dLen, i1, i2, dInt, dIsi, dTru, dFld, rCut, oNone, oSome, dCut, iOf, iArg, zip2_e, enu1_e, rng1, rng2, rComp, bYes, cChain, dAdd, dSub, dMul, dFd, dMd, dPw, iI, iC, frz, viewN, viewB, wipeV, toSl, D.items, vDr, iDr, sDrPut, rDrNext, vDct, sNever, L2.atI, dIx, dList, dTuple, dEq, dNe, D.okd, okdL, D.eqb, PyData.eqv, D.py, pyL, dSum, dAll, dAny, L2.ixN, dNotB, dIsB, dIsN, dNotN, D.isNon]; exact hκ
  have eg : (((v0 :: vs).zip (u0 :: us)).map fun q : Int × Int => D.int (q.1 - q.2)) = D.int (v0 - u0) :: (gp vs us).map D.int := by
    rw [← gp_zip]; simp
  rw [List.nil_append, eg]
  have hgl := gp_len (hl.trans hl2.symm)
  generalize hG : gp vs us = gs at hgl ⊢
  simp [st_p, dfS, startD, sCons, sNil, sSetN, sSetB, sOwnN, sOwnB, sIf, sRetB, sRetNone, sRetO, sFor, sAsgN, sAsgB, sParN, sParB, slotR, lfR, sExpr, sAppN, sAppB, augI, gTup_t, gCons_c, gCons_n, gNil_n, gNil_c, gN, dVar, dC, vR, rV, rBin, cBin, bV, bTru, bNot, bAnd, bOr, vAnd, vOr, vNot, rIf, vIf, dNeg, dTup, dLst, dTupS, dLstS, aNil, aCons, aStar, rCall, dCall, dCallK, pick, on1, on2, dLen, i1, i2, dInt, dIsi, dTru, dFld, rCut, oNone, oSome, dCut, iOf, iArg, zip2_e, enu1_e, rng1, rng2, rComp, bYes, cChain, dAdd, dSub, dMul, dFd, dMd, dPw, iI, iC, frz, viewN, viewB, wipeV, toSl, D.items, vDr, iDr, sDrPut, rDrNext, vDct, sNever, L2.atI, dIx, dList, dTuple, dEq, dNe, D.okd, okdL, D.eqb, PyData.eqv, D.py, pyL, dSum, dAll, dAny, L2.ixN, dNotB, dIsB, dIsN, dNotN, D.isNon]
  refine ⟨ps.map dp, by simp [dps], ?_⟩
  refine forD_ml dp (fun r ρ => ∃ f a b, (∀ p ∈ r, 0 < p.2 ∧ p.2 ≤ 20) ∧ f * prd r = prd ps ∧ ρ = [some (.val (stm w ps)), some (.val (dv (v0 :: vs))), some (.val (dv (u0 :: us))), some (.val (.int A)), some (.val (.int B)), some (.val (.lst (.int (v0 - u0) :: gs.map D.int))), some (.val (.int f)), some (.val (.int 0)), a, b, none, none, none, none, none]) ?_ ?_ _ _ ⟨1, none, none, fun p hp => by have := hg.g.2 p hp; omega, by omega, by simp [stm, dv]⟩
  · rintro p r ρ ⟨f, a, b, hr, hf, rfl⟩ κ hκ
    have hb := hr p List.mem_cons_self
    simp [dp, stm, dv, dfS, startD, sCons, sNil, sSetN, sSetB, sOwnN, sOwnB, sIf, sRetB, sRetNone, sRetO, sFor, sAsgN, sAsgB, sParN, sParB, slotR, lfR, sExpr, sAppN, sAppB, augI, gTup_t, gCons_c, gCons_n, gNil_n, gNil_c, gN, dVar, dC, vR, rV, rBin, cBin, bV, bTru, bNot, bAnd, bOr, vAnd, vOr, vNot, rIf, vIf, dNeg, dTup, dLst, dTupS, dLstS, aNil, aCons, aStar, rCall, dCall, dCallK, pick, on1, on2, dLen, i1, i2, dInt, dIsi, dTru, dFld, rCut, oNone, oSome, dCut, iOf, iArg, zip2_e, enu1_e, rng1, rng2, rComp, bYes, cChain, dAdd, dSub, dMul, dFd, dMd, dPw, iI, iC, frz, viewN, viewB, wipeV, toSl, D.items, vDr, iDr, sDrPut, rDrNext, vDct, sNever, L2.atI, dIx, dList, dTuple, dEq, dNe, D.okd, okdL, D.eqb, PyData.eqv, D.py, pyL, dSum, dAll, dAny, L2.ixN, dNotB, dIsB, dIsN, dNotN, D.isNon]
    exact ⟨mulok _ _ (by omega), hκ _ ⟨f * p.2, some (.val (.int p.1)), some (.val (.int p.2)), fun q hq => hr q (List.mem_cons_of_mem _ hq), by rw [← hf, prd, Int.mul_assoc], by simp [stm, dv]⟩⟩
  · rintro ρ ⟨f, a, b, _, hf, rfl⟩
    have hf' : f = prd ps := by simpa [prd] using hf
    subst hf'
    simp [stm, st_p, dfS, startD, sCons, sNil, sSetN, sSetB, sOwnN, sOwnB, sIf, sRetB, sRetNone, sRetO, sFor, sAsgN, sAsgB, sParN, sParB, slotR, lfR, sExpr, sAppN, sAppB, augI, gTup_t, gCons_c, gCons_n, gNil_n, gNil_c, gN, dVar, dC, vR, rV, rBin, cBin, bV, bTru, bNot, bAnd, bOr, vAnd, vOr, vNot, rIf, vIf, dNeg, dTup, dLst, dTupS, dLstS, aNil, aCons, aStar, rCall, dCall, dCallK, pick, on1, on2, dLen, i1, i2, dInt, dIsi, dTru, dFld, rCut, oNone, oSome, dCut, iOf, iArg, zip2_e, enu1_e, rng1, rng2, rComp, bYes, cChain, dAdd, dSub, dMul, dFd, dMd, dPw, iI, iC, frz, viewN, viewB, wipeV, toSl, D.items, vDr, iDr, sDrPut, rDrNext, vDct, sNever, L2.atI, dIx, dList, dTuple, dEq, dNe, D.okd, okdL, D.eqb, PyData.eqv, D.py, pyL, dSum, dAll, dAny, L2.ixN, dNotB, dIsB, dIsN, dNotN, D.isNon]
    refine ⟨mulok _ _ (by omega), ps.map dp, by simp [dps], ?_⟩
    rw [cut1, zipD_map]
    refine compD_ml (fun q : (Int × Int) × Int => .tup [dp q.1, .int q.2]) (fun q => .int (q.2 * (prd ps / q.1.2))) _ _ (fun q hq κ hκ => ?_) (by simp; omega) ?_
    · have hm := hg.g.2 q.1 (List.of_mem_zip hq).1
      have hd1 : prd ps / q.1.2 ≤ prd ps := Int.ediv_le_self _ (by omega)
      have hd0 : 0 ≤ prd ps / q.1.2 := Int.ediv_nonneg (by omega) (by omega)
      simp [dp, dfS, startD, sCons, sNil, sSetN, sSetB, sOwnN, sOwnB, sIf, sRetB, sRetNone, sRetO, sFor, sAsgN, sAsgB, sParN, sParB, slotR, lfR, sExpr, sAppN, sAppB, augI, gTup_t, gCons_c, gCons_n, gNil_n, gNil_c, gN, dVar, dC, vR, rV, rBin, cBin, bV, bTru, bNot, bAnd, bOr, vAnd, vOr, vNot, rIf, vIf, dNeg, dTup, dLst, dTupS, dLstS, aNil, aCons, aStar, rCall, dCall, dCallK, pick, on1, on2, dLen, i1, i2, dInt, dIsi, dTru, dFld, rCut, oNone, oSome, dCut, iOf, iArg, zip2_e, enu1_e, rng1, rng2, rComp, bYes, cChain, dAdd, dSub, dMul, dFd, dMd, dPw, iI, iC, frz, viewN, viewB, wipeV, toSl, D.items, vDr, iDr, sDrPut, rDrNext, vDct, sNever, L2.atI, dIx, dList, dTuple, dEq, dNe, D.okd, okdL, D.eqb, PyData.eqv, D.py, pyL, dSum, dAll, dAny, L2.ixN, dNotB, dIsB, dIsN, dNotN, D.isNon]
      rw [fdiv_pos _ (by omega)]
      exact ⟨⟨by omega, lg (by omega)⟩, mulok _ _ (by omega), hκ⟩
    · have ets : ((ps.zip gs).map fun q : (Int × Int) × Int => q.2 * (prd ps / q.1.2)).sum = sx (prd ps) gs ps := by
        rw [← sx_sum, ← swz ps gs, List.map_map]; rfl
      have etot : (v0 - u0) * prd ps + sx (prd ps) gs ps = tot ps v0 vs u0 us := by unfold tot; rw [hG]
      simp [ints_map, ets, dfS, startD, sCons, sNil, sSetN, sSetB, sOwnN, sOwnB, sIf, sRetB, sRetNone, sRetO, sFor, sAsgN, sAsgB, sParN, sParB, slotR, lfR, sExpr, sAppN, sAppB, augI, gTup_t, gCons_c, gCons_n, gNil_n, gNil_c, gN, dVar, dC, vR, rV, rBin, cBin, bV, bTru, bNot, bAnd, bOr, vAnd, vOr, vNot, rIf, vIf, dNeg, dTup, dLst, dTupS, dLstS, aNil, aCons, aStar, rCall, dCall, dCallK, pick, on1, on2, dLen, i1, i2, dInt, dIsi, dTru, dFld, rCut, oNone, oSome, dCut, iOf, iArg, zip2_e, enu1_e, rng1, rng2, rComp, bYes, cChain, dAdd, dSub, dMul, dFd, dMd, dPw, iI, iC, frz, viewN, viewB, wipeV, toSl, D.items, vDr, iDr, sDrPut, rDrNext, vDct, sNever, L2.atI, dIx, dList, dTuple, dEq, dNe, D.okd, okdL, D.eqb, PyData.eqv, D.py, pyL, dSum, dAll, dAny, L2.ixN, dNotB, dIsB, dIsN, dNotN, D.isNon]
      rw [etot]
      generalize hT : tot ps v0 vs u0 us = Tt
      have hAP : A * prd ps < 0 := Int.mul_neg_of_neg_of_pos hA.1 hP.1
      have hAPb : -26000000 * 3200000 * 3200000 ≤ A * prd ps := by
        have : -26000000 * 3200000 * prd ps ≤ A * prd ps := Int.mul_le_mul_of_nonneg_right hA.2 (by omega)
        omega
      have ow := occ_tot (w := w) hg.g (v0 := v0) (u0 := u0) hl hl2
      rw [hT, hG] at ow
      refine ⟨mulok _ _ (by omega), mulok _ _ (by omega), by omega, fun hne => ?_, fun heq => ?_⟩
      · refine h false ⟨fun z => by simp at z, fun z => ?_⟩
        obtain ⟨q, hq, _⟩ := ow.mp z
        refine absurd ?_ hne
        have : Tt * B = A * prd ps * q := by rw [hq, he]; grind
        rw [this, Int.mul_fmod_right]
      · have hdiv : Tt * B = A * prd ps * (Tt * B).fdiv (A * prd ps) := by
          have := Int.mul_fdiv_add_fmod (Tt * B) (A * prd ps)
          rw [heq] at this
          omega
        generalize hq : (Tt * B).fdiv (A * prd ps) = q at hdiv ⊢
        have hTq : Tt = num w ps * q := by
          have : B * Tt = B * (num w ps * q) := by
            have : A * prd ps * q = B * (num w ps * q) := by rw [he]; grind
            grind
          exact Int.eq_of_mul_eq_mul_left (by omega) this
        refine ⟨mulok _ _ (by omega), mulok _ _ (by omega), ⟨by omega, lg (by omega)⟩, ps.map dp, by simp [dps], ?_⟩
        rw [zipD_map]
        refine compD_ml (fun q : (Int × Int) × Int => .tup [dp q.1, .int q.2]) (fun z => .bl (decide ((z.2 - q * z.1.1).fmod z.1.2 = 0))) _ _ (fun z hz' κ hκ => ?_) (by simp; omega) ?_
        · have hm := hg.g.2 z.1 (List.of_mem_zip hz').1
          simp [dp, dfS, startD, sCons, sNil, sSetN, sSetB, sOwnN, sOwnB, sIf, sRetB, sRetNone, sRetO, sFor, sAsgN, sAsgB, sParN, sParB, slotR, lfR, sExpr, sAppN, sAppB, augI, gTup_t, gCons_c, gCons_n, gNil_n, gNil_c, gN, dVar, dC, vR, rV, rBin, cBin, bV, bTru, bNot, bAnd, bOr, vAnd, vOr, vNot, rIf, vIf, dNeg, dTup, dLst, dTupS, dLstS, aNil, aCons, aStar, rCall, dCall, dCallK, pick, on1, on2, dLen, i1, i2, dInt, dIsi, dTru, dFld, rCut, oNone, oSome, dCut, iOf, iArg, zip2_e, enu1_e, rng1, rng2, rComp, bYes, cChain, dAdd, dSub, dMul, dFd, dMd, dPw, iI, iC, frz, viewN, viewB, wipeV, toSl, D.items, vDr, iDr, sDrPut, rDrNext, vDct, sNever, L2.atI, dIx, dList, dTuple, dEq, dNe, D.okd, okdL, D.eqb, PyData.eqv, D.py, pyL, dSum, dAll, dAny, L2.ixN, dNotB, dIsB, dIsN, dNotN, D.isNon]
          exact ⟨mulok _ _ (by omega), by omega, hκ⟩
        · simp only [List.nil_append]
          refine ⟨_, bls_map _ _, h _ ?_⟩
          rw [okG_all q hp2, ow]
          constructor
          · intro ok; exact ⟨q, hTq, ok⟩
          · rintro ⟨q', hq', ok⟩
            have : num w ps * q = num w ps * q' := by rw [← hTq, ← hq']
            have := Int.eq_of_mul_eq_mul_left (by omega) this
            rw [this]; exact ok
end K58

set_option Elab.async false
set_option linter.all false
set_option maxRecDepth 100000
set_option maxHeartbeats 4000000
namespace K58
open PySem Dv
theorem sp_count_at (w : Int) (ps : List (Int × Int)) (hg : GW w ps) (v0 : Int) (vs : List Int) (hl : vs.length = ps.length) (h0 : v0.natAbs ≤ 1000000000) (h1 : ∀ x ∈ vs, (x : Int).natAbs ≤ 1000000000) (n : Int) (hn : n.natAbs ≤ 10 ^ 30) (k : Rv → Prop) (E : Exn → Prop) (h : k (.val (.int (cnt w ps v0 vs n)))) : F_count_at [stm w ps, dv (v0 :: vs), .int n] k E := by
  have hw := hg.w0
  have hw1 := hg.w1
  simp [F_count_at, F_need_between, dfS, startD, sCons, sNil, sSetN, sSetB, sOwnN, sOwnB, sIf, sRetB, sRetNone, sRetO, sFor, sAsgN, sAsgB, sParN, sParB, slotR, lfR, sExpr, sAppN, sAppB, augI, gTup_t, gCons_c, gCons_n, gNil_n, gNil_c, gN, dVar, dC, vR, rV, rBin, cBin, bV, bTru, bNot, bAnd, bOr, vAnd, vOr, vNot, rIf, vIf, dNeg, dTup, dLst, dTupS, dLstS, aNil, aCons, aStar, rCall, dCall, dCallK, pick, on1, on2, dLen, i1, i2, dInt, dIsi, dTru, dFld, rCut, oNone, oSome, dCut, iOf, iArg, zip2_e, enu1_e, rng1, rng2, rComp, bYes, cChain, dAdd, dSub, dMul, dFd, dMd, dPw, iI, iC, frz, viewN, viewB, wipeV, toSl, D.items, vDr, iDr, sDrPut, rDrNext, vDct, sNever, L2.atI, dIx, dList, dTuple, dEq, dNe, D.okd, okdL, D.eqb, PyData.eqv, D.py, pyL, dSum, dAll, dAny, L2.ixN, dNotB, dIsB, dIsN, dNotN, D.isNon]
  refine sp_need_below w ps hg _ _ ?_
  refine sp_need_vector w ps hg.g v0 vs hl h0 h1 _ _ ?_
  refine sp_is_between _ _ _ (by simp [D.tn]) _ _ ?_
  rw [show isBtw (-1000000000000000000000000000000) 1000000000000000000000000000000 (.int n) = true from by simp [isBtw]; omega]
  simp [dfS, startD, sCons, sNil, sSetN, sSetB, sOwnN, sOwnB, sIf, sRetB, sRetNone, sRetO, sFor, sAsgN, sAsgB, sParN, sParB, slotR, lfR, sExpr, sAppN, sAppB, augI, gTup_t, gCons_c, gCons_n, gNil_n, gNil_c, gN, dVar, dC, vR, rV, rBin, cBin, bV, bTru, bNot, bAnd, bOr, vAnd, vOr, vNot, rIf, vIf, dNeg, dTup, dLst, dTupS, dLstS, aNil, aCons, aStar, rCall, dCall, dCallK, pick, on1, on2, dLen, i1, i2, dInt, dIsi, dTru, dFld, rCut, oNone, oSome, dCut, iOf, iArg, zip2_e, enu1_e, rng1, rng2, rComp, bYes, cChain, dAdd, dSub, dMul, dFd, dMd, dPw, iI, iC, frz, viewN, viewB, wipeV, toSl, D.items, vDr, iDr, sDrPut, rDrNext, vDct, sNever, L2.atI, dIx, dList, dTuple, dEq, dNe, D.okd, okdL, D.eqb, PyData.eqv, D.py, pyL, dSum, dAll, dAny, L2.ixN, dNotB, dIsB, dIsN, dNotN, D.isNon]
  exact sp_cin w ps hg.g (by omega) v0 vs n _ _ h
/-- all items ints -/
def toI : List D → Option (List Int) := D.ints
theorem vec_ints : ∀ {ds : List D}, ds.all smallD = true → ∃ ns : List Int, ds = ns.map .int ∧ ∀ x ∈ ns, (x : Int).natAbs ≤ 1000000000
  | [], _ => ⟨[], rfl, by simp⟩
  | d :: ds, h => by
    rw [List.all_cons, Bool.and_eq_true] at h
    obtain ⟨ns, e, hn⟩ := vec_ints h.2
    cases d <;> simp [smallD, isBtw] at h
    rename_i i
    refine ⟨i :: ns, by rw [e]; rfl, fun x hx => ?_⟩
    rcases List.mem_cons.mp hx with z | z
    · subst z; omega
    · exact hn x z
theorem isVec_iff {n : Nat} {d : D} (h : isVec n d = true) : ∃ v0 vs, d = dv (v0 :: vs) ∧ vs.length = n ∧ v0.natAbs ≤ 1000000000 ∧ ∀ x ∈ vs, (x : Int).natAbs ≤ 1000000000 := by
  cases d <;> simp [isVec] at h
  rename_i ds
  obtain ⟨ns, e, hn⟩ := vec_ints (ds := ds) (by simpa using h.2)
  cases ns with
  | nil => subst e; simp at h
  | cons v0 vs =>
    refine ⟨v0, vs, by rw [e]; rfl, by rw [e] at h; simpa using h.1, hn _ List.mem_cons_self, fun x hx => hn x (List.mem_cons_of_mem _ hx)⟩
/-- what a thing must be to be asked -/
structure Th (d : D) : Prop where
  tn : d.tn ≠ none
  its : ∀ ds, d = .tup ds → ∀ x ∈ ds, D.tn x ≠ none
  ok : ∀ ds, d = .tup ds → ∀ x ∈ ds, D.okd 59 x = true
  len : ∀ ds, d = .tup ds → ds.length ≤ 100
/-- is it a normal vector? -/
def NrmIs (w : Int) (ps : List (Int × Int)) (d : D) (b : Bool) : Prop := (isVec ps.length d = false ∧ b = false) ∨ ∃ v0 vs p, d = dv (v0 :: vs) ∧ vs.length = ps.length ∧ v0.natAbs ≤ 1000000000 ∧ (∀ x ∈ vs, (x : Int).natAbs ≤ 1000000000) ∧ IsFirst w ps v0 vs p ∧ b = decide (nrm w ps v0 vs p = v0 :: vs)
theorem sp_is_normal (w : Int) (ps : List (Int × Int)) (hg : GW w ps) (hs : spanL w ps ≤ 900) (d : D) (hd : Th d) (k : Rv → Prop) (E : Exn → Prop) (h : ∀ b, NrmIs w ps d b → k (.val (.bl b))) : F_is_normal [stm w ps, d] k E := by
  simp [F_is_normal, dfS, startD, sCons, sNil, sSetN, sSetB, sOwnN, sOwnB, sIf, sRetB, sRetNone, sRetO, sFor, sAsgN, sAsgB, sParN, sParB, slotR, lfR, sExpr, sAppN, sAppB, augI, gTup_t, gCons_c, gCons_n, gNil_n, gNil_c, gN, dVar, dC, vR, rV, rBin, cBin, bV, bTru, bNot, bAnd, bOr, vAnd, vOr, vNot, rIf, vIf, dNeg, dTup, dLst, dTupS, dLstS, aNil, aCons, aStar, rCall, dCall, dCallK, pick, on1, on2, dLen, i1, i2, dInt, dIsi, dTru, dFld, rCut, oNone, oSome, dCut, iOf, iArg, zip2_e, enu1_e, rng1, rng2, rComp, bYes, cChain, dAdd, dSub, dMul, dFd, dMd, dPw, iI, iC, frz, viewN, viewB, wipeV, toSl, D.items, vDr, iDr, sDrPut, rDrNext, vDct, sNever, L2.atI, dIx, dList, dTuple, dEq, dNe, D.okd, okdL, D.eqb, PyData.eqv, D.py, pyL, dSum, dAll, dAny, L2.ixN, dNotB, dIsB, dIsN, dNotN, D.isNon]
  refine sp_need_below w ps hg _ _ ?_
  refine sp_need_span w ps hg hs _ _ ?_
  refine sp_is_vector w ps hg.g d hd.tn hd.its _ _ ?_
  simp [dfS, startD, sCons, sNil, sSetN, sSetB, sOwnN, sOwnB, sIf, sRetB, sRetNone, sRetO, sFor, sAsgN, sAsgB, sParN, sParB, slotR, lfR, sExpr, sAppN, sAppB, augI, gTup_t, gCons_c, gCons_n, gNil_n, gNil_c, gN, dVar, dC, vR, rV, rBin, cBin, bV, bTru, bNot, bAnd, bOr, vAnd, vOr, vNot, rIf, vIf, dNeg, dTup, dLst, dTupS, dLstS, aNil, aCons, aStar, rCall, dCall, dCallK, pick, on1, on2, dLen, i1, i2, dInt, dIsi, dTru, dFld, rCut, oNone, oSome, dCut, iOf, iArg, zip2_e, enu1_e, rng1, rng2, rComp, bYes, cChain, dAdd, dSub, dMul, dFd, dMd, dPw, iI, iC, frz, viewN, viewB, wipeV, toSl, D.items, vDr, iDr, sDrPut, rDrNext, vDct, sNever, L2.atI, dIx, dList, dTuple, dEq, dNe, D.okd, okdL, D.eqb, PyData.eqv, D.py, pyL, dSum, dAll, dAny, L2.ixN, dNotB, dIsB, dIsN, dNotN, D.isNon]
  refine ⟨fun hv => ?_, fun hv => ?_⟩
  · obtain ⟨v0, vs, rfl, hl, h0, h1⟩ := isVec_iff hv
    refine sp_normal_in w ps hg v0 vs hl _ _ fun p hp => ?_
    have e := dv_eqb (nrm w ps v0 vs p) (v0 :: vs)
    have o1 := dv_okd (nrm w ps v0 vs p)
    have o2 := dv_okd (v0 :: vs)
    simp only [dEq]
    refine ⟨⟨o1, o2⟩, ?_⟩
    have z := h (decide (nrm w ps v0 vs p = v0 :: vs)) (.inr ⟨v0, vs, p, rfl, hl, h0, h1, hp, rfl⟩)
    rw [← e] at z
    exact z
  · exact hv ▸ h false (.inl ⟨hv, rfl⟩)
end K58

set_option Elab.async false
set_option linter.all false
set_option maxRecDepth 100000
set_option maxHeartbeats 4000000
namespace K58
open PySem Dv
def badD : D → Bool := fun d => !smallD d
theorem smallD_abs (i : Int) : smallD (.int i) = !decide (1000000000 < iAbs i) := by
  unfold smallD isBtw iAbs
  simp only []
  split
  · by_cases h : 1000000000 < -i
    · rw [decide_eq_true h]; simp; omega
    · rw [decide_eq_false h]; simp; omega
  · by_cases h : 1000000000 < i
    · rw [decide_eq_true h]; simp; omega
    · rw [decide_eq_false h]; simp; omega
theorem okdL_all : ∀ {ds : List D} {n : Nat}, (∀ x ∈ ds, D.okd n x = true) → okdL n ds = true
  | [], _, _ => rfl
  | d :: ds, n, h => by
    simp only [okdL, Bool.and_eq_true]
    exact ⟨h d List.mem_cons_self, okdL_all fun x hx => h x (List.mem_cons_of_mem _ hx)⟩
theorem eqv_nil (ds : List D) : PyData.eqvAll (pyL ds) [] = ds.isEmpty := by cases ds <;> rfl
theorem sp_own_normal (w : Int) (ps : List (Int × Int)) (hg : GW w ps) (d : D) (hd : Th d) (k : Rv → Prop) (E : Exn → Prop) (h : ∀ b, NrmIs w ps d b → k (.val (.bl b))) : F__law_is_own_normal [.int w, dps ps, d] k E := by
  have hz := szl
  have fl : isVec ps.length d = false → k (.val (.bl false)) := fun z => h false (.inl ⟨z, rfl⟩)
  have tp : ∀ ds, d = .tup ds → F__law_is_own_normal [.int w, dps ps, .tup ds] k E := by
    rintro ds rfl
    simp [F__law_is_own_normal, dps, kt, kt1, TsD, D.tn, isiB, dfS, startD, sCons, sNil, sSetN, sSetB, sOwnN, sOwnB, sIf, sRetB, sRetNone, sRetO, sFor, sAsgN, sAsgB, sParN, sParB, slotR, lfR, sExpr, sAppN, sAppB, augI, gTup_t, gCons_c, gCons_n, gNil_n, gNil_c, gN, dVar, dC, vR, rV, rBin, cBin, bV, bTru, bNot, bAnd, bOr, vAnd, vOr, vNot, rIf, vIf, dNeg, dTup, dLst, dTupS, dLstS, aNil, aCons, aStar, rCall, dCall, dCallK, pick, on1, on2, dLen, i1, i2, dInt, dIsi, dTru, dFld, rCut, oNone, oSome, dCut, iOf, iArg, zip2_e, enu1_e, rng1, rng2, rComp, bYes, cChain, dAdd, dSub, dMul, dFd, dMd, dPw, iI, iC, frz, viewN, viewB, wipeV, toSl, D.items, vDr, iDr, sDrPut, rDrNext, vDct, sNever, L2.atI, dIx, dList, dTuple, dEq, dNe, D.okd, okdL, D.eqb, PyData.eqv, D.py, pyL, dSum, dAll, dAny, L2.ixN, dNotB, dIsB, dIsN, dNotN, D.isNon]
    refine ⟨fun hl => ?_, fun hl => ?_⟩
    · refine fl ?_
      unfold isVec
      have : ¬ ds.length = ps.length + 1 := by intro z; apply hl; omega
      simp [this]
    · have hlen := hd.len ds rfl
      have c9 : L2.CPow 10 9 := ⟨by decide, by decide, by decide⟩
      refine compD_flt badD (fun x => x) _ _ (fun x hx κ κ' κ1 h1 h2 => ?_) (by simp; omega) ?_
      · have hx1 := hd.its ds rfl x hx
        cases x <;> simp [D.tn] at hx1 <;> simp [badD, smallD, isBtw, kt, kt1, TsD, D.tn, isiB, dfS, startD, sCons, sNil, sSetN, sSetB, sOwnN, sOwnB, sIf, sRetB, sRetNone, sRetO, sFor, sAsgN, sAsgB, sParN, sParB, slotR, lfR, sExpr, sAppN, sAppB, augI, gTup_t, gCons_c, gCons_n, gNil_n, gNil_c, gN, dVar, dC, vR, rV, rBin, cBin, bV, bTru, bNot, bAnd, bOr, vAnd, vOr, vNot, rIf, vIf, dNeg, dTup, dLst, dTupS, dLstS, aNil, aCons, aStar, rCall, dCall, dCallK, pick, on1, on2, dLen, i1, i2, dInt, dIsi, dTru, dFld, rCut, oNone, oSome, dCut, iOf, iArg, zip2_e, enu1_e, rng1, rng2, rComp, bYes, cChain, dAdd, dSub, dMul, dFd, dMd, dPw, iI, iC, frz, viewN, viewB, wipeV, toSl, D.items, vDr, iDr, sDrPut, rDrNext, vDct, sNever, L2.atI, dIx, dList, dTuple, dEq, dNe, D.okd, okdL, D.eqb, PyData.eqv, D.py, pyL, dSum, dAll, dAny, L2.ixN, dNotB, dIsB, dIsN, dNotN, D.isNon] at h1 h2 ⊢ <;> first | exact h1 | skip
        rename_i i
        refine ⟨c9, fun z => h1 ?_, fun z => h2 ?_ ?_⟩ <;> unfold iAbs at z <;> split at z <;> omega
      · have hk : ∀ ds : List D, [] ++ List.map (fun x : D => x) ds = ds := fun ds => by simp
        rw [hk, eqv_nil]
        have hle : ds.length = ps.length + 1 := by omega
        refine ⟨okdL_all fun x hx => hd.ok ds rfl x ((List.mem_filter.mp hx).1), fun he => ?_, fun he => ?_⟩
        · refine fl ?_
          unfold isVec
          rw [Bool.and_eq_false_iff]
          right
          cases q : ds.all smallD with
          | false => rfl
          | true =>
            have : ds.filter badD = [] := List.filter_eq_nil_iff.mpr fun x hx => by
              have := List.all_eq_true.mp q x hx
              simp [badD, this]
            rw [this] at he
            cases he
        · have hall : ds.all smallD = true := by
            rw [List.isEmpty_iff, List.filter_eq_nil_iff] at he
            refine List.all_eq_true.mpr fun x hx => ?_
            have := he x hx
            simpa [badD] using this
          have hv : isVec ps.length (.tup ds) = true := by simp [isVec, hle, hall]
          obtain ⟨v0, vs, e, hl1, h0, h1⟩ := isVec_iff hv
          rw [e]
          refine sp_law_normal w ps hg v0 vs hl1 _ _ fun p hp => ?_
          have e1 := dv_eqb (nrm w ps v0 vs p) (v0 :: vs)
          have o1 := dv_okd (nrm w ps v0 vs p)
          have z := h (decide (nrm w ps v0 vs p = v0 :: vs)) (.inr ⟨v0, vs, p, e, hl1, h0, h1, hp, rfl⟩)
          rw [← e1] at z
          have e2 : D.tup ds = .tup ((v0 :: vs).map .int) := e
          have e3 : ds = (v0 :: vs).map .int := D.tup.inj e2
          refine ⟨⟨o1, ?_⟩, ?_⟩
          · rw [e3]; exact okdL_ints _ _
          · rw [e3]; exact z
  cases d <;> first | (exact absurd rfl hd.tn) | (exact tp _ rfl) | (simp [F__law_is_own_normal, dps, kt, kt1, TsD, D.tn, isiB, dfS, startD, sCons, sNil, sSetN, sSetB, sOwnN, sOwnB, sIf, sRetB, sRetNone, sRetO, sFor, sAsgN, sAsgB, sParN, sParB, slotR, lfR, sExpr, sAppN, sAppB, augI, gTup_t, gCons_c, gCons_n, gNil_n, gNil_c, gN, dVar, dC, vR, rV, rBin, cBin, bV, bTru, bNot, bAnd, bOr, vAnd, vOr, vNot, rIf, vIf, dNeg, dTup, dLst, dTupS, dLstS, aNil, aCons, aStar, rCall, dCall, dCallK, pick, on1, on2, dLen, i1, i2, dInt, dIsi, dTru, dFld, rCut, oNone, oSome, dCut, iOf, iArg, zip2_e, enu1_e, rng1, rng2, rComp, bYes, cChain, dAdd, dSub, dMul, dFd, dMd, dPw, iI, iC, frz, viewN, viewB, wipeV, toSl, D.items, vDr, iDr, sDrPut, rDrNext, vDct, sNever, L2.atI, dIx, dList, dTuple, dEq, dNe, D.okd, okdL, D.eqb, PyData.eqv, D.py, pyL, dSum, dAll, dAny, L2.ixN, dNotB, dIsB, dIsN, dNotN, D.isNon]; exact fl rfl)
theorem th_dv (v : List Int) (h : v.length ≤ 100) : Th (dv v) := ⟨dv_tn v, dv_tns v, fun ds e x hx => by
  simp [dv] at e
  subst e
  obtain ⟨i, _, rfl⟩ := List.mem_map.mp hx
  simp [D.okd], fun ds e => by
  simp [dv] at e
  subst e
  simpa using h⟩
theorem sp_odd (k : Rv → Prop) (E : Exn → Prop) (h : ∀ d, Th d → k (.val d)) : F__law_odd [.drw] k E := by
  simp [F__law_odd, dfS, startD, sCons, sNil, sSetN, sSetB, sOwnN, sOwnB, sIf, sRetB, sRetNone, sRetO, sFor, sAsgN, sAsgB, sParN, sParB, slotR, lfR, sExpr, sAppN, sAppB, augI, gTup_t, gCons_c, gCons_n, gNil_n, gNil_c, gN, dVar, dC, vR, rV, rBin, cBin, bV, bTru, bNot, bAnd, bOr, vAnd, vOr, vNot, rIf, vIf, dNeg, dTup, dLst, dTupS, dLstS, aNil, aCons, aStar, rCall, dCall, dCallK, pick, on1, on2, dLen, i1, i2, dInt, dIsi, dTru, dFld, rCut, oNone, oSome, dCut, iOf, iArg, zip2_e, enu1_e, rng1, rng2, rComp, bYes, cChain, dAdd, dSub, dMul, dFd, dMd, dPw, iI, iC, frz, viewN, viewB, wipeV, toSl, D.items, vDr, iDr, sDrPut, rDrNext, vDct, sNever, L2.atI, dIx, dList, dTuple, dEq, dNe, D.okd, okdL, D.eqb, PyData.eqv, D.py, pyL, dSum, dAll, dAny, L2.ixN, dNotB, dIsB, dIsN, dNotN, D.isNon]
  refine sp_pick _ _ _ (by simp) (by simp) fun d hd => h d ?_
  simp at hd
  rcases hd with rfl | rfl | rfl | rfl | rfl | rfl | rfl | rfl | rfl | rfl | rfl | rfl <;> exact ⟨by simp [D.tn], fun ds e => by simp at e <;> first | (subst e; simp [D.tn]) | skip, fun ds e => by simp at e <;> first | (subst e; simp [D.okd, okdL]) | skip, fun ds e => by simp at e <;> first | (subst e; simp) | skip⟩
end K58

set_option Elab.async false
set_option linter.all false
set_option maxRecDepth 100000
set_option maxHeartbeats 4000000
namespace K58
open PySem Dv
theorem enuD_map {α : Type} (h : α → D) (xs : List α) : enuD (xs.map h) = xs.zipIdx.map fun q => .tup [.int (q.2 : Nat), h q.1] := by
  unfold enuD
  rw [List.zipIdx_map, List.map_map]
  rfl
def base (t : Int) : List Int → List (Int × Int) → List Int
  | x :: vs, p :: ps => (x + t * p.1) :: base t vs ps
  | _, _ => []
theorem base_zip (t : Int) : ∀ (vs : List Int) (ps : List (Int × Int)), ((vs.zip ps).map fun q => q.1 + t * q.2.1) = base t vs ps
  | [], _ => rfl
  | _ :: _, [] => rfl
  | x :: vs, p :: ps => by simp [base, base_zip t vs ps]
theorem mvd_snoc (t m x : Int) (p : Int × Int) : ∀ {ms vs : List Int} {ps : List (Int × Int)}, ms.length = ps.length → vs.length = ps.length → mvd t (ms ++ [m]) (vs ++ [x]) (ps ++ [p]) = mvd t ms vs ps ++ [x + t * p.1 + m * p.2]
  | [], [], [], _, _ => rfl
  | a :: ms, b :: vs, c :: ps, h1, h2 => by
    simp only [List.cons_append, mvd]
    rw [mvd_snoc t m x p (by simpa using h1) (by simpa using h2)]
  | [], _, _ :: _, h, _ => by simp at h
  | _ :: _, _, [], h, _ => by simp at h
  | _, [], _ :: _, _, h => by simp at h
  | _, _ :: _, [], _, h => by simp at h
theorem sp_moved (w : Int) (ps : List (Int × Int)) (hg : GW w ps) (v0 : Int) (vs : List Int) (hl : vs.length = ps.length) (k : Rv → Prop) (E : Exn → Prop) (h : ∀ (t : Int) (ms : List Int), t.natAbs ≤ 6 → ms.length = ps.length → (∀ m ∈ ms, (m : Int).natAbs ≤ 6) → k (.val (dv ((v0 + t * w - ms.sum) :: mvd t ms vs ps)))) : F__law_moved_vector [.drw, .int w, dps ps, dv (v0 :: vs), .int 6] k E := by
  have hlen := hg.g.1
  have hz := szl
  have hw := hg.w0
  have hw1 := hg.w1
  simp [F__law_moved_vector, sPutB, dfS, startD, sCons, sNil, sSetN, sSetB, sOwnN, sOwnB, sIf, sRetB, sRetNone, sRetO, sFor, sAsgN, sAsgB, sParN, sParB, slotR, lfR, sExpr, sAppN, sAppB, augI, gTup_t, gCons_c, gCons_n, gNil_n, gNil_c, gN, dVar, dC, vR, rV, rBin, cBin, bV, bTru, bNot, bAnd, bOr, vAnd, vOr, vNot, rIf, vIf, dNeg, dTup, dLst, dTupS, dLstS, aNil, aCons, aStar, rCall, dCall, dCallK, pick, on1, on2, dLen, i1, i2, dInt, dIsi, dTru, dFld, rCut, oNone, oSome, dCut, iOf, iArg, zip2_e, enu1_e, rng1, rng2, rComp, bYes, cChain, dAdd, dSub, dMul, dFd, dMd, dPw, iI, iC, frz, viewN, viewB, wipeV, toSl, D.items, vDr, iDr, sDrPut, rDrNext, vDct, sNever, L2.atI, dIx, dList, dTuple, dEq, dNe, D.okd, okdL, D.eqb, PyData.eqv, D.py, pyL, dSum, dAll, dAny, L2.ixN, dNotB, dIsB, dIsN, dNotN, D.isNon]
  refine ⟨mulok _ _ (by decide), sp_take _ _ _ (by omega) (lg (by omega)) fun i hi hi2 => ?_⟩
  simp [dv_eq, dps, dfS, startD, sCons, sNil, sSetN, sSetB, sOwnN, sOwnB, sIf, sRetB, sRetNone, sRetO, sFor, sAsgN, sAsgB, sParN, sParB, slotR, lfR, sExpr, sAppN, sAppB, augI, gTup_t, gCons_c, gCons_n, gNil_n, gNil_c, gN, dVar, dC, vR, rV, rBin, cBin, bV, bTru, bNot, bAnd, bOr, vAnd, vOr, vNot, rIf, vIf, dNeg, dTup, dLst, dTupS, dLstS, aNil, aCons, aStar, rCall, dCall, dCallK, pick, on1, on2, dLen, i1, i2, dInt, dIsi, dTru, dFld, rCut, oNone, oSome, dCut, iOf, iArg, zip2_e, enu1_e, rng1, rng2, rComp, bYes, cChain, dAdd, dSub, dMul, dFd, dMd, dPw, iI, iC, frz, viewN, viewB, wipeV, toSl, D.items, vDr, iDr, sDrPut, rDrNext, vDct, sNever, L2.atI, dIx, dList, dTuple, dEq, dNe, D.okd, okdL, D.eqb, PyData.eqv, D.py, pyL, dSum, dAll, dAny, L2.ixN, dNotB, dIsB, dIsN, dNotN, D.isNon]
  refine ⟨mulok _ _ (by omega), ?_⟩
  rw [cut1, zipD_map]
  generalize ht : i - 6 = t
  refine compD_ml (fun q : Int × Int × Int => .tup [.int q.1, dp q.2]) (fun q => .int (q.1 + t * q.2.1)) _ _ (fun q hq κ hκ => ?_) (by simp; omega) ?_
  · have hm := hg.g.2 q.2 (List.of_mem_zip hq).2
    simp [dp, dfS, startD, sCons, sNil, sSetN, sSetB, sOwnN, sOwnB, sIf, sRetB, sRetNone, sRetO, sFor, sAsgN, sAsgB, sParN, sParB, slotR, lfR, sExpr, sAppN, sAppB, augI, gTup_t, gCons_c, gCons_n, gNil_n, gNil_c, gN, dVar, dC, vR, rV, rBin, cBin, bV, bTru, bNot, bAnd, bOr, vAnd, vOr, vNot, rIf, vIf, dNeg, dTup, dLst, dTupS, dLstS, aNil, aCons, aStar, rCall, dCall, dCallK, pick, on1, on2, dLen, i1, i2, dInt, dIsi, dTru, dFld, rCut, oNone, oSome, dCut, iOf, iArg, zip2_e, enu1_e, rng1, rng2, rComp, bYes, cChain, dAdd, dSub, dMul, dFd, dMd, dPw, iI, iC, frz, viewN, viewB, wipeV, toSl, D.items, vDr, iDr, sDrPut, rDrNext, vDct, sNever, L2.atI, dIx, dList, dTuple, dEq, dNe, D.okd, okdL, D.eqb, PyData.eqv, D.py, pyL, dSum, dAll, dAny, L2.ixN, dNotB, dIsB, dIsN, dNotN, D.isNon]
    exact ⟨mulok _ _ (by omega), hκ⟩
  have eb : ((vs.zip ps).map fun q : Int × Int × Int => D.int (q.1 + t * q.2.1)) = (base t vs ps).map D.int := by rw [← base_zip, List.map_map]; rfl
  rw [List.nil_append, eb]
  simp [dfS, startD, sCons, sNil, sSetN, sSetB, sOwnN, sOwnB, sIf, sRetB, sRetNone, sRetO, sFor, sAsgN, sAsgB, sParN, sParB, slotR, lfR, sExpr, sAppN, sAppB, augI, gTup_t, gCons_c, gCons_n, gNil_n, gNil_c, gN, dVar, dC, vR, rV, rBin, cBin, bV, bTru, bNot, bAnd, bOr, vAnd, vOr, vNot, rIf, vIf, dNeg, dTup, dLst, dTupS, dLstS, aNil, aCons, aStar, rCall, dCall, dCallK, pick, on1, on2, dLen, i1, i2, dInt, dIsi, dTru, dFld, rCut, oNone, oSome, dCut, iOf, iArg, zip2_e, enu1_e, rng1, rng2, rComp, bYes, cChain, dAdd, dSub, dMul, dFd, dMd, dPw, iI, iC, frz, viewN, viewB, wipeV, toSl, D.items, vDr, iDr, sDrPut, rDrNext, vDct, sNever, L2.atI, dIx, dList, dTuple, dEq, dNe, D.okd, okdL, D.eqb, PyData.eqv, D.py, pyL, dSum, dAll, dAny, L2.ixN, dNotB, dIsB, dIsN, dNotN, D.isNon]
  have bl : (base t vs ps).length = ps.length := by rw [← base_zip, List.length_map, List.length_zip, hl]; omega
  refine ⟨by omega, ?_⟩
  rw [enuD_map]
  refine forD_ml (fun q : (Int × Int) × Nat => .tup [.int (q.2 : Nat), dp q.1]) (fun r ρ => ∃ psa psb vsa vsb ms a b c d, ps = psa ++ psb ∧ vs = vsa ++ vsb ∧ vsa.length = psa.length ∧ vsb.length = psb.length ∧ ms.length = psa.length ∧ (∀ m ∈ ms, (m : Int).natAbs ≤ 6) ∧ r = psb.zipIdx psa.length ∧
    ρ = [some (.val .drw), some (.val (.int w)), some (.val (.tup (ps.map dp))), some (.val (.tup (.int v0 :: vs.map .int))), some (.val (.int 6)), some (.val (.int t)), a, b, some (.own (((v0 + t * w - ms.sum) :: (mvd t ms vsa psa ++ base t vsb psb)).map D.int)), c, d, none, none]) ?_ ?_ _ _ ⟨[], ps, [], vs, [], none, none, none, none, rfl, rfl, rfl, hl, rfl, by simp, rfl, by simp [mvd]⟩
  · rintro q r ρ ⟨psa, psb, vsa, vsb, ms, a, b, c, d, hp, hv, l1, l2, l3, hm, hr, rfl⟩ κ hκ
    cases psb with
    | nil => simp at hr
    | cons p psb =>
      cases vsb with
      | nil => simp at l2
      | cons x vsb =>
        rw [List.zipIdx_cons] at hr
        obtain ⟨rfl, rfl⟩ := List.cons.inj hr
        have hpg := hg.g.2 p (by rw [hp]; simp)
        have hml := mvd_len t l3 l1
        simp [dp, sPutB, dfS, startD, sCons, sNil, sSetN, sSetB, sOwnN, sOwnB, sIf, sRetB, sRetNone, sRetO, sFor, sAsgN, sAsgB, sParN, sParB, slotR, lfR, sExpr, sAppN, sAppB, augI, gTup_t, gCons_c, gCons_n, gNil_n, gNil_c, gN, dVar, dC, vR, rV, rBin, cBin, bV, bTru, bNot, bAnd, bOr, vAnd, vOr, vNot, rIf, vIf, dNeg, dTup, dLst, dTupS, dLstS, aNil, aCons, aStar, rCall, dCall, dCallK, pick, on1, on2, dLen, i1, i2, dInt, dIsi, dTru, dFld, rCut, oNone, oSome, dCut, iOf, iArg, zip2_e, enu1_e, rng1, rng2, rComp, bYes, cChain, dAdd, dSub, dMul, dFd, dMd, dPw, iI, iC, frz, viewN, viewB, wipeV, toSl, D.items, vDr, iDr, sDrPut, rDrNext, vDct, sNever, L2.atI, dIx, dList, dTuple, dEq, dNe, D.okd, okdL, D.eqb, PyData.eqv, D.py, pyL, dSum, dAll, dAny, dNotB, dIsB, dIsN, dNotN, D.isNon]
        refine ⟨mulok _ _ (by decide), sp_take _ _ _ (by omega) (lg (by omega)) fun j hj hj2 => ?_⟩
        generalize hmj : j - 6 = m
        simp only [hmj]
        simp [base, dfS, startD, sCons, sNil, sSetN, sSetB, sOwnN, sOwnB, sIf, sRetB, sRetNone, sRetO, sFor, sAsgN, sAsgB, sParN, sParB, slotR, lfR, sExpr, sAppN, sAppB, augI, gTup_t, gCons_c, gCons_n, gNil_n, gNil_c, gN, dVar, dC, vR, rV, rBin, cBin, bV, bTru, bNot, bAnd, bOr, vAnd, vOr, vNot, rIf, vIf, dNeg, dTup, dLst, dTupS, dLstS, aNil, aCons, aStar, rCall, dCall, dCallK, pick, on1, on2, dLen, i1, i2, dInt, dIsi, dTru, dFld, rCut, oNone, oSome, dCut, iOf, iArg, zip2_e, enu1_e, rng1, rng2, rComp, bYes, cChain, dAdd, dSub, dMul, dFd, dMd, dPw, iI, iC, frz, viewN, viewB, wipeV, toSl, D.items, vDr, iDr, sDrPut, rDrNext, vDct, sNever, L2.atI, dIx, dList, dTuple, dEq, dNe, D.okd, okdL, D.eqb, PyData.eqv, D.py, pyL, dSum, dAll, dAny, dNotB, dIsB, dIsN, dNotN, D.isNon]
        have hA : (List.map D.int (mvd t ms vsa psa)).length = psa.length := by simp [hml]
        have i0 : L2.ixN ((mvd t ms vsa psa).length + ((base t vsb psb).length + 1) + 1) 0 = some 0 := ix_nat (by omega) (by omega)
        have i1 : L2.ixN ((mvd t ms vsa psa).length + ((base t vsb psb).length + 1) + 1) ((psa.length : Int) + 1) = some (psa.length + 1) := by
          rw [ix_nat (by omega) (by omega)]
          congr 1
        simp only [i0, i1]
        refine ⟨.int (v0 + t * w - ms.sum), rfl, ?_⟩
        refine ⟨rfl, 0, rfl, .int (x + t * p.1), ?_, mulok _ _ (by omega), rfl, psa.length + 1, rfl, ?_⟩
        · show (_ :: _)[psa.length + 1]? = _
          rw [List.getElem?_cons_succ, List.getElem?_append_right (by omega), hA]
          simp
        · have est : (D.int (v0 + t * w - ms.sum - m) :: (List.map D.int (mvd t ms vsa psa) ++ D.int (x + t * p.fst) :: List.map D.int (base t vsb psb))).set (psa.length + 1) (D.int (x + t * p.1 + m * p.2)) = D.int (v0 + t * w - ms.sum - m) :: (List.map D.int (mvd t ms vsa psa) ++ D.int (x + t * p.1 + m * p.2) :: List.map D.int (base t vsb psb)) := by
            rw [List.set_cons_succ, List.set_append_right _ _ (by omega), hA]
            simp
          show κ [_, _, _, _, _, _, _, _, some (Slot.own ((D.int (v0 + t * w - ms.sum - m) :: (List.map D.int (mvd t ms vsa psa) ++ D.int (x + t * p.fst) :: List.map D.int (base t vsb psb))).set (psa.length + 1) (D.int (x + t * p.1 + m * p.2)))), _, _, _, _]
          rw [est]
          refine hκ _ ⟨psa ++ [p], psb, vsa ++ [x], vsb, ms ++ [m], some (.val (.int p.1)), some (.val (.int p.2)), some (.val (.int (psa.length : Int))), some (.val (.int m)), by simp [hp], by simp [hv], by simp [l1], by simpa using l2, by simp [l3], ?_, by simp, ?_⟩
          · intro z hz
            rcases List.mem_append.mp hz with q | q
            · exact hm z q
            · rw [List.mem_singleton] at q; omega
          · have e1 : v0 + t * w - (ms ++ [m]).sum = v0 + t * w - ms.sum - m := by simp; omega
            rw [mvd_snoc t m x p l3 l1, e1]
            simp
  · rintro ρ ⟨psa, psb, vsa, vsb, ms, a, b, c, d, hp, hv, l1, l2, l3, hm, hr, rfl⟩
    have : psb = [] := by
      cases psb with
      | nil => rfl
      | cons _ _ => rw [List.zipIdx_cons] at hr; cases hr
    subst this
    have : vsb = [] := by
      cases vsb with
      | nil => rfl
      | cons _ _ => simp at l2
    subst this
    rw [List.append_nil] at hp hv
    subst hp; subst hv
    simp [base, dfS, startD, sCons, sNil, sSetN, sSetB, sOwnN, sOwnB, sIf, sRetB, sRetNone, sRetO, sFor, sAsgN, sAsgB, sParN, sParB, slotR, lfR, sExpr, sAppN, sAppB, augI, gTup_t, gCons_c, gCons_n, gNil_n, gNil_c, gN, dVar, dC, vR, rV, rBin, cBin, bV, bTru, bNot, bAnd, bOr, vAnd, vOr, vNot, rIf, vIf, dNeg, dTup, dLst, dTupS, dLstS, aNil, aCons, aStar, rCall, dCall, dCallK, pick, on1, on2, dLen, i1, i2, dInt, dIsi, dTru, dFld, rCut, oNone, oSome, dCut, iOf, iArg, zip2_e, enu1_e, rng1, rng2, rComp, bYes, cChain, dAdd, dSub, dMul, dFd, dMd, dPw, iI, iC, frz, viewN, viewB, wipeV, toSl, D.items, vDr, iDr, sDrPut, rDrNext, vDct, sNever, L2.atI, dIx, dList, dTuple, dEq, dNe, D.okd, okdL, D.eqb, PyData.eqv, D.py, pyL, dSum, dAll, dAny, L2.ixN, dNotB, dIsB, dIsN, dNotN, D.isNon]
    have := h t ms (by omega) l3 hm
    simpa [dv] using this
end K58

set_option Elab.async false
set_option linter.all false
set_option maxRecDepth 100000
set_option maxHeartbeats 8000000
namespace K58
open PySem Dv
theorem cs_mono (p : Int) : ∀ {vs : List Int} {ps : List (Int × Int)}, (∀ q ∈ ps, 0 < q.1 ∧ 0 < q.2) → cs p vs ps ≤ cs (p - 1) vs ps
  | [], _, _ => by simp [cs]
  | _ :: _, [], _ => by simp [cs]
  | x :: vs, q :: ps, h => by
    have hb := h q List.mem_cons_self
    have ih := cs_mono p (vs := vs) (ps := ps) fun z hz => h z (List.mem_cons_of_mem _ hz)
    simp only [cs]
    have : (x - p * q.1) / q.2 ≤ (x - (p - 1) * q.1) / q.2 := Int.ediv_le_ediv hb.2 (by rw [Int.sub_mul]; omega)
    omega
theorem md_small (p : Int) : ∀ {vs : List Int} {ps : List (Int × Int)}, (∀ q ∈ ps, 0 < q.2 ∧ q.2 ≤ 20) → ∀ x ∈ md p vs ps, 0 ≤ x ∧ x < 20
  | [], _, _ => by simp [md]
  | _ :: _, [], _ => by simp [md]
  | y :: vs, q :: ps, h => by
    intro x hx
    have hb := h q List.mem_cons_self
    simp only [md, List.mem_cons] at hx
    rcases hx with rfl | hx
    · exact ⟨Int.emod_nonneg _ (by omega), by have := Int.emod_lt_of_pos (y - p * q.1) hb.1; omega⟩
    · exact md_small p (fun z hz => h z (List.mem_cons_of_mem _ hz)) x hx
/-- a normal vector is small -/
theorem nrm_small {w : Int} {ps : List (Int × Int)} (hg : GW w ps) {v0 : Int} {vs : List Int} {p : Int} (hp : IsFirst w ps v0 vs p) : ∀ x ∈ nrm w ps v0 vs p, 0 ≤ x ∧ x < 20 := by
  intro x hx
  unfold nrm at hx
  rcases List.mem_cons.mp hx with rfl | hx
  · have h1 := hp.1
    have h2 := hp.2 (p - 1) (by omega)
    have h3 := cs_mono p (vs := vs) (ps := ps) fun q hq => ⟨(hg.g.2 q hq).1, by have := hg.g.2 q hq; omega⟩
    have h0 := hg.w0
    unfold cnt at h1 h2 ⊢
    have : w * p = w * (p - 1) + w := by rw [Int.mul_sub]; omega
    omega
  · exact md_small p (fun q hq => by have := hg.g.2 q hq; omega) x hx
theorem nrm_len {w : Int} {ps : List (Int × Int)} {v0 : Int} {vs : List Int} (hl : vs.length = ps.length) (p : Int) : (nrm w ps v0 vs p).length = ps.length + 1 := by
  unfold nrm
  rw [List.length_cons, md_len p hl]
theorem small_log {x : Int} (h : 0 ≤ x ∧ x < 20) : x.natAbs.log2 < 1920 := by
  have : x.natAbs < 2 ^ 20 := by omega
  by_cases h0 : x.natAbs = 0
  · rw [h0]; decide
  · have := (Nat.log2_lt h0).mpr this
    omega
/-- what stands through a turn of the law -/
structure Tn (w : Int) (ps : List (Int × Int)) (m v0 : Int) (vs : List Int) (p : Int) : Prop where
  g : GW w ps
  s : spanL w ps ≤ 900
  l : vs.length = ps.length
  h0 : v0.natAbs ≤ m
  h1 : ∀ x ∈ vs, (x : Int).natAbs ≤ m
  m0 : m = 3 ∨ m = 30 ∨ m = 1000000000
  f : IsFirst w ps v0 vs p
theorem mvd_small {t : Int} (ht : t.natAbs ≤ 6) {m : Int} : ∀ {ms vs : List Int} {ps : List (Int × Int)}, (∀ q ∈ ps, 0 < q.1 ∧ q.1 < q.2 ∧ q.2 ≤ 20) → (∀ x ∈ ms, (x : Int).natAbs ≤ 6) → (∀ x ∈ vs, (x : Int).natAbs ≤ m) → ∀ x ∈ mvd t ms vs ps, (x : Int).natAbs ≤ m + 240
  | [], _, _, _, _, _ => by simp [mvd]
  | _ :: _, [], _, _, _, _ => by simp [mvd]
  | _ :: _, _ :: _, [], _, _, _ => by simp [mvd]
  | a :: ms, y :: vs, q :: ps, h, h1, h2 => by
    intro x hx
    have hb := h q List.mem_cons_self
    have ha := h1 a List.mem_cons_self
    have hy := h2 y List.mem_cons_self
    simp only [mvd, List.mem_cons] at hx
    rcases hx with rfl | hx
    · have b1 : t * q.1 ≤ 6 * 20 := by
        have : t * q.1 ≤ 6 * q.1 := Int.mul_le_mul_of_nonneg_right (by omega) (by omega)
        omega
      have b2 : -(6 * 20) ≤ t * q.1 := by
        have : -6 * q.1 ≤ t * q.1 := Int.mul_le_mul_of_nonneg_right (by omega) (by omega)
        omega
      have b3 : a * q.2 ≤ 6 * 20 := by
        have : a * q.2 ≤ 6 * q.2 := Int.mul_le_mul_of_nonneg_right (by omega) (by omega)
        omega
      have b4 : -(6 * 20) ≤ a * q.2 := by
        have : -6 * q.2 ≤ a * q.2 := Int.mul_le_mul_of_nonneg_right (by omega) (by omega)
        omega
      omega
    · exact mvd_small ht (fun z hz => h z (List.mem_cons_of_mem _ hz)) (fun z hz => h1 z (List.mem_cons_of_mem _ hz)) (fun z hz => h2 z (List.mem_cons_of_mem _ hz)) x hx
theorem sum_small : ∀ {ms : List Int}, (∀ x ∈ ms, (x : Int).natAbs ≤ 6) → ms.sum.natAbs ≤ 6 * ms.length
  | [], _ => by simp
  | a :: ms, h => by
    have ha := h a List.mem_cons_self
    have ih := sum_small (ms := ms) fun z hz => h z (List.mem_cons_of_mem _ hz)
    simp only [List.sum_cons, List.length_cons]
    omega
theorem sCons_seq {f g : DS} {ρ : Sl} {k : Ks} {E : Exn → Prop} (Mid : Sl → Prop) (h1 : ∀ κ : Sl → Prop, (∀ ρ', Mid ρ' → κ ρ') → f ρ ⟨κ, k.rt, k.bk, k.ct⟩ E) (h2 : ∀ ρ', Mid ρ' → g ρ' k E) : sCons f g ρ k E := h1 _ h2
/-- the slots of the law: what stands for good, then the rest -/
def sl (ns : List Int) (a2 a3 a4 a5 a6 a7 a8 a9 a10 a11 a12 a13 a14 a15 a16 a17 a18 : Option Slot) : Sl := [some (.val (.ro (ns.map .int))), some (.val .drw), a2, a3, a4, a5, a6, a7, a8, a9, a10, a11, a12, a13, a14, a15, a16, a17, a18]
def Mid1 (ns : List Int) (w : Int) (ps : List (Int × Int)) : Sl → Prop := fun ρ => ∃ a2 a5 a6 a7 a8 a9 a10 a11 a12 a13 a14 a15 a16 a17 a18, ρ = sl ns a2 (some (.val (.int w))) (some (.val (dps ps))) a5 a6 a7 a8 a9 a10 a11 a12 a13 a14 a15 a16 a17 a18
def Mid4 (ns : List Int) (w : Int) (ps : List (Int × Int)) (m v0 : Int) (vs : List Int) (p : Int) : Sl → Prop := fun ρ => ∃ a2 a9 a10 a11 a12 a13 a14 a15 a16 a17 a18, ρ = sl ns a2 (some (.val (.int w))) (some (.val (dps ps))) (some (.val (stm w ps))) (some (.val (.int m))) (some (.val (dv (v0 :: vs)))) (some (.val (dv (nrm w ps v0 vs p)))) a9 a10 a11 a12 a13 a14 a15 a16 a17 a18
end K58

set_option Elab.async false
set_option linter.all false
set_option maxRecDepth 100000
set_option maxHeartbeats 8000000
namespace K58
open PySem Dv
theorem sNil_k {ρ : Sl} {k : Ks} {E : Exn → Prop} (h : k.nx ρ) : sNil ρ k E := h
theorem ixN_last (n : Nat) : L2.ixN (n + 1) (-1) = some n := by
  unfold L2.ixN
  simp
  omega
theorem dv_inj {a b : List Int} (h : dv a = dv b) : a = b := by
  simp only [dv, D.tup.injEq] at h
  exact (List.map_inj_right (fun x y e => by simpa using e)).mp h
theorem nrmIs_uniq {w : Int} {ps : List (Int × Int)} {d : D} {b b' : Bool} (h : NrmIs w ps d b) (h' : NrmIs w ps d b') : b = b' := by
  rcases h with ⟨h1, h2⟩ | ⟨v0, vs, p, rfl, hl, h0, h1, hp, hb⟩
  · rcases h' with ⟨_, h3⟩ | ⟨v0, vs, p, rfl, hl, h0, h1', hp, hb⟩
    · rw [h2, h3]
    · rw [vec_ok ps v0 vs hl h0 h1'] at h1; cases h1
  · rcases h' with ⟨h3, _⟩ | ⟨u0, us, q, e, _, _, _, hq, hb'⟩
    · rw [vec_ok ps v0 vs hl h0 h1] at h3; cases h3
    · obtain ⟨rfl, rfl⟩ := List.cons.inj (dv_inj e)
      rw [first_uniq hp hq] at hb
      rw [hb, hb']
theorem th_tup {ds : List D} (h : ∀ x ∈ ds, D.tn x ≠ none ∧ D.okd 59 x = true) (hl : ds.length ≤ 100) : Th (.tup ds) :=
  ⟨by simp [D.tn], fun es e x hx => by cases e; exact (h x hx).1, fun es e x hx => by cases e; exact (h x hx).2, fun es e => by cases e; exact hl⟩
theorem mvd_zip : ∀ {vs : List Int} {ps : List (Int × Int)}, (vs.zip ps).map (fun q => q.1 - q.2.1) = mvd (-1) (List.replicate ps.length 0) vs ps
  | [], ps => by cases ps <;> simp [mvd, List.replicate]
  | _ :: _, [] => by simp [mvd]
  | x :: vs, p :: ps => by
    simp only [List.zip_cons_cons, List.map_cons, List.length_cons, List.replicate_succ, mvd]
    rw [mvd_zip]
    congr 1
    omega
theorem sum_rep0 : ∀ n : Nat, (List.replicate n (0 : Int)).sum = 0
  | 0 => rfl
  | n + 1 => by rw [List.replicate_succ, List.sum_cons, sum_rep0 n]; rfl
theorem th_lst (ds : List D) : Th (.lst ds) := ⟨by simp [D.tn], fun _ e => (nomatch e), fun _ e => (nomatch e), fun _ e => (nomatch e)⟩
theorem i_ok (i : Int) : D.tn (.int i) ≠ none ∧ D.okd 59 (.int i) = true := ⟨by simp [D.tn], by simp [D.okd]⟩
theorem is_ok (l : List Int) : ∀ x ∈ l.map D.int, D.tn x ≠ none ∧ D.okd 59 x = true := fun x hx => by
  obtain ⟨i, _, rfl⟩ := List.mem_map.mp hx
  exact i_ok i
theorem law_pure : LawOk := by
  intro ns hl
  have c9 : L2.CPow 10 9 := ⟨by decide, by decide, by decide⟩
  unfold b_law
  refine sCons_seq (fun ρ => True) (fun κ hκ => ?_) (fun ρ _ => by simp [dfS, startD, sCons, sNil, sSetN, sSetB, sOwnN, sOwnB, sIf, sRetB, sRetNone, sRetO, sFor, sAsgN, sAsgB, sParN, sParB, slotR, lfR, sExpr, sAppN, sAppB, augI, gTup_t, gCons_c, gCons_n, gNil_n, gNil_c, gN, dVar, dC, vR, rV, rBin, cBin, bV, bTru, bNot, bAnd, bOr, vAnd, vOr, vNot, rIf, vIf, dNeg, dTup, dLst, dTupS, dLstS, aNil, aCons, aStar, rCall, dCall, dCallK, pick, on1, on2, dLen, i1, i2, dInt, dIsi, dTru, dFld, rCut, oNone, oSome, dCut, iOf, iArg, zip2_e, enu1_e, rng1, rng2, rComp, bYes, cChain, dAdd, dSub, dMul, dFd, dMd, dPw, iI, iC, frz, viewN, viewB, wipeV, toSl, D.items, vDr, iDr, sDrPut, rDrNext, vDct, sNever, L2.atI, dIx, dList, dTuple, dEq, dNe, D.okd, okdL, D.eqb, PyData.eqv, D.py, pyL, dSum, dAll, dAny, L2.ixN, dNotB, dIsB, dIsN, dNotN, D.isNon])
  simp [List.replicate, iArg, rng1, dfS, startD, sCons, sNil, sSetN, sSetB, sOwnN, sOwnB, sIf, sRetB, sRetNone, sRetO, sFor, sAsgN, sAsgB, sParN, sParB, slotR, lfR, sExpr, sAppN, sAppB, augI, gTup_t, gCons_c, gCons_n, gNil_n, gNil_c, gN, dVar, dC, vR, rV, rBin, cBin, bV, bTru, bNot, bAnd, bOr, vAnd, vOr, vNot, rIf, vIf, dNeg, dTup, dLst, dTupS, dLstS, aNil, aCons, aStar, rCall, dCall, dCallK, pick, on1, on2, dLen, i1, i2, dInt, dIsi, dTru, dFld, rCut, oNone, oSome, dCut, iOf, iArg, zip2_e, enu1_e, rng1, rng2, rComp, bYes, cChain, dAdd, dSub, dMul, dFd, dMd, dPw, iI, iC, frz, viewN, viewB, wipeV, toSl, D.items, vDr, iDr, sDrPut, rDrNext, vDct, sNever, L2.atI, dIx, dList, dTuple, dEq, dNe, D.okd, okdL, D.eqb, PyData.eqv, D.py, pyL, dSum, dAll, dAny, L2.ixN, dNotB, dIsB, dIsN, dNotN, D.isNon]
  refine ⟨by unfold iMin; split <;> omega, ?_⟩
  refine forD_inv (fun _ ρ => ∃ a2 a3 a4 a5 a6 a7 a8 a9 a10 a11 a12 a13 a14 a15 a16 a17 a18, ρ = sl ns a2 a3 a4 a5 a6 a7 a8 a9 a10 a11 a12 a13 a14 a15 a16 a17 a18) ?_ (fun ρ _ => hκ ρ trivial) _ _ ⟨_, _, _, _, _, _, _, _, _, _, _, _, _, _, _, _, _, rfl⟩
  rintro d r ρ ⟨a2, a3, a4, a5, a6, a7, a8, a9, a10, a11, a12, a13, a14, a15, a16, a17, a18, rfl⟩ κ1 hκ1
  show sCons _ _ (sl ns (some (.val d)) a3 a4 a5 a6 a7 a8 a9 a10 a11 a12 a13 a14 a15 a16 a17 a18) _ _
  -- whole, pairs = ..
  refine sCons_seq (fun ρ => ∃ w ps, GW w ps ∧ spanL w ps ≤ 900 ∧ Mid1 ns w ps ρ) (fun κ hκ => ?_) ?_
  · simp [sl, dfS, startD, sCons, sNil, sSetN, sSetB, sOwnN, sOwnB, sIf, sRetB, sRetNone, sRetO, sFor, sAsgN, sAsgB, sParN, sParB, slotR, lfR, sExpr, sAppN, sAppB, augI, gTup_t, gCons_c, gCons_n, gNil_n, gNil_c, gN, dVar, dC, vR, rV, rBin, cBin, bV, bTru, bNot, bAnd, bOr, vAnd, vOr, vNot, rIf, vIf, dNeg, dTup, dLst, dTupS, dLstS, aNil, aCons, aStar, rCall, dCall, dCallK, pick, on1, on2, dLen, i1, i2, dInt, dIsi, dTru, dFld, rCut, oNone, oSome, dCut, iOf, iArg, zip2_e, enu1_e, rng1, rng2, rComp, bYes, cChain, dAdd, dSub, dMul, dFd, dMd, dPw, iI, iC, frz, viewN, viewB, wipeV, toSl, D.items, vDr, iDr, sDrPut, rDrNext, vDct, sNever, L2.atI, dIx, dList, dTuple, dEq, dNe, D.okd, okdL, D.eqb, PyData.eqv, D.py, pyL, dSum, dAll, dAny, L2.ixN, dNotB, dIsB, dIsN, dNotN, D.isNon]
    refine sp_pick _ _ _ (by simp) (by simp) fun e he => ?_
    obtain ⟨m, rfl, hm, hm2⟩ : ∃ m : Int, e = .int m ∧ 3 ≤ m ∧ m ≤ 20 := by
      simp at he
      rcases he with rfl | rfl | rfl <;> exact ⟨_, rfl, by omega, by omega⟩
    refine sp_narrow m hm hm2 _ _ fun w ps hg hs => ?_
    simp [dfS, startD, sCons, sNil, sSetN, sSetB, sOwnN, sOwnB, sIf, sRetB, sRetNone, sRetO, sFor, sAsgN, sAsgB, sParN, sParB, slotR, lfR, sExpr, sAppN, sAppB, augI, gTup_t, gCons_c, gCons_n, gNil_n, gNil_c, gN, dVar, dC, vR, rV, rBin, cBin, bV, bTru, bNot, bAnd, bOr, vAnd, vOr, vNot, rIf, vIf, dNeg, dTup, dLst, dTupS, dLstS, aNil, aCons, aStar, rCall, dCall, dCallK, pick, on1, on2, dLen, i1, i2, dInt, dIsi, dTru, dFld, rCut, oNone, oSome, dCut, iOf, iArg, zip2_e, enu1_e, rng1, rng2, rComp, bYes, cChain, dAdd, dSub, dMul, dFd, dMd, dPw, iI, iC, frz, viewN, viewB, wipeV, toSl, D.items, vDr, iDr, sDrPut, rDrNext, vDct, sNever, L2.atI, dIx, dList, dTuple, dEq, dNe, D.okd, okdL, D.eqb, PyData.eqv, D.py, pyL, dSum, dAll, dAny, L2.ixN, dNotB, dIsB, dIsN, dNotN, D.isNon]
    exact hκ _ ⟨w, ps, hg, hs, _, _, _, _, _, _, _, _, _, _, _, _, _, _, _, rfl⟩
  rintro ρ ⟨w, ps, hg, hs, a2, a5, a6, a7, a8, a9, a10, a11, a12, a13, a14, a15, a16, a17, a18, rfl⟩
  have hlen := hg.g.1
  have hz := szl
  -- stream, most = ..
  refine sCons_seq (fun ρ => ∃ m : Int, (m = 3 ∨ m = 30 ∨ m = 1000000000) ∧ ∃ a2 a7 a8 a9 a10 a11 a12 a13 a14 a15 a16 a17 a18, ρ = sl ns a2 (some (.val (.int w))) (some (.val (dps ps))) (some (.val (stm w ps))) (some (.val (.int m))) a7 a8 a9 a10 a11 a12 a13 a14 a15 a16 a17 a18) (fun κ hκ => ?_) ?_
  · simp [sl, dfS, startD, sCons, sNil, sSetN, sSetB, sOwnN, sOwnB, sIf, sRetB, sRetNone, sRetO, sFor, sAsgN, sAsgB, sParN, sParB, slotR, lfR, sExpr, sAppN, sAppB, augI, gTup_t, gCons_c, gCons_n, gNil_n, gNil_c, gN, dVar, dC, vR, rV, rBin, cBin, bV, bTru, bNot, bAnd, bOr, vAnd, vOr, vNot, rIf, vIf, dNeg, dTup, dLst, dTupS, dLstS, aNil, aCons, aStar, rCall, dCall, dCallK, pick, on1, on2, dLen, i1, i2, dInt, dIsi, dTru, dFld, rCut, oNone, oSome, dCut, iOf, iArg, zip2_e, enu1_e, rng1, rng2, rComp, bYes, cChain, dAdd, dSub, dMul, dFd, dMd, dPw, iI, iC, frz, viewN, viewB, wipeV, toSl, D.items, vDr, iDr, sDrPut, rDrNext, vDct, sNever, L2.atI, dIx, dList, dTuple, dEq, dNe, D.okd, okdL, D.eqb, PyData.eqv, D.py, pyL, dSum, dAll, dAny, L2.ixN, dNotB, dIsB, dIsN, dNotN, D.isNon]
    refine sp_Stream w ps hg _ _ ?_
    refine ⟨c9, sp_pick _ _ _ (by simp) (by simp) fun e he => ?_⟩
    obtain ⟨m, rfl, hm⟩ : ∃ m : Int, e = .int m ∧ (m = 3 ∨ m = 30 ∨ m = 1000000000) := by
      simp at he
      rcases he with rfl | rfl | rfl <;> exact ⟨_, rfl, by simp⟩
    exact ⟨_, rfl, _, rfl, hκ _ ⟨m, hm, _, _, _, _, _, _, _, _, _, _, _, _, _, rfl⟩⟩
  rintro ρ ⟨m, hm, a2, a7, a8, a9, a10, a11, a12, a13, a14, a15, a16, a17, a18, rfl⟩
  -- vector = ..; own = ..
  refine sCons_seq (fun ρ => ∃ v0 vs, vs.length = ps.length ∧ v0.natAbs ≤ m ∧ (∀ x ∈ vs, (x : Int).natAbs ≤ m) ∧ ∃ a2 a8 a9 a10 a11 a12 a13 a14 a15 a16 a17 a18, ρ = sl ns a2 (some (.val (.int w))) (some (.val (dps ps))) (some (.val (stm w ps))) (some (.val (.int m))) (some (.val (dv (v0 :: vs)))) a8 a9 a10 a11 a12 a13 a14 a15 a16 a17 a18) (fun κ hκ => ?_) ?_
  · simp [sl, dfS, startD, sCons, sNil, sSetN, sSetB, sOwnN, sOwnB, sIf, sRetB, sRetNone, sRetO, sFor, sAsgN, sAsgB, sParN, sParB, slotR, lfR, sExpr, sAppN, sAppB, augI, gTup_t, gCons_c, gCons_n, gNil_n, gNil_c, gN, dVar, dC, vR, rV, rBin, cBin, bV, bTru, bNot, bAnd, bOr, vAnd, vOr, vNot, rIf, vIf, dNeg, dTup, dLst, dTupS, dLstS, aNil, aCons, aStar, rCall, dCall, dCallK, pick, on1, on2, dLen, i1, i2, dInt, dIsi, dTru, dFld, rCut, oNone, oSome, dCut, iOf, iArg, zip2_e, enu1_e, rng1, rng2, rComp, bYes, cChain, dAdd, dSub, dMul, dFd, dMd, dPw, iI, iC, frz, viewN, viewB, wipeV, toSl, D.items, vDr, iDr, sDrPut, rDrNext, vDct, sNever, L2.atI, dIx, dList, dTuple, dEq, dNe, D.okd, okdL, D.eqb, PyData.eqv, D.py, pyL, dSum, dAll, dAny, L2.ixN, dNotB, dIsB, dIsN, dNotN, D.isNon]
    refine sp_vector ps hg.g m (by omega) (by omega) _ _ fun v0 vs h1 h2 h3 => ?_
    exact hκ _ ⟨v0, vs, h1, h2, h3, _, _, _, _, _, _, _, _, _, _, _, _, rfl⟩
  rintro ρ ⟨v0, vs, hlv, hv0, hvs, a2, a8, a9, a10, a11, a12, a13, a14, a15, a16, a17, a18, rfl⟩
  refine sCons_seq (fun ρ => ∃ p, IsFirst w ps v0 vs p ∧ Mid4 ns w ps m v0 vs p ρ) (fun κ hκ => ?_) ?_
  · simp [sl, dfS, startD, sCons, sNil, sSetN, sSetB, sOwnN, sOwnB, sIf, sRetB, sRetNone, sRetO, sFor, sAsgN, sAsgB, sParN, sParB, slotR, lfR, sExpr, sAppN, sAppB, augI, gTup_t, gCons_c, gCons_n, gNil_n, gNil_c, gN, dVar, dC, vR, rV, rBin, cBin, bV, bTru, bNot, bAnd, bOr, vAnd, vOr, vNot, rIf, vIf, dNeg, dTup, dLst, dTupS, dLstS, aNil, aCons, aStar, rCall, dCall, dCallK, pick, on1, on2, dLen, i1, i2, dInt, dIsi, dTru, dFld, rCut, oNone, oSome, dCut, iOf, iArg, zip2_e, enu1_e, rng1, rng2, rComp, bYes, cChain, dAdd, dSub, dMul, dFd, dMd, dPw, iI, iC, frz, viewN, viewB, wipeV, toSl, D.items, vDr, iDr, sDrPut, rDrNext, vDct, sNever, L2.atI, dIx, dList, dTuple, dEq, dNe, D.okd, okdL, D.eqb, PyData.eqv, D.py, pyL, dSum, dAll, dAny, L2.ixN, dNotB, dIsB, dIsN, dNotN, D.isNon]
    refine sp_law_normal w ps hg v0 vs hlv _ _ fun p hp => ?_
    exact hκ _ ⟨p, hp, _, _, _, _, _, _, _, _, _, _, _, rfl⟩
  rintro ρ ⟨p, hp, a2, a9, a10, a11, a12, a13, a14, a15, a16, a17, a18, rfl⟩
  have hb0 : v0.natAbs ≤ 1000000000 := by omega
  have hbs : ∀ x ∈ vs, (x : Int).natAbs ≤ 1000000000 := fun x hx => by have := hvs x hx; omega
  have hsm := nrm_small hg hp
  have hsl : ∀ x ∈ nrm w ps v0 vs p, (x : Int).natAbs.log2 < 1920 := fun x hx => small_log (hsm x hx)
  have hnl := nrm_len (w := w) (v0 := v0) hlv p
  -- if not _law_says(normal(..), own)
  refine sCons_seq (Mid4 ns w ps m v0 vs p) (fun κ hκ => ?_) ?_
  · simp [sl, dfS, startD, sCons, sNil, sSetN, sSetB, sOwnN, sOwnB, sIf, sRetB, sRetNone, sRetO, sFor, sAsgN, sAsgB, sParN, sParB, slotR, lfR, sExpr, sAppN, sAppB, augI, gTup_t, gCons_c, gCons_n, gNil_n, gNil_c, gN, dVar, dC, vR, rV, rBin, cBin, bV, bTru, bNot, bAnd, bOr, vAnd, vOr, vNot, rIf, vIf, dNeg, dTup, dLst, dTupS, dLstS, aNil, aCons, aStar, rCall, dCall, dCallK, pick, on1, on2, dLen, i1, i2, dInt, dIsi, dTru, dFld, rCut, oNone, oSome, dCut, iOf, iArg, zip2_e, enu1_e, rng1, rng2, rComp, bYes, cChain, dAdd, dSub, dMul, dFd, dMd, dPw, iI, iC, frz, viewN, viewB, wipeV, toSl, D.items, vDr, iDr, sDrPut, rDrNext, vDct, sNever, L2.atI, dIx, dList, dTuple, dEq, dNe, D.okd, okdL, D.eqb, PyData.eqv, D.py, pyL, dSum, dAll, dAny, L2.ixN, dNotB, dIsB, dIsN, dNotN, D.isNon]
    refine sp_normal w ps hg hs v0 vs hlv hb0 hbs _ _ fun p' hp' => ?_
    have : p' = p := first_uniq hp' hp
    subst this
    refine sp_says_dv _ hsl (by omega) _ _ ?_
    simp [dfS, startD, sCons, sNil, sSetN, sSetB, sOwnN, sOwnB, sIf, sRetB, sRetNone, sRetO, sFor, sAsgN, sAsgB, sParN, sParB, slotR, lfR, sExpr, sAppN, sAppB, augI, gTup_t, gCons_c, gCons_n, gNil_n, gNil_c, gN, dVar, dC, vR, rV, rBin, cBin, bV, bTru, bNot, bAnd, bOr, vAnd, vOr, vNot, rIf, vIf, dNeg, dTup, dLst, dTupS, dLstS, aNil, aCons, aStar, rCall, dCall, dCallK, pick, on1, on2, dLen, i1, i2, dInt, dIsi, dTru, dFld, rCut, oNone, oSome, dCut, iOf, iArg, zip2_e, enu1_e, rng1, rng2, rComp, bYes, cChain, dAdd, dSub, dMul, dFd, dMd, dPw, iI, iC, frz, viewN, viewB, wipeV, toSl, D.items, vDr, iDr, sDrPut, rDrNext, vDct, sNever, L2.atI, dIx, dList, dTuple, dEq, dNe, D.okd, okdL, D.eqb, PyData.eqv, D.py, pyL, dSum, dAll, dAny, L2.ixN, dNotB, dIsB, dIsN, dNotN, D.isNon]
    exact hκ _ ⟨_, _, _, _, _, _, _, _, _, _, _, rfl⟩
  rintro ρ ⟨a2, a9, a10, a11, a12, a13, a14, a15, a16, a17, a18, rfl⟩
  have hp2 : ∀ q ∈ ps, 0 < q.2 := fun q hq => by have := hg.g.2 q hq; omega
  have hw0 := hg.w0
  have hw1 := hg.w1
  -- if most < 100: ..
  refine sCons_seq (Mid4 ns w ps m v0 vs p) (fun κ hκ => ?_) ?_
  · simp [sl, dfS, startD, sCons, sNil, sSetN, sSetB, sOwnN, sOwnB, sIf, sRetB, sRetNone, sRetO, sFor, sAsgN, sAsgB, sParN, sParB, slotR, lfR, sExpr, sAppN, sAppB, augI, gTup_t, gCons_c, gCons_n, gNil_n, gNil_c, gN, dVar, dC, vR, rV, rBin, cBin, bV, bTru, bNot, bAnd, bOr, vAnd, vOr, vNot, rIf, vIf, dNeg, dTup, dLst, dTupS, dLstS, aNil, aCons, aStar, rCall, dCall, dCallK, pick, on1, on2, dLen, i1, i2, dInt, dIsi, dTru, dFld, rCut, oNone, oSome, dCut, iOf, iArg, zip2_e, enu1_e, rng1, rng2, rComp, bYes, cChain, dAdd, dSub, dMul, dFd, dMd, dPw, iI, iC, frz, viewN, viewB, wipeV, toSl, D.items, vDr, iDr, sDrPut, rDrNext, vDct, sNever, L2.atI, dIx, dList, dTuple, dEq, dNe, D.okd, okdL, D.eqb, PyData.eqv, D.py, pyL, dSum, dAll, dAny, L2.ixN, dNotB, dIsB, dIsN, dNotN, D.isNon]
    refine ⟨fun hm100 => ?_, fun _ => hκ _ ⟨_, _, _, _, _, _, _, _, _, _, _, rfl⟩⟩
    refine sp_moved w ps hg v0 vs hlv _ _ fun t ms ht hms hms6 => ?_
    have hlu := mvd_len t hms hlv
    have hss := sum_small hms6
    have hu0 : (v0 + t * w - ms.sum).natAbs ≤ 1000000000 := by
      have : (t * w).natAbs ≤ 6 * 8 := by rw [Int.natAbs_mul]; exact Nat.mul_le_mul ht (by omega)
      omega
    have hus : ∀ x ∈ mvd t ms vs ps, (x : Int).natAbs ≤ 1000000000 := fun x hx => by
      have := mvd_small ht (m := m) (ms := ms) (vs := vs) (ps := ps) (fun q hq => ⟨(hg.g.2 q hq).1, (hg.g.2 q hq).2.1, (hg.g.2 q hq).2.2.1⟩) hms6 hvs x hx
      omega
    have hpu := first_mvd w t v0 hp2 hms hlv hp
    have hnu := nrm_mvd w t v0 hp2 hms hlv p
    have hocc : Occ w ps v0 vs (v0 + t * w - ms.sum) (mvd t ms vs ps) := (occ_iff hp2 hlv hlu hp hpu).mpr hnu.symm
    generalize hu : v0 + t * w - ms.sum = u0 at *
    generalize hus' : mvd t ms vs ps = us at *
    simp [dfS, startD, sCons, sNil, sSetN, sSetB, sOwnN, sOwnB, sIf, sRetB, sRetNone, sRetO, sFor, sAsgN, sAsgB, sParN, sParB, slotR, lfR, sExpr, sAppN, sAppB, augI, gTup_t, gCons_c, gCons_n, gNil_n, gNil_c, gN, dVar, dC, vR, rV, rBin, cBin, bV, bTru, bNot, bAnd, bOr, vAnd, vOr, vNot, rIf, vIf, dNeg, dTup, dLst, dTupS, dLstS, aNil, aCons, aStar, rCall, dCall, dCallK, pick, on1, on2, dLen, i1, i2, dInt, dIsi, dTru, dFld, rCut, oNone, oSome, dCut, iOf, iArg, zip2_e, enu1_e, rng1, rng2, rComp, bYes, cChain, dAdd, dSub, dMul, dFd, dMd, dPw, iI, iC, frz, viewN, viewB, wipeV, toSl, D.items, vDr, iDr, sDrPut, rDrNext, vDct, sNever, L2.atI, dIx, dList, dTuple, dEq, dNe, D.okd, okdL, D.eqb, PyData.eqv, D.py, pyL, dSum, dAll, dAny, L2.ixN, dNotB, dIsB, dIsN, dNotN, D.isNon]
    refine sp_ooc w ps hg v0 vs hlv hb0 hbs u0 us hlu hu0 hus _ _ fun b hb => ?_
    have : b = true := hb.mpr hocc
    subst this
    simp [dfS, startD, sCons, sNil, sSetN, sSetB, sOwnN, sOwnB, sIf, sRetB, sRetNone, sRetO, sFor, sAsgN, sAsgB, sParN, sParB, slotR, lfR, sExpr, sAppN, sAppB, augI, gTup_t, gCons_c, gCons_n, gNil_n, gNil_c, gN, dVar, dC, vR, rV, rBin, cBin, bV, bTru, bNot, bAnd, bOr, vAnd, vOr, vNot, rIf, vIf, dNeg, dTup, dLst, dTupS, dLstS, aNil, aCons, aStar, rCall, dCall, dCallK, pick, on1, on2, dLen, i1, i2, dInt, dIsi, dTru, dFld, rCut, oNone, oSome, dCut, iOf, iArg, zip2_e, enu1_e, rng1, rng2, rComp, bYes, cChain, dAdd, dSub, dMul, dFd, dMd, dPw, iI, iC, frz, viewN, viewB, wipeV, toSl, D.items, vDr, iDr, sDrPut, rDrNext, vDct, sNever, L2.atI, dIx, dList, dTuple, dEq, dNe, D.okd, okdL, D.eqb, PyData.eqv, D.py, pyL, dSum, dAll, dAny, L2.ixN, dNotB, dIsB, dIsN, dNotN, D.isNon]
    refine sp_normal w ps hg hs u0 us hlu hu0 hus _ _ fun p' hp' => ?_
    have : p' = p + t := first_uniq hp' hpu
    subst this
    rw [hnu]
    have e1 := dv_eqb (nrm w ps v0 vs p) (nrm w ps v0 vs p)
    have o1 := dv_okd (nrm w ps v0 vs p)
    simp only [D.eqb, decide_true] at e1
    refine ⟨⟨o1, o1⟩, ?_⟩
    rw [e1]
    exact ⟨rfl, fun _ => hκ _ ⟨_, _, _, _, _, _, _, _, _, _, _, rfl⟩⟩
  rintro ρ ⟨a2, a9, a10, a11, a12, a13, a14, a15, a16, a17, a18, rfl⟩
  -- other = ..
  refine sCons_seq (fun ρ => ∃ u0 us, us.length = ps.length ∧ u0.natAbs ≤ 1000000000 ∧ (∀ x ∈ us, (x : Int).natAbs ≤ 1000000000) ∧ ∃ a2 a10 a11 a12 a13 a14 a15 a16 a17 a18, ρ = sl ns a2 (some (.val (.int w))) (some (.val (dps ps))) (some (.val (stm w ps))) (some (.val (.int m))) (some (.val (dv (v0 :: vs)))) (some (.val (dv (nrm w ps v0 vs p)))) (some (.val (dv (u0 :: us)))) a10 a11 a12 a13 a14 a15 a16 a17 a18) (fun κ hκ => ?_) ?_
  · simp [sl, dfS, startD, sCons, sNil, sSetN, sSetB, sOwnN, sOwnB, sIf, sRetB, sRetNone, sRetO, sFor, sAsgN, sAsgB, sParN, sParB, slotR, lfR, sExpr, sAppN, sAppB, augI, gTup_t, gCons_c, gCons_n, gNil_n, gNil_c, gN, dVar, dC, vR, rV, rBin, cBin, bV, bTru, bNot, bAnd, bOr, vAnd, vOr, vNot, rIf, vIf, dNeg, dTup, dLst, dTupS, dLstS, aNil, aCons, aStar, rCall, dCall, dCallK, pick, on1, on2, dLen, i1, i2, dInt, dIsi, dTru, dFld, rCut, oNone, oSome, dCut, iOf, iArg, zip2_e, enu1_e, rng1, rng2, rComp, bYes, cChain, dAdd, dSub, dMul, dFd, dMd, dPw, iI, iC, frz, viewN, viewB, wipeV, toSl, D.items, vDr, iDr, sDrPut, rDrNext, vDct, sNever, L2.atI, dIx, dList, dTuple, dEq, dNe, D.okd, okdL, D.eqb, PyData.eqv, D.py, pyL, dSum, dAll, dAny, L2.ixN, dNotB, dIsB, dIsN, dNotN, D.isNon]
    refine sp_vector ps hg.g m (by omega) (by omega) _ _ fun x0 xs h1 h2 h3 => ?_
    have fin : ∀ (u0 : Int) (us : List Int), us.length = ps.length → u0.natAbs ≤ 1000000000 → (∀ x ∈ us, (x : Int).natAbs ≤ 1000000000) → κ (sl ns a2 (some (.val (.int w))) (some (.val (dps ps))) (some (.val (stm w ps))) (some (.val (.int m))) (some (.val (dv (v0 :: vs)))) (some (.val (dv (nrm w ps v0 vs p)))) (some (.val (dv (u0 :: us)))) a10 a11 a12 a13 a14 a15 a16 a17 a18) := fun u0 us g1 g2 g3 => hκ _ ⟨u0, us, g1, g2, g3, _, _, _, _, _, _, _, _, _, _, rfl⟩
    have f1 := fin x0 xs h1 (by omega) (fun x hx => by have := h3 x hx; omega)
    have f2 := fin v0 vs hlv hb0 hbs
    simp [dv, cut1, dfS, startD, sCons, sNil, sSetN, sSetB, sOwnN, sOwnB, sIf, sRetB, sRetNone, sRetO, sFor, sAsgN, sAsgB, sParN, sParB, slotR, lfR, sExpr, sAppN, sAppB, augI, gTup_t, gCons_c, gCons_n, gNil_n, gNil_c, gN, dVar, dC, vR, rV, rBin, cBin, bV, bTru, bNot, bAnd, bOr, vAnd, vOr, vNot, rIf, vIf, dNeg, dTup, dLst, dTupS, dLstS, aNil, aCons, aStar, rCall, dCall, dCallK, pick, on1, on2, dLen, i1, i2, dInt, dIsi, dTru, dFld, rCut, oNone, oSome, dCut, iOf, iArg, zip2_e, enu1_e, rng1, rng2, rComp, bYes, cChain, dAdd, dSub, dMul, dFd, dMd, dPw, iI, iC, frz, viewN, viewB, wipeV, toSl, D.items, vDr, iDr, sDrPut, rDrNext, vDct, sNever, L2.atI, dIx, dList, dTuple, dEq, dNe, D.okd, okdL, D.eqb, PyData.eqv, D.py, pyL, dSum, dAll, dAny, L2.ixN, dNotB, dIsB, dIsN, dNotN, D.isNon]
    refine ⟨c9, fun hv9 => ?_, fun hv9 => ?_⟩
    · have f3 := fin (v0 + 1) vs hlv (by omega) hbs
      refine ⟨by omega, ?_⟩
      refine sp_pick _ _ _ (by simp) (by simp) fun e he => ?_
      simp at he
      rcases he with rfl | rfl
      · simpa [sl, dv] using f1
      · simpa [sl, dv] using f3
    · refine sp_pick _ _ _ (by simp) (by simp) fun e he => ?_
      simp at he
      rcases he with rfl | rfl
      · simpa [sl, dv] using f1
      · simpa [sl, dv] using f2
  rintro ρ ⟨u0, us, hlu, hu0, hus, a2, a10, a11, a12, a13, a14, a15, a16, a17, a18, rfl⟩
  refine sCons_seq (Mid4 ns w ps m v0 vs p) (fun κ hκ => ?_) ?_
  · simp [sl, dfS, startD, sCons, sNil, sSetN, sSetB, sOwnN, sOwnB, sIf, sRetB, sRetNone, sRetO, sFor, sAsgN, sAsgB, sParN, sParB, slotR, lfR, sExpr, sAppN, sAppB, augI, gTup_t, gCons_c, gCons_n, gNil_n, gNil_c, gN, dVar, dC, vR, rV, rBin, cBin, bV, bTru, bNot, bAnd, bOr, vAnd, vOr, vNot, rIf, vIf, dNeg, dTup, dLst, dTupS, dLstS, aNil, aCons, aStar, rCall, dCall, dCallK, pick, on1, on2, dLen, i1, i2, dInt, dIsi, dTru, dFld, rCut, oNone, oSome, dCut, iOf, iArg, zip2_e, enu1_e, rng1, rng2, rComp, bYes, cChain, dAdd, dSub, dMul, dFd, dMd, dPw, iI, iC, frz, viewN, viewB, wipeV, toSl, D.items, vDr, iDr, sDrPut, rDrNext, vDct, sNever, L2.atI, dIx, dList, dTuple, dEq, dNe, D.okd, okdL, D.eqb, PyData.eqv, D.py, pyL, dSum, dAll, dAny, L2.ixN, dNotB, dIsB, dIsN, dNotN, D.isNon]
    refine sp_ooc w ps hg v0 vs hlv hb0 hbs u0 us hlu hu0 hus _ _ fun b hb => ?_
    refine sp_law_normal w ps hg u0 us hlu _ _ fun p' hp' => ?_
    have e1 := dv_eqb (nrm w ps u0 us p') (nrm w ps v0 vs p)
    have o1 := dv_okd (nrm w ps v0 vs p)
    have o2 := dv_okd (nrm w ps u0 us p')
    simp only [D.eqb] at e1
    refine ⟨⟨o2, o1⟩, ?_⟩
    rw [e1]
    have eb : b = decide (nrm w ps u0 us p' = nrm w ps v0 vs p) := by
      have := hb.trans (occ_iff hp2 hlv hlu hp hp')
      cases b
      · symm; exact decide_eq_false fun z => by have := this.mpr z.symm; cases this
      · symm; exact decide_eq_true (this.mp rfl).symm
    rw [← eb]
    refine sp_says_bl b _ _ ?_
    simp [dfS, startD, sCons, sNil, sSetN, sSetB, sOwnN, sOwnB, sIf, sRetB, sRetNone, sRetO, sFor, sAsgN, sAsgB, sParN, sParB, slotR, lfR, sExpr, sAppN, sAppB, augI, gTup_t, gCons_c, gCons_n, gNil_n, gNil_c, gN, dVar, dC, vR, rV, rBin, cBin, bV, bTru, bNot, bAnd, bOr, vAnd, vOr, vNot, rIf, vIf, dNeg, dTup, dLst, dTupS, dLstS, aNil, aCons, aStar, rCall, dCall, dCallK, pick, on1, on2, dLen, i1, i2, dInt, dIsi, dTru, dFld, rCut, oNone, oSome, dCut, iOf, iArg, zip2_e, enu1_e, rng1, rng2, rComp, bYes, cChain, dAdd, dSub, dMul, dFd, dMd, dPw, iI, iC, frz, viewN, viewB, wipeV, toSl, D.items, vDr, iDr, sDrPut, rDrNext, vDct, sNever, L2.atI, dIx, dList, dTuple, dEq, dNe, D.okd, okdL, D.eqb, PyData.eqv, D.py, pyL, dSum, dAll, dAny, L2.ixN, dNotB, dIsB, dIsN, dNotN, D.isNon]
    exact hκ _ ⟨_, _, _, _, _, _, _, _, _, _, _, rfl⟩
  rintro ρ ⟨a2, a9, a10, a11, a12, a13, a14, a15, a16, a17, a18, rfl⟩
  -- near = ..
  obtain ⟨o0, os, ho, hol⟩ : ∃ o0 os, nrm w ps v0 vs p = o0 :: os ∧ os.length = ps.length := ⟨_, _, rfl, md_len p hlv⟩
  refine sCons_seq (fun ρ => ∃ x10 a2 a9 a11 a12 a13 a14 a15 a16 a17 a18, Th x10 ∧ ρ = sl ns a2 (some (.val (.int w))) (some (.val (dps ps))) (some (.val (stm w ps))) (some (.val (.int m))) (some (.val (dv (v0 :: vs)))) (some (.val (dv (o0 :: os)))) a9 (some (.val x10)) a11 a12 a13 a14 a15 a16 a17 a18) (fun κ hκ => ?_) ?_
  · rw [ho]
    simp [sl, dv, cutN1, dfS, startD, sCons, sNil, sSetN, sSetB, sOwnN, sOwnB, sIf, sRetB, sRetNone, sRetO, sFor, sAsgN, sAsgB, sParN, sParB, slotR, lfR, sExpr, sAppN, sAppB, augI, gTup_t, gCons_c, gCons_n, gNil_n, gNil_c, gN, dVar, dC, vR, rV, rBin, cBin, bV, bTru, bNot, bAnd, bOr, vAnd, vOr, vNot, rIf, vIf, dNeg, dTup, dLst, dTupS, dLstS, aNil, aCons, aStar, rCall, dCall, dCallK, pick, on1, on2, dLen, i1, i2, dInt, dIsi, dTru, dFld, rCut, oNone, oSome, dCut, iOf, iArg, zip2_e, enu1_e, rng1, rng2, rComp, bYes, cChain, dAdd, dSub, dMul, dFd, dMd, dPw, iI, iC, frz, viewN, viewB, wipeV, toSl, D.items, vDr, iDr, sDrPut, rDrNext, vDct, sNever, L2.atI, dIx, dList, dTuple, dEq, dNe, D.okd, okdL, D.eqb, PyData.eqv, D.py, pyL, dSum, dAll, dAny, dNotB, dIsB, dIsN, dNotN, D.isNon]
    have hi : L2.ixN (os.length + 1) (-1) = some os.length := ixN_last _
    have hge : (D.int o0 :: List.map D.int os)[os.length]? = some (.int ((o0 :: os)[os.length]'(by simp))) := by
      rw [← List.map_cons (f := D.int), List.getElem?_map, List.getElem?_eq_getElem (by simp)]
      rfl
    refine ⟨.int ((o0 :: os)[os.length]'(by simp)), by rw [hi]; exact hge, by omega, ?_⟩
    refine hκ _ ⟨_, _, _, _, _, _, _, _, _, _, _, th_tup ?_ ?_, rfl⟩
    · intro x hx
      rcases List.mem_append.mp hx with z | z
      · exact is_ok (o0 :: os) x (List.dropLast_subset _ z)
      · rw [List.mem_singleton] at z; subst z; exact i_ok _
    · simp; omega
  rintro ρ ⟨x10, a2, a9, a11, a12, a13, a14, a15, a16, a17, a18, hx10, rfl⟩
  refine sCons_seq (fun ρ => ∃ a2 a8 a9 a10 a11 a12 a13 a14 a15 a16 a17 a18, ρ = sl ns a2 (some (.val (.int w))) (some (.val (dps ps))) (some (.val (stm w ps))) (some (.val (.int m))) (some (.val (dv (v0 :: vs)))) a8 a9 a10 a11 a12 a13 a14 a15 a16 a17 a18) (fun κ hκ => ?_) ?_
  · have loop : ∀ (kb kc : Sl → Prop) (ds : List D), (∀ d ∈ ds, Th d) → forD (gN 11) (sCons
          (sIf
            (bNot
              (bTru
                (vR
                  (dCall
                    (aCons (vR (dCallK aNil (aCons (dVar 5) (aCons (dVar 11) aNil)) [0, 1] F_is_normal))
                      (aCons (vR (dCall (aCons (dVar 3) (aCons (dVar 4) (aCons (dVar 11) aNil))) F__law_is_own_normal))
                        aNil))
                    F__law_says))))
            (sCons (sRetB (rV (dC (D.bl false)))) sNil) sNil)
          sNil) ds (sl ns a2 (some (.val (.int w))) (some (.val (dps ps))) (some (.val (stm w ps))) (some (.val (.int m))) (some (.val (dv (v0 :: vs)))) (some (.val (dv (o0 :: os)))) a9 (some (.val x10)) a11 a12 a13 a14 a15 a16 a17 a18) ⟨κ, fun r => r = Rv.val (D.bl true), kb, kc⟩ (fun _ => False) := by
      intro kb kc ds hds
      refine forD_inv (fun r ρ => (∀ d ∈ r, Th d) ∧ ∃ a11, ρ = sl ns a2 (some (.val (.int w))) (some (.val (dps ps))) (some (.val (stm w ps))) (some (.val (.int m))) (some (.val (dv (v0 :: vs)))) (some (.val (dv (o0 :: os)))) a9 (some (.val x10)) a11 a12 a13 a14 a15 a16 a17 a18) ?_ ?_ ds _ ⟨hds, _, rfl⟩
      · rintro d r ρ ⟨hr, b11, rfl⟩ κ2 hκ2
        have hd := hr d List.mem_cons_self
        simp [sl, dfS, startD, sCons, sNil, sSetN, sSetB, sOwnN, sOwnB, sIf, sRetB, sRetNone, sRetO, sFor, sAsgN, sAsgB, sParN, sParB, slotR, lfR, sExpr, sAppN, sAppB, augI, gTup_t, gCons_c, gCons_n, gNil_n, gNil_c, gN, dVar, dC, vR, rV, rBin, cBin, bV, bTru, bNot, bAnd, bOr, vAnd, vOr, vNot, rIf, vIf, dNeg, dTup, dLst, dTupS, dLstS, aNil, aCons, aStar, rCall, dCall, dCallK, pick, on1, on2, dLen, i1, i2, dInt, dIsi, dTru, dFld, rCut, oNone, oSome, dCut, iOf, iArg, zip2_e, enu1_e, rng1, rng2, rComp, bYes, cChain, dAdd, dSub, dMul, dFd, dMd, dPw, iI, iC, frz, viewN, viewB, wipeV, toSl, D.items, vDr, iDr, sDrPut, rDrNext, vDct, sNever, L2.atI, dIx, dList, dTuple, dEq, dNe, D.okd, okdL, D.eqb, PyData.eqv, D.py, pyL, dSum, dAll, dAny, L2.ixN, dNotB, dIsB, dIsN, dNotN, D.isNon]
        refine sp_is_normal w ps hg hs d hd _ _ fun b hb => ?_
        refine sp_own_normal w ps hg d hd _ _ fun b' hb' => ?_
        have := nrmIs_uniq hb hb'
        subst this
        refine sp_says_bl b _ _ ?_
        simp [dfS, startD, sCons, sNil, sSetN, sSetB, sOwnN, sOwnB, sIf, sRetB, sRetNone, sRetO, sFor, sAsgN, sAsgB, sParN, sParB, slotR, lfR, sExpr, sAppN, sAppB, augI, gTup_t, gCons_c, gCons_n, gNil_n, gNil_c, gN, dVar, dC, vR, rV, rBin, cBin, bV, bTru, bNot, bAnd, bOr, vAnd, vOr, vNot, rIf, vIf, dNeg, dTup, dLst, dTupS, dLstS, aNil, aCons, aStar, rCall, dCall, dCallK, pick, on1, on2, dLen, i1, i2, dInt, dIsi, dTru, dFld, rCut, oNone, oSome, dCut, iOf, iArg, zip2_e, enu1_e, rng1, rng2, rComp, bYes, cChain, dAdd, dSub, dMul, dFd, dMd, dPw, iI, iC, frz, viewN, viewB, wipeV, toSl, D.items, vDr, iDr, sDrPut, rDrNext, vDct, sNever, L2.atI, dIx, dList, dTuple, dEq, dNe, D.okd, okdL, D.eqb, PyData.eqv, D.py, pyL, dSum, dAll, dAny, L2.ixN, dNotB, dIsB, dIsN, dNotN, D.isNon]
        exact hκ2 _ ⟨fun x hx => hr x (List.mem_cons_of_mem _ hx), _, rfl⟩
      · rintro ρ ⟨_, b11, rfl⟩
        exact hκ _ ⟨_, _, _, _, _, _, _, _, _, _, _, _, rfl⟩
    simp [sl, dv, cut1, dfS, startD, sCons, sNil, sSetN, sSetB, sOwnN, sOwnB, sIf, sRetB, sRetNone, sRetO, sFor, sAsgN, sAsgB, sParN, sParB, slotR, lfR, sExpr, sAppN, sAppB, augI, gTup_t, gCons_c, gCons_n, gNil_n, gNil_c, gN, dVar, dC, vR, rV, rBin, cBin, bV, bTru, bNot, bAnd, bOr, vAnd, vOr, vNot, rIf, vIf, dNeg, dTup, dLst, dTupS, dLstS, aNil, aCons, aStar, rCall, dCall, dCallK, pick, on1, on2, dLen, i1, i2, dInt, dIsi, dTru, dFld, rCut, oNone, oSome, dCut, iOf, iArg, zip2_e, enu1_e, rng1, rng2, rComp, bYes, cChain, dAdd, dSub, dMul, dFd, dMd, dPw, iI, iC, frz, viewN, viewB, wipeV, toSl, D.items, vDr, iDr, sDrPut, rDrNext, vDct, sNever, L2.atI, dIx, dList, dTuple, dEq, dNe, D.okd, okdL, D.eqb, PyData.eqv, D.py, pyL, dSum, dAll, dAny, dNotB, dIsB, dIsN, dNotN, D.isNon]
    have hi : L2.ixN (os.length + 1) 0 = some 0 := ix_nat (by omega) (by omega)
    refine ⟨.int o0, by rw [hi]; rfl, by omega, by omega, ?_⟩
    refine sp_odd _ _ fun od hod => ?_
    refine ⟨by omega, by omega, ?_⟩
    refine loop _ _ _ fun d hd => ?_
    have hos := is_ok os
    simp at hd
    rcases hd with rfl | rfl | rfl | rfl | rfl | rfl | rfl | rfl | rfl
    · exact th_dv (o0 :: os) (by simp; omega)
    · exact th_dv (v0 :: vs) (by simp; omega)
    · exact hx10
    · exact th_tup (fun x hx => by
        rcases List.mem_cons.mp hx with z | z
        · subst z; exact i_ok _
        · exact hos x z) (by simp; omega)
    · exact th_lst _
    · exact th_tup (fun x hx => by
        rcases List.mem_cons.mp hx with z | z
        · subst z; exact i_ok _
        · rcases List.mem_append.mp z with z | z
          · exact hos x z
          · rw [List.mem_singleton] at z; subst z; exact i_ok _) (by simp; omega)
    · exact hod
    · exact th_tup (fun x hx => by rw [List.eq_of_mem_replicate hx]; exact i_ok _) (by simp; omega)
    · exact th_tup (fun x hx => by
        rcases List.mem_cons.mp hx with z | z
        · subst z; exact ⟨by simp [D.tn], by simp [D.okd]⟩
        · exact hos x z) (by simp; omega)
  rintro ρ ⟨a2, a8, a9, a10, a11, a12, a13, a14, a15, a16, a17, a18, rfl⟩
  refine sCons_seq (fun ρ => ∃ a2 a8 a9 a10 a11 a12 a13 a14 a15 a16 a17 a18, ρ = sl ns a2 (some (.val (.int w))) (some (.val (dps ps))) (some (.val (stm w ps))) (some (.val (.int m))) (some (.val (dv (v0 :: vs)))) a8 a9 a10 a11 a12 a13 a14 a15 a16 a17 a18) (fun κ hκ => ?_) ?_
  · have c30 : L2.CPow 10 30 := ⟨by decide, by decide, by decide⟩
    have loop : ∀ (kb kc : Sl → Prop) (ds : List D), (∀ d ∈ ds, ∃ n : Int, d = .int n ∧ n.natAbs ≤ 10 ^ 30) → forD (gN 12)
          (sCons
            (sSetN 13 (vR (dCallK (aCons (dVar 5) (aCons (dVar 7) aNil)) (aCons (dVar 12) aNil) [0, 1, 2] F_count_at)))
            (sCons
              (sIf
                (bOr
                  (cBin (dVar 13)
                    (vR (dCall (aCons (dVar 3) (aCons (dVar 4) (aCons (dVar 7) (aCons (dVar 12) aNil)))) F__law_count))
                    dNe)
                  (bTru (vR (rCall (aCons (dVar 13) (aCons (dC (D.typ "bool")) aNil)) (on2 (dIsi (kt Cs)))))))
                (sCons (sRetB (rV (dC (D.bl false)))) sNil) sNil)
              (sCons
                (sSetN 14
                  (vR
                    (rCall
                      (aCons
                        (vR
                          (rBin
                            (vR
                              (dLst
                                (aCons
                                  (vR
                                    (rBin (vR (rBin (dVar 7) (dC (D.int 0)) dIx)) (dVar 3)
                                      (iI (fun x x_1 => True) fun i j => i - j)))
                                  aNil)))
                            (vR
                              (rComp
                                (iArg (aCons (vR (rCut (dVar 7) (oSome (dC (D.int 1))) oNone)) (aCons (dVar 4) aNil))
                                  zip2)
                                (gTup 2 (gCons (gN 16) (gCons (gTup 2 (gCons (gN 17) (gCons (gN 18) gNil))) gNil))) bYes
                                (vR (rBin (dVar 16) (dVar 17) (iI (fun x x_1 => True) fun i j => i - j)))
                                [15, 16, 17, 18]))
                            dAdd))
                        aNil)
                      (on1 dTuple))))
                (sCons
                  (sIf
                    (bAnd (cBin (dVar 6) (dC (D.int 100)) dLt)
                      (bAnd
                        (cBin (dVar 12) (vR (rBin (dC (D.int 10)) (dC (D.int 30)) (iI L2.CPow fun i j => i ^ j.toNat)))
                          dLt)
                        (cBin (vR (dCall (aCons (dVar 5) (aCons (dVar 14) (aCons (dVar 12) aNil))) F_count_at))
                          (vR
                            (dCall
                              (aCons (dVar 3)
                                (aCons (dVar 4)
                                  (aCons (dVar 7) (aCons (vR (rBin (dVar 12) (dC (D.int 1)) dAdd)) aNil))))
                              F__law_count))
                          dNe)))
                    (sCons (sRetB (rV (dC (D.bl false)))) sNil) sNil)
                  sNil)))) ds (sl ns a2 (some (.val (.int w))) (some (.val (dps ps))) (some (.val (stm w ps))) (some (.val (.int m))) (some (.val (dv (v0 :: vs)))) a8 a9 a10 a11 a12 a13 a14 a15 a16 a17 a18) ⟨κ, fun r => r = Rv.val (D.bl true), kb, kc⟩ (fun _ => False) := by
      intro kb kc ds hds
      refine forD_inv (fun r ρ => (∀ d ∈ r, ∃ n : Int, d = .int n ∧ n.natAbs ≤ 10 ^ 30) ∧ ∃ a12 a13 a14 a15 a16 a17 a18, ρ = sl ns a2 (some (.val (.int w))) (some (.val (dps ps))) (some (.val (stm w ps))) (some (.val (.int m))) (some (.val (dv (v0 :: vs)))) a8 a9 a10 a11 a12 a13 a14 a15 a16 a17 a18) ?_ ?_ ds _ ⟨hds, _, _, _, _, _, _, _, rfl⟩
      · rintro d r ρ ⟨hr, b12, b13, b14, b15, b16, b17, b18, rfl⟩ κ2 hκ2
        obtain ⟨n, rfl, hn⟩ := hr d List.mem_cons_self
        simp [sl, dfS, startD, sCons, sNil, sSetN, sSetB, sOwnN, sOwnB, sIf, sRetB, sRetNone, sRetO, sFor, sAsgN, sAsgB, sParN, sParB, slotR, lfR, sExpr, sAppN, sAppB, augI, gTup_t, gCons_c, gCons_n, gNil_n, gNil_c, gN, dVar, dC, vR, rV, rBin, cBin, bV, bTru, bNot, bAnd, bOr, vAnd, vOr, vNot, rIf, vIf, dNeg, dTup, dLst, dTupS, dLstS, aNil, aCons, aStar, rCall, dCall, dCallK, pick, on1, on2, dLen, i1, i2, dInt, dIsi, dTru, dFld, rCut, oNone, oSome, dCut, iOf, iArg, zip2_e, enu1_e, rng1, rng2, rComp, bYes, cChain, dAdd, dSub, dMul, dFd, dMd, dPw, iI, iC, frz, viewN, viewB, wipeV, toSl, D.items, vDr, iDr, sDrPut, rDrNext, vDct, sNever, L2.atI, dIx, dList, dTuple, dEq, dNe, D.okd, okdL, D.eqb, PyData.eqv, D.py, pyL, dSum, dAll, dAny, L2.ixN, dNotB, dIsB, dIsN, dNotN, D.isNon]
        refine sp_count_at w ps hg v0 vs hlv hb0 hbs n hn _ _ ?_
        refine sp_count w ps hg.g (by omega) v0 vs (by omega) n _ _ ?_
        have hi : L2.ixN (vs.length + 1) 0 = some 0 := ix_nat (by omega) (by omega)
        have hin : ∀ b14 : Option Dv.Slot, κ2 (sl ns a2 (some (.val (.int w))) (some (.val (dps ps))) (some (.val (stm w ps))) (some (.val (.int m))) (some (.val (dv (v0 :: vs)))) a8 a9 a10 a11 (some (.val (.int n))) (some (.val (.int (cnt w ps v0 vs n)))) b14 b15 b16 b17 b18) := fun b14 => hκ2 _ ⟨fun x hx => hr x (List.mem_cons_of_mem _ hx), _, _, _, _, _, _, _, rfl⟩
        simp [kt, kt1, TsD, isiB, D.tn, dv_eq, dps, dfS, startD, sCons, sNil, sSetN, sSetB, sOwnN, sOwnB, sIf, sRetB, sRetNone, sRetO, sFor, sAsgN, sAsgB, sParN, sParB, slotR, lfR, sExpr, sAppN, sAppB, augI, gTup_t, gCons_c, gCons_n, gNil_n, gNil_c, gN, dVar, dC, vR, rV, rBin, cBin, bV, bTru, bNot, bAnd, bOr, vAnd, vOr, vNot, rIf, vIf, dNeg, dTup, dLst, dTupS, dLstS, aNil, aCons, aStar, rCall, dCall, dCallK, pick, on1, on2, dLen, i1, i2, dInt, dIsi, dTru, dFld, rCut, oNone, oSome, dCut, iOf, iArg, zip2_e, enu1_e, rng1, rng2, rComp, bYes, cChain, dAdd, dSub, dMul, dFd, dMd, dPw, iI, iC, frz, viewN, viewB, wipeV, toSl, D.items, vDr, iDr, sDrPut, rDrNext, vDct, sNever, L2.atI, dIx, dList, dTuple, dEq, dNe, D.okd, okdL, D.eqb, PyData.eqv, D.py, pyL, dSum, dAll, dAny, dNotB, dIsB, dIsN, dNotN, D.isNon]
        rw [cut1, zipD_map]
        refine compD_ml (fun q : Int × Int × Int => .tup [.int q.1, dp q.2]) (fun q => .int (q.1 - q.2.1)) _ _ (fun q hq κ hκ => ?_) (by simp; omega) ?_
        · simp [dp, dfS, startD, sCons, sNil, sSetN, sSetB, sOwnN, sOwnB, sIf, sRetB, sRetNone, sRetO, sFor, sAsgN, sAsgB, sParN, sParB, slotR, lfR, sExpr, sAppN, sAppB, augI, gTup_t, gCons_c, gCons_n, gNil_n, gNil_c, gN, dVar, dC, vR, rV, rBin, cBin, bV, bTru, bNot, bAnd, bOr, vAnd, vOr, vNot, rIf, vIf, dNeg, dTup, dLst, dTupS, dLstS, aNil, aCons, aStar, rCall, dCall, dCallK, pick, on1, on2, dLen, i1, i2, dInt, dIsi, dTru, dFld, rCut, oNone, oSome, dCut, iOf, iArg, zip2_e, enu1_e, rng1, rng2, rComp, bYes, cChain, dAdd, dSub, dMul, dFd, dMd, dPw, iI, iC, frz, viewN, viewB, wipeV, toSl, D.items, vDr, iDr, sDrPut, rDrNext, vDct, sNever, L2.atI, dIx, dList, dTuple, dEq, dNe, D.okd, okdL, D.eqb, PyData.eqv, D.py, pyL, dSum, dAll, dAny, L2.ixN, dNotB, dIsB, dIsN, dNotN, D.isNon]
          exact hκ
        have em : ((vs.zip ps).map fun q : Int × Int × Int => D.int (q.1 - q.2.1)) = (mvd (-1) (List.replicate ps.length 0) vs ps).map D.int := by
          rw [← mvd_zip, List.map_map]; rfl
        rw [List.nil_append, em]
        have hlz : (List.replicate ps.length (0 : Int)).length = ps.length := by simp
        have hlm := mvd_len (-1) hlz hlv
        have e0 : v0 - w = v0 + -1 * w - (List.replicate ps.length (0 : Int)).sum := by rw [sum_rep0]; omega
        have esl : κ2 (sl ns a2 (some (.val (.int w))) (some (.val (dps ps))) (some (.val (stm w ps))) (some (.val (.int m))) (some (.val (dv (v0 :: vs)))) a8 a9 a10 a11 (some (.val (.int n))) (some (.val (.int (cnt w ps v0 vs n)))) (some (.val (dv ((v0 - w) :: mvd (-1) (List.replicate ps.length 0) vs ps)))) b15 b16 b17 b18) := hin _
        refine ⟨by simp [hlm]; omega, fun hm1 => ⟨c30, fun hn1 => ?_, fun _ => esl⟩, fun _ => esl⟩
        refine sp_count_at w ps hg (v0 - w) (mvd (-1) (List.replicate ps.length 0) vs ps) hlm (by omega) (fun x hx => ?_) n hn _ _ ?_
        · have := mvd_small (t := -1) (by decide) (m := m) (ms := List.replicate ps.length 0) (vs := vs) (ps := ps) (fun q hq => ⟨(hg.g.2 q hq).1, (hg.g.2 q hq).2.1, (hg.g.2 q hq).2.2.1⟩) (fun x hx => by rw [List.eq_of_mem_replicate hx]; decide) hvs x hx
          omega
        refine sp_count w ps hg.g (by omega) v0 vs (by omega) (n + 1) _ _ ?_
        have ec : cnt w ps (v0 - w) (mvd (-1) (List.replicate ps.length 0) vs ps) n = cnt w ps v0 vs (n + 1) := by
          rw [e0, cnt_mvd w (-1) n v0 hp2 hlz hlv]
          congr 1
        rw [ec]
        simp [dfS, startD, sCons, sNil, sSetN, sSetB, sOwnN, sOwnB, sIf, sRetB, sRetNone, sRetO, sFor, sAsgN, sAsgB, sParN, sParB, slotR, lfR, sExpr, sAppN, sAppB, augI, gTup_t, gCons_c, gCons_n, gNil_n, gNil_c, gN, dVar, dC, vR, rV, rBin, cBin, bV, bTru, bNot, bAnd, bOr, vAnd, vOr, vNot, rIf, vIf, dNeg, dTup, dLst, dTupS, dLstS, aNil, aCons, aStar, rCall, dCall, dCallK, pick, on1, on2, dLen, i1, i2, dInt, dIsi, dTru, dFld, rCut, oNone, oSome, dCut, iOf, iArg, zip2_e, enu1_e, rng1, rng2, rComp, bYes, cChain, dAdd, dSub, dMul, dFd, dMd, dPw, iI, iC, frz, viewN, viewB, wipeV, toSl, D.items, vDr, iDr, sDrPut, rDrNext, vDct, sNever, L2.atI, dIx, dList, dTuple, dEq, dNe, D.okd, okdL, D.eqb, PyData.eqv, D.py, pyL, dSum, dAll, dAny, L2.ixN, dNotB, dIsB, dIsN, dNotN, D.isNon]
        exact esl
      · rintro ρ ⟨_, b12, b13, b14, b15, b16, b17, b18, rfl⟩
        exact hκ _ ⟨_, _, _, _, _, _, _, _, _, _, _, _, rfl⟩
    simp [sl, dfS, startD, sCons, sNil, sSetN, sSetB, sOwnN, sOwnB, sIf, sRetB, sRetNone, sRetO, sFor, sAsgN, sAsgB, sParN, sParB, slotR, lfR, sExpr, sAppN, sAppB, augI, gTup_t, gCons_c, gCons_n, gNil_n, gNil_c, gN, dVar, dC, vR, rV, rBin, cBin, bV, bTru, bNot, bAnd, bOr, vAnd, vOr, vNot, rIf, vIf, dNeg, dTup, dLst, dTupS, dLstS, aNil, aCons, aStar, rCall, dCall, dCallK, pick, on1, on2, dLen, i1, i2, dInt, dIsi, dTru, dFld, rCut, oNone, oSome, dCut, iOf, iArg, zip2_e, enu1_e, rng1, rng2, rComp, bYes, cChain, dAdd, dSub, dMul, dFd, dMd, dPw, iI, iC, frz, viewN, viewB, wipeV, toSl, D.items, vDr, iDr, sDrPut, rDrNext, vDct, sNever, L2.atI, dIx, dList, dTuple, dEq, dNe, D.okd, okdL, D.eqb, PyData.eqv, D.py, pyL, dSum, dAll, dAny, L2.ixN, dNotB, dIsB, dIsN, dNotN, D.isNon]
    refine sp_take _ _ _ (by decide) (by decide) fun j1 hj1 hj1' => ?_
    simp [dfS, startD, sCons, sNil, sSetN, sSetB, sOwnN, sOwnB, sIf, sRetB, sRetNone, sRetO, sFor, sAsgN, sAsgB, sParN, sParB, slotR, lfR, sExpr, sAppN, sAppB, augI, gTup_t, gCons_c, gCons_n, gNil_n, gNil_c, gN, dVar, dC, vR, rV, rBin, cBin, bV, bTru, bNot, bAnd, bOr, vAnd, vOr, vNot, rIf, vIf, dNeg, dTup, dLst, dTupS, dLstS, aNil, aCons, aStar, rCall, dCall, dCallK, pick, on1, on2, dLen, i1, i2, dInt, dIsi, dTru, dFld, rCut, oNone, oSome, dCut, iOf, iArg, zip2_e, enu1_e, rng1, rng2, rComp, bYes, cChain, dAdd, dSub, dMul, dFd, dMd, dPw, iI, iC, frz, viewN, viewB, wipeV, toSl, D.items, vDr, iDr, sDrPut, rDrNext, vDct, sNever, L2.atI, dIx, dList, dTuple, dEq, dNe, D.okd, okdL, D.eqb, PyData.eqv, D.py, pyL, dSum, dAll, dAny, L2.ixN, dNotB, dIsB, dIsN, dNotN, D.isNon]
    refine sp_pick _ _ _ (by simp) (by simp) fun e he => ?_
    obtain ⟨sg, rfl, hsg⟩ : ∃ sg : Int, e = .int sg ∧ (sg = 1 ∨ sg = -1) := by
      simp at he
      rcases he with rfl | rfl <;> exact ⟨_, rfl, by simp⟩
    refine ⟨c30, ?_⟩
    refine sp_take _ _ _ (by decide) (by decide) fun j2 hj2 hj2' => ?_
    simp [dfS, startD, sCons, sNil, sSetN, sSetB, sOwnN, sOwnB, sIf, sRetB, sRetNone, sRetO, sFor, sAsgN, sAsgB, sParN, sParB, slotR, lfR, sExpr, sAppN, sAppB, augI, gTup_t, gCons_c, gCons_n, gNil_n, gNil_c, gN, dVar, dC, vR, rV, rBin, cBin, bV, bTru, bNot, bAnd, bOr, vAnd, vOr, vNot, rIf, vIf, dNeg, dTup, dLst, dTupS, dLstS, aNil, aCons, aStar, rCall, dCall, dCallK, pick, on1, on2, dLen, i1, i2, dInt, dIsi, dTru, dFld, rCut, oNone, oSome, dCut, iOf, iArg, zip2_e, enu1_e, rng1, rng2, rComp, bYes, cChain, dAdd, dSub, dMul, dFd, dMd, dPw, iI, iC, frz, viewN, viewB, wipeV, toSl, D.items, vDr, iDr, sDrPut, rDrNext, vDct, sNever, L2.atI, dIx, dList, dTuple, dEq, dNe, D.okd, okdL, D.eqb, PyData.eqv, D.py, pyL, dSum, dAll, dAny, L2.ixN, dNotB, dIsB, dIsN, dNotN, D.isNon]
    refine ⟨mulokL _ _ (by omega), ?_⟩
    refine loop _ _ _ fun d hd => ?_
    simp at hd
    rcases hd with rfl | rfl | rfl | rfl | rfl
    · exact ⟨_, rfl, by decide⟩
    · exact ⟨_, rfl, by decide⟩
    · exact ⟨_, rfl, by decide⟩
    · exact ⟨_, rfl, by omega⟩
    · refine ⟨_, rfl, ?_⟩
      have hj3 : j2.natAbs ≤ 10 ^ 30 := by omega
      rcases hsg with rfl | rfl
      · rw [Int.one_mul]; exact hj3
      · rw [Int.neg_mul, Int.one_mul, Int.natAbs_neg]; exact hj3
  rintro ρ ⟨a2, a8, a9, a10, a11, a12, a13, a14, a15, a16, a17, a18, rfl⟩
  exact hκ1 _ ⟨_, _, _, _, _, _, _, _, _, _, _, _, _, _, _, _, _, rfl⟩
end K58

set_option maxHeartbeats 0

open PySem PySem.W PyProof.Rows in
set_option maxRecDepth 100000 in
set_option maxHeartbeats 0 in
theorem PySem.Challenge.cw_ringstream_k58_whole_normal_vectors_holds : PySem.Challenge.rw_ringstream_k58_whole_normal_vectors.Holds := by
  w_on; o_law; k_head; (case hw => w_witness2)
  k_fill
  refine Dv.end_walk (n := 63) (k := 7) (x := "script") (sp := fun w => Dv.spL _) rfl (by decide) rfl ⟨rfl, by decide, by decide⟩ (fun w h Y => PySem.W.kIn_of Y) ?F (fun w H a ns hl hS => ⟨a, ns, rfl, hS, hl, fun _ => rfl⟩)
  case F =>
    intro w mg fa h KX G hmg
    refine' K58.all_mk (l := PySem.Challenge.rw_ringstream_k58_whole_normal_vectors) K58.law_pure K58.beg_ok KX G hmg ?a0 ?l0 ?c0 ?k0 ?a1 ?l1 ?c1 ?k1 ?a2 ?l2 ?c2 ?k2 ?a3 ?l3 ?c3 ?k3 ?a4 ?l4 ?c4 ?k4 ?a5 ?l5 ?c5 ?k5 ?a6 ?l6 ?c6 ?k6 ?a7 ?l7 ?c7 ?k7 ?a8 ?l8 ?c8 ?k8 ?a9 ?l9 ?c9 ?k9 ?a10 ?l10 ?c10 ?k10 ?a11 ?l11 ?c11 ?k11 ?a12 ?l12 ?c12 ?k12 ?a13 ?l13 ?c13 ?k13 ?a14 ?l14 ?c14 ?k14 ?a15 ?l15 ?c15 ?k15 ?a16 ?l16 ?c16 ?k16 ?a17 ?l17 ?c17 ?k17 ?a18 ?l18 ?c18 ?k18 ?a19 ?l19 ?c19 ?k19 ?a20 ?l20 ?c20 ?k20 ?a21 ?l21 ?c21 ?k21 ?a22 ?l22 ?c22 ?k22 ?a23 ?l23 ?c23 ?k23 ?a24 ?l24 ?c24 ?k24 ?a25 ?l25 ?c25 ?k25 ?a26 ?l26 ?c26 ?k26 ?a27 ?l27 ?c27 ?k27 ?a28 ?l28 ?c28 ?k28 ?a29 ?l29 ?c29 ?k29 ?a30 ?l30 ?c30 ?k30 ?a31 ?l31 ?c31 ?k31 ?a32 ?l32 ?c32 ?k32 ?a33 ?l33 ?c33 ?k33 ?a34 ?l34 ?c34 ?k34 ?a35 ?l35 ?c35 ?k35 ?a36 ?l36 ?c36 ?k36 ?a37 ?l37 ?c37 ?k37 ?a38 ?l38 ?c38 ?k38 ?a39 ?l39 ?c39 ?k39 ?a40 ?l40 ?c40 ?k40 ?a41 ?l41 ?c41 ?k41 ?a42 ?l42 ?c42 ?k42 ?a43 ?l43 ?c43 ?k43 ?a44 ?l44 ?c44 ?k44 ?a45 ?l45 ?c45 ?k45 ?aC0 ?iC0 ?nC0 ?lC0 ?cC0 ?kI0 ?mC0 ?kC0 ?pg0 ?hd0 ?po0 ?sa0 ?hc0 ?mo0 ?na0_whole ?na0_pairs ?ic0 ?tc0 ?cb0_int ?cb0_bool ?cb0_tuple ?cb0_list ?cb0_str ?cb0_dict ?cb0_float ?cc0_0 ?hn ?htk ?zb_abs ?zb_all ?zb_bool ?zb_enumerate ?zb_int ?zb_isinstance ?zb_len ?zb_list ?zb_min ?zb_range ?zb_repr ?zb_sum ?zb_tuple ?zb_zip ?zm_gcd ?zi_MOST_ITEM ?zi_MOST_PAIRS ?zi_MOST_PART ?zi_MOST_PLACE ?zi_MOST_SPAN ?zi_MOST_WHOLE
    (case a0 => k_is)
    (case l0 => k_is)
    (case c0 => k_is)
    (case k0 => k_is)
    (case a1 => k_is)
    (case l1 => k_is)
    (case c1 => k_is)
    (case k1 => k_is)
    (case a2 => k_is)
    (case l2 => k_is)
    (case c2 => k_is)
    (case k2 => k_is)
    (case a3 => k_is)
    (case l3 => k_is)
    (case c3 => k_is)
    (case k3 => k_is)
    (case a4 => k_is)
    (case l4 => k_is)
    (case c4 => k_is)
    (case k4 => k_is)
    (case a5 => k_is)
    (case l5 => k_is)
    (case c5 => k_is)
    (case k5 => k_is)
    (case a6 => k_is)
    (case l6 => k_is)
    (case c6 => k_is)
    (case k6 => k_is)
    (case a7 => k_is)
    (case l7 => k_is)
    (case c7 => k_is)
    (case k7 => k_is)
    (case a8 => k_is)
    (case l8 => k_is)
    (case c8 => k_is)
    (case k8 => k_is)
    (case a9 => k_is)
    (case l9 => k_is)
    (case c9 => k_is)
    (case k9 => k_is)
    (case a10 => k_is)
    (case l10 => k_is)
    (case c10 => k_is)
    (case k10 => k_is)
    (case a11 => k_is)
    (case l11 => k_is)
    (case c11 => k_is)
    (case k11 => k_is)
    (case a12 => k_is)
    (case l12 => k_is)
    (case c12 => k_is)
    (case k12 => k_is)
    (case a13 => k_is)
    (case l13 => k_is)
    (case c13 => k_is)
    (case k13 => k_is)
    (case a14 => k_is)
    (case l14 => k_is)
    (case c14 => k_is)
    (case k14 => k_is)
    (case a15 => k_is)
    (case l15 => k_is)
    (case c15 => k_is)
    (case k15 => k_is)
    (case a16 => k_is)
    (case l16 => k_is)
    (case c16 => k_is)
    (case k16 => k_is)
    (case a17 => k_is)
    (case l17 => k_is)
    (case c17 => k_is)
    (case k17 => k_is)
    (case a18 => k_is)
    (case l18 => k_is)
    (case c18 => k_is)
    (case k18 => k_is)
    (case a19 => k_is)
    (case l19 => k_is)
    (case c19 => k_is)
    (case k19 => k_is)
    (case a20 => k_is)
    (case l20 => k_is)
    (case c20 => k_is)
    (case k20 => k_is)
    (case a21 => k_is)
    (case l21 => k_is)
    (case c21 => k_is)
    (case k21 => k_is)
    (case a22 => k_is)
    (case l22 => k_is)
    (case c22 => k_is)
    (case k22 => k_is)
    (case a23 => k_is)
    (case l23 => k_is)
    (case c23 => k_is)
    (case k23 => k_is)
    (case a24 => k_is)
    (case l24 => k_is)
    (case c24 => k_is)
    (case k24 => k_is)
    (case a25 => k_is)
    (case l25 => k_is)
    (case c25 => k_is)
    (case k25 => k_is)
    (case a26 => k_is)
    (case l26 => k_is)
    (case c26 => k_is)
    (case k26 => k_is)
    (case a27 => k_is)
    (case l27 => k_is)
    (case c27 => k_is)
    (case k27 => k_is)
    (case a28 => k_is)
    (case l28 => k_is)
    (case c28 => k_is)
    (case k28 => k_is)
    (case a29 => k_is)
    (case l29 => k_is)
    (case c29 => k_is)
    (case k29 => k_is)
    (case a30 => k_is)
    (case l30 => k_is)
    (case c30 => k_is)
    (case k30 => k_is)
    (case a31 => k_is)
    (case l31 => k_is)
    (case c31 => k_is)
    (case k31 => k_is)
    (case a32 => k_is)
    (case l32 => k_is)
    (case c32 => k_is)
    (case k32 => k_is)
    (case a33 => k_is)
    (case l33 => k_is)
    (case c33 => k_is)
    (case k33 => k_is)
    (case a34 => k_is)
    (case l34 => k_is)
    (case c34 => k_is)
    (case k34 => k_is)
    (case a35 => k_is)
    (case l35 => k_is)
    (case c35 => k_is)
    (case k35 => k_is)
    (case a36 => k_is)
    (case l36 => k_is)
    (case c36 => k_is)
    (case k36 => k_is)
    (case a37 => k_is)
    (case l37 => k_is)
    (case c37 => k_is)
    (case k37 => k_is)
    (case a38 => k_is)
    (case l38 => k_is)
    (case c38 => k_is)
    (case k38 => k_is)
    (case a39 => k_is)
    (case l39 => k_is)
    (case c39 => k_is)
    (case k39 => k_is)
    (case a40 => k_is)
    (case l40 => k_is)
    (case c40 => k_is)
    (case k40 => k_is)
    (case a41 => k_is)
    (case l41 => k_is)
    (case c41 => k_is)
    (case k41 => k_is)
    (case a42 => k_is)
    (case l42 => k_is)
    (case c42 => k_is)
    (case k42 => k_is)
    (case a43 => k_is)
    (case l43 => k_is)
    (case c43 => k_is)
    (case k43 => k_is)
    (case a44 => k_is)
    (case l44 => k_is)
    (case c44 => k_is)
    (case k44 => k_is)
    (case a45 => k_is)
    (case l45 => k_is)
    (case c45 => k_is)
    (case k45 => k_is)
    (case aC0 => k_is)
    (case iC0 => k_is)
    (case nC0 => k_is)
    (case lC0 => k_is)
    (case cC0 => k_is)
    (case kI0 => k_is)
    (case mC0 => k_is)
    (case kC0 => k_is)
    (case pg0 => k_is)
    (case hd0 => k_is)
    (case po0 => k_is)
    (case sa0 => k_is)
    (case hc0 => k_is)
    (case mo0 => k_is)
    (case na0_whole => k_is)
    (case na0_pairs => k_is)
    (case ic0 => k_is)
    (case tc0 => k_is)
    (case cb0_int => k_is)
    (case cb0_bool => k_is)
    (case cb0_tuple => k_is)
    (case cb0_list => k_is)
    (case cb0_str => k_is)
    (case cb0_dict => k_is)
    (case cb0_float => k_is)
    (case cc0_0 => k_is)
    (case hn => k_is)
    (case htk => k_is)
    (case zb_abs => k_is)
    (case zb_all => k_is)
    (case zb_bool => k_is)
    (case zb_enumerate => k_is)
    (case zb_int => k_is)
    (case zb_isinstance => k_is)
    (case zb_len => k_is)
    (case zb_list => k_is)
    (case zb_min => k_is)
    (case zb_range => k_is)
    (case zb_repr => k_is)
    (case zb_sum => k_is)
    (case zb_tuple => k_is)
    (case zb_zip => k_is)
    (case zm_gcd => k_is)
    (case zi_MOST_ITEM => k_is)
    (case zi_MOST_PAIRS => k_is)
    (case zi_MOST_PART => k_is)
    (case zi_MOST_PLACE => k_is)
    (case zi_MOST_SPAN => k_is)
    (case zi_MOST_WHOLE => k_is)
