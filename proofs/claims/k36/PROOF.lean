import PyProof.Rows.All
import Wide.All
import OpenK.AllK
import Wide.FinOn
import HandS.ForMost
import HandS.ForExc
import HandS.CallSlots
import HandS.IsInst
import HandS.TupAny
import HandS.TupMul
import HandS.Wide
import HandS.Walk
import KE.GoesEnum
import PySem.Challenge.RW_saidbefore_k36_caseedits
import HandS.ExcField
import HandS.ExcIs
import HandS.ExcInit
import HandS.TryOnly
import HandS.TryMany
import HandS.SuiteRaise
import KE.KExcIs
import HandS.ExcInitHot
import HandS.SortInts
import HandS.SortKw
import KE.DatumOrd
set_option Elab.async false
-- text MA
section
set_option Elab.async false
set_option linter.all false
set_option maxRecDepth 100000
set_option maxHeartbeats 4000000
/-! MA: the mirror layer. Values without a heap (D), what stands for them (R), a def's slots (E), the state (Sta), and what a reading does to it (Sim). -/
namespace Mi
open PySem PySem.Spec PyProof.Rows L2

/-- a caught exception: itself, its dict, its class -/
structure Xc where
  a : Addr
  d : Option Addr
  v : Value
/-- a Python value as plain data. mls, mdc: a list, a dict that one slot alone holds and that may change -/
inductive D where
  | non | bl (b : Bool) | int (i : Int) | str (x : List Nat) | cv (v : V)
  | tup (ds : List D) | lst (ds : List D) | rol (ds : List D) | mls (ds : List D) | fdc (kds : List (Key × D)) | mdc (kds : List (Key × D)) | exc (c : Xc) (k : Nat) (fs : List (Nat × D)) | ins (k : Nat) (fs : List (Nat × D))
def D.fz : D → Bool
  | .mls _ => false
  | .mdc _ => false
  | .ins _ _ => false
  | _ => true
abbrev Env := List (Option D)
structure Er where
  cls : Nat
  fs : List (Nat × D)
abbrev DK := D → Env → Prop
abbrev EK := Er → Env → Prop
abbrev METy := Env → DK → EK → Prop
abbrev MTTy := Env → (Bool → Env → Prop) → EK → Prop
abbrev MATy := Env → (List D → Env → Prop) → EK → Prop
structure Es where
  nx : Env → Prop
  rt : DK
  bk : Env → Prop
  ct : Env → Prop
  ex : EK
abbrev MSTy := Es → Env → Prop
abbrev Frg := PySem.W.Frag
/-! the program's classes, by number -/
def cname : Nat → Str
  | 0 => "SaidError"
  | 1 => "DataError"
  | 2 => "AskError"
  | 3 => "CallError"
  | 4 => "TextError"
  | 5 => "BadSign"
  | 6 => "BadRules"
  | 7 => "BadCuts"
  | 8 => "BadPrices"
  | 9 => "BadPatch"
  | 10 => "BadBytes"
  | 11 => "BadBook"
  | 12 => "NoSuch"
  | 13 => "BadCall"
  | 14 => "BadText"
  | 15 => "BadCommand"
  | 16 => "Unpacker"
  | 17 => "Grower"
  | 18 => "Stepper"
  | 19 => "Book"
  | _ => ""
def xpar : Nat → Nat
  | 5 => 1 | 6 => 1 | 7 => 1 | 8 => 1 | 9 => 1 | 10 => 1 | 11 => 1
  | 12 => 2
  | 13 => 3
  | 14 => 4 | 15 => 4
  | k => k
/-- is class k one of class j's -/
def isSub (k j : Nat) : Bool := k.beq j || (j.beq 0 || (xpar k).beq j)
/-! fields, by number -/
def fnames : List Str := ["at", "word", "name", "line", "state", "made", "told", "waiting", "pages", "taken", "weight", "rules", "steps", "number", "elders", "signs", "wrong", "wanted", "kept", "stretches", "first", "begun", "patch", "places"]
def fname (k : Nat) : Str := fnames.getD k ""
theorem fname_inj {i j : Nat} (hi : i < 24) (h : j.beq i = false) : (fname i == fname j) = false := by
  by_cases hj : j < 24
  · have all : ∀ i, i < 24 → ∀ j, j < 24 → j.beq i = false → (fname i == fname j) = false := by decide +kernel
    exact all i hi j hj h
  · have e : fname j = "" := by
      unfold fname
      rw [List.getD_eq_getElem?_getD, List.getElem?_eq_none (by show 24 ≤ j; omega)]
      rfl
    rw [e]
    have all : ∀ i, i < 24 → (fname i == ("" : Str)) = false := by decide +kernel
    exact all i hi
def getF (fs : List (Nat × α)) (f : Nat) : Option α := match fs with
  | [] => none
  | p :: r => match p.1.beq f with
    | true => some p.2
    | false => getF r f
/-- an own exception class, as the law's main has it -/
def GoodX (K : Frg) (k : Nat) (v : Value) : Prop := ∃ C, v = .ref C ∧ XfC K C ∧ ExcC K C ∧ (∀ f, f < 4 → PySem.W.findIn K (.ref C) (fname f) = some none) ∧
  ∀ j CY, j < 16 → PySem.W.nsIn K mainGlobals (cname j) = some (some (.ref CY)) → PySem.W.subIn K (.ref C) (.ref CY) = some (isSub k j)
/-- an own plain class -/
def GoodC (K : Frg) (k : Nat) (C : Addr) : Prop := PySem.W.nsIn K mainGlobals (cname k) = some (some (.ref C)) ∧ Cls K C

inductive Atom : V → D → Prop
  | non : Atom .non .non
  | bl {b} : Atom (.bl b) (.bl b)
  | int {i} : Atom (.int i) (.int i)
  | str {x} : x.length ≤ sizeLine → Atom (.str ⟨x.toArray⟩) (.str x)
  | cv {v} : Atom v (.cv v)

/-- the values vs are, over the heap, the data ds; S: the objects that may change, each held once; G: those that no frozen one may be -/
inductive R (K : Frg) (G : Addr → Prop) (H : Hp) : List V → List D → List Addr → Prop
  | nil : R K G H [] [] []
  | at {v d vs ds S} : Atom v d → R K G H vs ds S → R K G H (v :: vs) (d :: ds) S
  | tup {a ws es vs ds S} : SqT K H a ws → R K G H ws es [] → R K G H vs ds S → R K G H (.ref a :: vs) (.tup es :: ds) S
  | lst {a ws es vs ds S} : ¬ G a → H a = some (.lst ws) → R K G H ws es [] → R K G H vs ds S → R K G H (.ref a :: vs) (.lst es :: ds) S
  | rol {a ws es vs ds S} : ((∀ H', SqL K H' a ws) ∨ ∃ o, H a = some (.frz o (.lst ws))) → R K G H ws es [] → R K G H vs ds S → R K G H (.ref a :: vs) (.rol es :: ds) S
  | mls {a ws es vs ds S1 S} : H a = some (.lst ws) → R K G H ws es S1 → R K G H vs ds S → R K G H (.ref a :: vs) (.mls es :: ds) (a :: (S1 ++ S))
  | fdc {a} {kvs : List (Key × V)} {kds : List (Key × D)} {vs ds S} : ¬ G a → H a = some (.dK kvs) → kvs.map (·.1) = kds.map (·.1) → R K G H (kvs.map (·.2)) (kds.map (·.2)) [] → R K G H vs ds S → R K G H (.ref a :: vs) (.fdc kds :: ds) S
  | mdc {a} {kvs : List (Key × V)} {kds : List (Key × D)} {vs ds S1 S} : H a = some (.dK kvs) → kvs.map (·.1) = kds.map (·.1) → R K G H (kvs.map (·.2)) (kds.map (·.2)) S1 → R K G H vs ds S → R K G H (.ref a :: vs) (.mdc kds :: ds) (a :: (S1 ++ S))
  | exc {c : Xc} {dx : Addr} {k : Nat} {fv : List (Str × V)} {fs : List (Nat × D)} {vs ds S} : GoodX K k c.v → c.d = some dx → H dx = some (.xd fv) → fv.map (·.1) = fs.map (fun p => fname p.1) → R K G H (fv.map (·.2)) (fs.map (·.2)) [] → R K G H vs ds S → R K G H (.ref c.a :: vs) (.exc c k fs :: ds) S
  | ins {a C dx : Addr} {k : Nat} {fv : List (Str × V)} {fs : List (Nat × D)} {vs ds S1 S} : H a = some (.ins C dx fv) → GoodC K k C → fv.map (·.1) = fs.map (fun p => fname p.1) → R K G H (fv.map (·.2)) (fs.map (·.2)) S1 → R K G H vs ds S → R K G H (.ref a :: vs) (.ins k fs :: ds) (a :: (S1 ++ S))

section
variable {K : Frg} {G G' : Addr → Prop} {H H' : Hp} {C : Addr → Prop}
theorem rd_keep {u : HO} {a : Addr} (keep : ∀ a o, H a = some o → ¬ C a → H' a = some o) (hC : ∀ a, C a → G a ∧ Mut (H a)) (h : Rd H a u) (n : ¬ C a ∨ ¬ Mut (some u)) : Rd H' a u := by
  rcases h with h | ⟨o, h⟩
  · refine .inl (keep _ _ h fun c => ?_)
    rcases n with n | n
    · exact n c
    · have := (hC a c).2
      rw [h] at this
      exact n this
  · refine .inr ⟨o, keep _ _ h fun c => ?_⟩
    have := (hC a c).2
    rw [h] at this
    exact this
theorem R.mono (keep : ∀ a o, H a = some o → ¬ C a → H' a = some o) (hC : ∀ a, C a → G a ∧ Mut (H a)) (hG : ∀ a o, H a = some o → ¬ G a → ¬ G' a) :
    ∀ {vs ds S}, R K G H vs ds S → (∀ a ∈ S, ¬ C a) → R K G' H' vs ds S := by
  intro vs ds S r
  induction r with
  | nil => intro _; exact .nil
  | «at» h _ ih => intro n; exact .at h (ih n)
  | tup h _ _ ih1 ih2 =>
    intro n
    refine .tup ?_ (ih1 (fun _ z => absurd z (by simp))) (ih2 n)
    rcases h with h | h
    · exact .inl (rd_keep keep hC h (.inr fun z => z))
    · exact .inr h
  | @lst a ws es vs ds S na h _ _ ih1 ih2 =>
    intro n
    exact .lst (hG a _ h na) (keep _ _ h fun c => na (hC a c).1) (ih1 (fun _ z => absurd z (by simp))) (ih2 n)
  | rol h _ _ ih1 ih2 =>
    intro n
    refine .rol ?_ (ih1 (fun _ z => absurd z (by simp))) (ih2 n)
    rcases h with h | ⟨o, h⟩
    · exact .inl h
    · refine .inr ⟨o, keep _ _ h fun c => ?_⟩
      have := (hC _ c).2
      rw [h] at this
      exact this
  | mls h _ _ ih1 ih2 =>
    intro n
    exact .mls (keep _ _ h (n _ (by simp))) (ih1 fun a z => n a (by simp [z])) (ih2 fun a z => n a (by simp [z]))
  | @fdc a kvs kds vs ds S na h hk _ _ ih1 ih2 =>
    intro n
    exact .fdc (hG a _ h na) (keep _ _ h fun c => na (hC a c).1) hk (ih1 (fun _ z => absurd z (by simp))) (ih2 n)
  | mdc h hk _ _ ih1 ih2 =>
    intro n
    exact .mdc (keep _ _ h (n _ (by simp))) hk (ih1 fun a z => n a (by simp [z])) (ih2 fun a z => n a (by simp [z]))
  | exc g hd h hk _ _ ih1 ih2 =>
    intro n
    refine .exc g hd (keep _ _ h fun c => ?_) hk (ih1 (fun _ z => absurd z (by simp))) (ih2 n)
    have := (hC _ c).2
    rw [h] at this
    exact this
  | ins h g hk _ _ ih1 ih2 =>
    intro n
    exact .ins (keep _ _ h (n _ (by simp))) g hk (ih1 fun a z => n a (by simp [z])) (ih2 fun a z => n a (by simp [z]))
theorem R.mem : ∀ {vs ds S}, R K G H vs ds S → ∀ a ∈ S, Mut (H a) := by
  intro vs ds S r
  induction r with
  | nil => intro a z; simp at z
  | «at» _ _ ih => exact ih
  | tup _ _ _ _ ih => exact ih
  | lst _ _ _ _ _ ih => exact ih
  | rol _ _ _ _ ih => exact ih
  | mls h _ _ ih1 ih2 =>
    intro b z
    simp only [List.mem_cons, List.mem_append] at z
    rcases z with rfl | z | z
    · rw [h]; trivial
    · exact ih1 b z
    · exact ih2 b z
  | fdc _ _ _ _ _ _ ih => exact ih
  | mdc h _ _ _ ih1 ih2 =>
    intro b z
    simp only [List.mem_cons, List.mem_append] at z
    rcases z with rfl | z | z
    · rw [h]; trivial
    · exact ih1 b z
    · exact ih2 b z
  | exc _ _ _ _ _ _ _ ih => exact ih
  | ins h _ _ _ _ ih1 ih2 =>
    intro b z
    simp only [List.mem_cons, List.mem_append] at z
    rcases z with rfl | z | z
    · rw [h]; trivial
    · exact ih1 b z
    · exact ih2 b z
theorem R.length : ∀ {vs ds S}, R K G H vs ds S → vs.length = ds.length := by
  intro vs ds S r
  induction r <;> simp_all
theorem R.app : ∀ {vs ds S ws es T}, R K G H vs ds S → R K G H ws es T → R K G H (vs ++ ws) (ds ++ es) (S ++ T) := by
  intro vs ds S ws es T r q
  induction r with
  | nil => exact q
  | «at» h _ ih => exact .at h ih
  | tup h h1 _ _ ih => exact .tup h h1 ih
  | lst n h h1 _ _ ih => exact .lst n h h1 ih
  | rol h h1 _ _ ih => exact .rol h h1 ih
  | mls h h1 _ _ ih =>
    have e : ∀ (a : Addr) (A B C : List Addr), (a :: (A ++ B)) ++ C = a :: (A ++ (B ++ C)) := by simp
    rw [e]
    exact .mls h h1 ih
  | fdc n h k h1 _ _ ih => exact .fdc n h k h1 ih
  | mdc h k h1 _ _ ih =>
    have e : ∀ (a : Addr) (A B C : List Addr), (a :: (A ++ B)) ++ C = a :: (A ++ (B ++ C)) := by simp
    rw [e]
    exact .mdc h k h1 ih
  | exc g hd h k h1 _ _ ih => exact .exc g hd h k h1 ih
  | ins h g k h1 _ _ ih =>
    have e : ∀ (a : Addr) (A B C : List Addr), (a :: (A ++ B)) ++ C = a :: (A ++ (B ++ C)) := by simp
    rw [e]
    exact .ins h g k h1 ih
/-- the first, the rest -/
theorem R.cut : ∀ {vs : List V} {ds : List D} {S}, R K G H vs ds S → ∀ v ws d es, vs = v :: ws → ds = d :: es → ∃ S1 S2, S = S1 ++ S2 ∧ R K G H [v] [d] S1 ∧ R K G H ws es S2 := by
  intro vs ds S r v ws d es e1 e2
  cases r with
  | nil => cases e1
  | «at» h r => cases e1; cases e2; exact ⟨[], _, rfl, .at h .nil, r⟩
  | tup h h1 r => cases e1; cases e2; exact ⟨[], _, rfl, .tup h h1 .nil, r⟩
  | lst n h h1 r => cases e1; cases e2; exact ⟨[], _, rfl, .lst n h h1 .nil, r⟩
  | rol h h1 r => cases e1; cases e2; exact ⟨[], _, rfl, .rol h h1 .nil, r⟩
  | @mls a ws' es' _ _ S1 S h h1 r => cases e1; cases e2; exact ⟨a :: (S1 ++ []), S, by simp, .mls h h1 .nil, r⟩
  | fdc n h k h1 r => cases e1; cases e2; exact ⟨[], _, rfl, .fdc n h k h1 .nil, r⟩
  | @mdc a _ _ _ _ S1 S h k h1 r => cases e1; cases e2; exact ⟨a :: (S1 ++ []), S, by simp, .mdc h k h1 .nil, r⟩
  | exc g hd h k h1 r => cases e1; cases e2; exact ⟨[], _, rfl, .exc g hd h k h1 .nil, r⟩
  | @ins a _ _ _ _ _ _ _ S1 S h g k h1 r => cases e1; cases e2; exact ⟨a :: (S1 ++ []), S, by simp, .ins h g k h1 .nil, r⟩
theorem R.uncons {v : V} {vs : List V} {d : D} {ds : List D} {S} (r : R K G H (v :: vs) (d :: ds) S) : ∃ S1 S2, S = S1 ++ S2 ∧ R K G H [v] [d] S1 ∧ R K G H vs ds S2 := r.cut _ _ _ _ rfl rfl
theorem R.cons {v : V} {vs : List V} {d : D} {ds : List D} {S T} (r : R K G H [v] [d] S) (q : R K G H vs ds T) : R K G H (v :: vs) (d :: ds) (S ++ T) := r.app q
theorem R.cons0 {v : V} {vs : List V} {d : D} {ds : List D} (r : R K G H [v] [d] []) (q : R K G H vs ds []) : R K G H (v :: vs) (d :: ds) [] := r.app q
theorem R.fz0 {v : V} {d : D} {S} (r : R K G H [v] [d] S) (h : d.fz = true) : S = [] := by
  cases r with
  | «at» _ r => cases r; rfl
  | tup _ _ r => cases r; rfl
  | lst _ _ _ r => cases r; rfl
  | rol _ _ r => cases r; rfl
  | mls _ _ r => cases h
  | fdc _ _ _ _ r => cases r; rfl
  | mdc _ _ _ r => cases h
  | exc _ _ _ _ _ r => cases r; rfl
  | ins _ _ _ _ r => cases h
theorem R.fz {v : V} {d : D} (r : R K G H [v] [d] []) : d.fz = true := by
  cases r <;> first | rfl | (rename_i h _; cases h <;> rfl)
/-- the i-th -/
theorem R.get : ∀ {vs ds S}, R K G H vs ds S → ∀ {i : Nat} {d : D}, ds[i]? = some d → ∃ v S1, vs[i]? = some v ∧ R K G H [v] [d] S1 ∧ ∀ a ∈ S1, a ∈ S := by
  intro vs
  induction vs with
  | nil =>
    intro ds S r i d e
    cases r
    simp at e
  | cons v vs ih =>
    intro ds S r i d e
    cases ds with
    | nil => cases r
    | cons d0 ds =>
      obtain ⟨S1, S2, rfl, r1, r2⟩ := r.uncons
      cases i with
      | zero =>
        simp at e; subst e
        exact ⟨v, S1, rfl, r1, fun a z => List.mem_append_left _ z⟩
      | succ i =>
        obtain ⟨w, S3, h1, h2, h3⟩ := ih r2 (i := i) (d := d) (by simpa using e)
        exact ⟨w, S3, by simpa using h1, h2, fun a z => List.mem_append_right _ (h3 a z)⟩
theorem R.get0 {vs ds} (r : R K G H vs ds []) {i : Nat} {d : D} (e : ds[i]? = some d) : ∃ v, vs[i]? = some v ∧ R K G H [v] [d] [] := by
  obtain ⟨v, S1, h1, h2, h3⟩ := r.get e
  have : S1 = [] := by
    cases S1 with
    | nil => rfl
    | cons x r => exact absurd (h3 x (by simp)) (by simp)
  subst this
  exact ⟨v, h1, h2⟩
theorem R.getV {vs ds S} (r : R K G H vs ds S) {i : Nat} {v : V} (e : vs[i]? = some v) : ∃ d, ds[i]? = some d := by
  have := r.length
  have hl : i < ds.length := by
    rw [← this]
    exact (List.getElem?_eq_some_iff.mp e).1
  exact ⟨ds[i], List.getElem?_eq_getElem hl⟩
end

/-! ### slots -/
inductive E (K : Frg) (G : Addr → Prop) (H : Hp) : L2.St → Env → List Addr → Prop
  | nil : E K G H [] [] []
  | dead {o σ ρ S} : E K G H σ ρ S → E K G H (o :: σ) (none :: ρ) S
  | live {v d σ ρ S1 S} : R K G H [v] [d] S1 → E K G H σ ρ S → E K G H (some v :: σ) (some d :: ρ) (S1 ++ S)
section
variable {K : Frg} {G G' : Addr → Prop} {H H' : Hp} {C : Addr → Prop}
theorem E.mono (keep : ∀ a o, H a = some o → ¬ C a → H' a = some o) (hC : ∀ a, C a → G a ∧ Mut (H a)) (hG : ∀ a o, H a = some o → ¬ G a → ¬ G' a) :
    ∀ {σ ρ S}, E K G H σ ρ S → (∀ a ∈ S, ¬ C a) → E K G' H' σ ρ S := by
  intro σ ρ S r
  induction r with
  | nil => intro _; exact .nil
  | dead _ ih => intro n; exact .dead (ih n)
  | live r _ ih => intro n; exact .live (r.mono keep hC hG fun a z => n a (by simp [z])) (ih fun a z => n a (by simp [z]))
theorem E.mem : ∀ {σ ρ S}, E K G H σ ρ S → ∀ a ∈ S, Mut (H a) := by
  intro σ ρ S r
  induction r with
  | nil => intro a z; simp at z
  | dead _ ih => exact ih
  | live r _ ih =>
    intro a z
    rcases List.mem_append.mp z with z | z
    · exact r.mem a z
    · exact ih a z
theorem E.length : ∀ {σ ρ S}, E K G H σ ρ S → σ.length = ρ.length := by
  intro σ ρ S r
  induction r <;> simp_all
theorem E.get : ∀ {σ ρ S}, E K G H σ ρ S → ∀ {i : Nat} {d : D}, ρ[i]? = some (some d) → ∃ v S1, σ[i]? = some (some v) ∧ R K G H [v] [d] S1 ∧ ∀ a ∈ S1, a ∈ S := by
  intro σ ρ S r
  induction r with
  | nil => intro i d e; simp at e
  | dead _ ih =>
    intro i d e
    cases i with
    | zero => simp at e
    | succ i =>
      obtain ⟨v, S1, h1, h2, h3⟩ := ih (i := i) (d := d) (by simpa using e)
      exact ⟨v, S1, by simpa using h1, h2, h3⟩
  | live r _ ih =>
    intro i d e
    cases i with
    | zero =>
      simp at e; subst e
      exact ⟨_, _, rfl, r, fun a z => List.mem_append_left _ z⟩
    | succ i =>
      obtain ⟨v, S1, h1, h2, h3⟩ := ih (i := i) (d := d) (by simpa using e)
      exact ⟨v, S1, by simpa using h1, h2, fun a z => List.mem_append_right _ (h3 a z)⟩
/-- a slot's data taken out -/
theorem E.take : ∀ {σ ρ S}, E K G H σ ρ S → ∀ {i : Nat} {d : D}, ρ[i]? = some (some d) → ∃ v S1 S2, σ[i]? = some (some v) ∧ R K G H [v] [d] S1 ∧ E K G H σ (ρ.set i none) S2 ∧ S.Perm (S1 ++ S2) := by
  intro σ ρ S r
  induction r with
  | nil => intro i d e; simp at e
  | dead _ ih =>
    intro i d e
    cases i with
    | zero => simp at e
    | succ i =>
      obtain ⟨v, S1, S2, h1, h2, h3, h4⟩ := ih (i := i) (d := d) (by simpa using e)
      exact ⟨v, S1, S2, by simpa using h1, h2, .dead h3, h4⟩
  | @live v0 d0 σ ρ T1 T r q ih =>
    intro i d e
    cases i with
    | zero =>
      simp at e; subst e
      exact ⟨_, _, _, rfl, r, .dead q, List.Perm.refl _⟩
    | succ i =>
      obtain ⟨v, S1, S2, h1, h2, h3, h4⟩ := ih (i := i) (d := d) (by simpa using e)
      refine ⟨v, S1, T1 ++ S2, by simpa using h1, h2, .live r h3, ?_⟩
      refine (List.Perm.append_left T1 h4).trans ?_
      rw [← List.append_assoc, ← List.append_assoc]
      exact List.Perm.append_right _ List.perm_append_comm
/-- put in at an empty slot; the slot's value may be another one -/
theorem E.put : ∀ {σ ρ S}, E K G H σ ρ S → ∀ {i : Nat} {v : V} {d : D} {S1}, ρ[i]? = some none → R K G H [v] [d] S1 → ∃ S2, E K G H (σ.set i (some v)) (ρ.set i (some d)) S2 ∧ S2.Perm (S1 ++ S) := by
  intro σ ρ S r
  induction r with
  | nil => intro i v d S1 e; simp at e
  | @dead o σ ρ S q ih =>
    intro i v d S1 e rr
    cases i with
    | zero => exact ⟨_, .live rr q, List.Perm.refl _⟩
    | succ i =>
      obtain ⟨S2, h1, h2⟩ := ih (i := i) (by simpa using e) rr
      exact ⟨S2, .dead h1, h2⟩
  | @live v0 d0 σ ρ T1 T r q ih =>
    intro i v d S1 e rr
    cases i with
    | zero => simp at e
    | succ i =>
      obtain ⟨S2, h1, h2⟩ := ih (i := i) (by simpa using e) rr
      refine ⟨T1 ++ S2, .live r h1, ?_⟩
      refine (List.Perm.append_left T1 h2).trans ?_
      rw [← List.append_assoc, ← List.append_assoc]
      exact List.Perm.append_right _ List.perm_append_comm
theorem E.kill : ∀ {σ ρ S}, E K G H σ ρ S → ∀ (i : Nat), ∃ S2, E K G H σ (ρ.set i none) S2 ∧ ∃ S1, S.Perm (S1 ++ S2) := by
  intro σ ρ S r i
  cases e : ρ[i]? with
  | none =>
    refine ⟨S, ?_, [], List.Perm.refl _⟩
    rw [List.set_eq_of_length_le (List.getElem?_eq_none_iff.mp e)]
    exact r
  | some o =>
    cases o with
    | none =>
      refine ⟨S, ?_, [], List.Perm.refl _⟩
      have hl := (List.getElem?_eq_some_iff.mp e).1
      have he : ρ[i] = none := (List.getElem?_eq_some_iff.mp e).2
      rw [show ρ.set i none = ρ by
        apply List.ext_getElem?
        intro j
        rw [List.getElem?_set]
        split
        · rename_i h; subst h
          rw [e]
          first | rw [if_pos hl] | skip
        · rfl]
      exact r
    | some d =>
      obtain ⟨v, S1, S2, _, _, h3, h4⟩ := r.take e
      exact ⟨S2, h3, S1, h4⟩
/-- another value in the frame's slot of an empty place -/
theorem E.setV : ∀ {σ ρ S}, E K G H σ ρ S → ∀ {i : Nat} {o : Option V}, ρ[i]? = some none → E K G H (σ.set i o) ρ S := by
  intro σ ρ S r
  induction r with
  | nil => intro i o e; simp at e
  | dead q ih =>
    intro i o e
    cases i with
    | zero => exact .dead q
    | succ i => exact .dead (ih (i := i) (by simpa using e))
  | live r q ih =>
    intro i o e
    cases i with
    | zero => simp at e
    | succ i => exact .live r (ih (i := i) (by simpa using e))
end

/-! ### the state -/
/-- the background: objects of those around that may change (not by us), slots that keep their object -/
structure Bg where
  G0 : Addr → Prop
  pn : List (Nat × V)
def Gof (F : List Addr) (B : Bg) : Addr → Prop := fun a => a ∈ F ∨ B.G0 a
structure Sta (K : Frg) (B : Bg) (F : List Addr) (σ : L2.St) (ρ : Env) (H : Hp) : Prop where
  env : E K (Gof F B) H σ ρ F
  nd : F.Nodup
  ap : ∀ a ∈ F, ¬ B.G0 a
  old : ∀ a, B.G0 a → Mut (H a)
  pin : ∀ p ∈ B.pn, σ[p.1]? = some (some p.2)
structure Stp (F : List Addr) (H : Hp) (F' : List Addr) (H' : Hp) : Prop where
  keep : ∀ a o, H a = some o → a ∉ F → H' a = some o
  fresh : ∀ a ∈ F', a ∈ F ∨ H a = none
  dom : ∀ a o, H a = some o → ∃ o', H' a = some o'
structure Aft (b : Bool) (F : List Addr) (H : Hp) (ρ : Env) (F' : List Addr) (H' : Hp) (ρ' : Env) : Prop where
  stp : Stp F H F' H'
  pure : b = true → F' = F ∧ ρ' = ρ ∧ Same H H'

/-- with more objects that are not to be touched -/
def Bg.andS (B : Bg) (S : List Addr) : Bg := ⟨fun a => B.G0 a ∨ a ∈ S, B.pn⟩
theorem Sta.congr {K : Frg} {B B' : Bg} {F : List Addr} {σ : L2.St} {ρ : Env} {H : Hp} (s : Sta K B F σ ρ H) (h : ∀ a, B'.G0 a ↔ B.G0 a) (hp : B'.pn = B.pn) : Sta K B' F σ ρ H :=
  ⟨s.env.mono (C := fun _ => False) (fun _ _ e _ => e) (fun _ z => z.elim) (fun a o _ n z => n (by
    rcases z with z | z
    · exact .inl z
    · exact .inr ((h a).mp z))) fun _ _ z => z, s.nd, fun a z q => s.ap a z ((h a).mp q), fun a z => s.old a ((h a).mp z), fun p z => s.pin p (by rw [← hp]; exact z)⟩
theorem Sta.nilS {K : Frg} {B : Bg} {F : List Addr} {σ : L2.St} {ρ : Env} {H : Hp} (s : Sta K B F σ ρ H) : Sta K (B.andS []) F σ ρ H := s.congr (fun a => by unfold Bg.andS; simp) rfl
theorem Sta.ofNilS {K : Frg} {B : Bg} {F : List Addr} {σ : L2.St} {ρ : Env} {H : Hp} (s : Sta K (B.andS []) F σ ρ H) : Sta K B F σ ρ H := s.congr (fun a => by unfold Bg.andS; simp) rfl
theorem gofS {B : Bg} {F S : List Addr} {a : Addr} : Gof F (B.andS S) a ↔ (Gof F B a ∨ a ∈ S) := by
  unfold Gof Bg.andS
  constructor
  · rintro (h | h | h)
    · exact .inl (.inl h)
    · exact .inl (.inr h)
    · exact .inr h
  · rintro ((h | h) | h)
    · exact .inl h
    · exact .inr (.inl h)
    · exact .inr (.inr h)
/-- let go again -/
theorem Sta.dropS {K : Frg} {B : Bg} {F S : List Addr} {σ : L2.St} {ρ : Env} {H : Hp} (s : Sta K (B.andS S) F σ ρ H) : Sta K B F σ ρ H :=
  ⟨s.env.mono (C := fun _ => False) (fun _ _ e _ => e) (fun _ z => z.elim) (fun a o _ n z => n (gofS.mpr (.inl z))) fun _ _ z => z, s.nd, fun a z q => s.ap a z (.inl q), fun a z => s.old a (.inl z), s.pin⟩
theorem mut_ne {o : Option HO} (h : Mut o) : ∃ u, o = some u := by
  cases o with
  | none => exact h.elim
  | some u => exact ⟨u, rfl⟩
section
variable {K : Frg} {B : Bg} {F F1 F2 : List Addr} {H H1 H2 : Hp} {σ : L2.St} {ρ ρ1 ρ2 : Env} {b b1 b2 : Bool}
theorem Stp.refl : Stp F H F H := ⟨fun _ _ h _ => h, fun _ h => .inl h, fun _ o h => ⟨o, h⟩⟩
theorem Stp.trans (x : Stp F H F1 H1) (y : Stp F1 H1 F2 H2) : Stp F H F2 H2 := by
  refine ⟨fun a o h n => ?_, fun a h => ?_, fun a o h => ?_⟩
  · refine y.keep a o (x.keep a o h n) fun z => ?_
    rcases x.fresh a z with q | q
    · exact n q
    · rw [h] at q; cases q
  · rcases y.fresh a h with q | q
    · exact x.fresh a q
    · right
      cases e : H a with
      | none => rfl
      | some o =>
        obtain ⟨o', e'⟩ := x.dom a o e
        rw [e'] at q; cases q
  · obtain ⟨o', e⟩ := x.dom a o h
    exact y.dom a o' e
theorem Stp.same (h : Same H H1) : Stp F H F H1 := ⟨fun a o e _ => h a o e, fun _ h => .inl h, fun a o e => ⟨o, h a o e⟩⟩
theorem Aft.refl : Aft b F H ρ F H ρ := ⟨.refl, fun _ => ⟨rfl, rfl, Same.refl _⟩⟩
theorem Aft.trans (x : Aft b1 F H ρ F1 H1 ρ1) (y : Aft b2 F1 H1 ρ1 F2 H2 ρ2) : Aft (b1 && b2) F H ρ F2 H2 ρ2 := by
  refine ⟨x.stp.trans y.stp, fun h => ?_⟩
  rw [Bool.and_eq_true] at h
  obtain ⟨e1, e2, e3⟩ := x.pure h.1
  obtain ⟨f1, f2, f3⟩ := y.pure h.2
  exact ⟨f1.trans e1, f2.trans e2, e3.trans f3⟩
theorem Aft.same (h : Same H H1) : Aft b F H ρ F H1 ρ := ⟨.same h, fun _ => ⟨rfl, rfl, h⟩⟩
theorem Aft.ext (x : Aft b F H ρ F1 H1 ρ1) (h : Same H1 H2) : Aft b F H ρ F1 H2 ρ1 := by
  have := x.trans (Aft.same (b := b) (F := F1) (ρ := ρ1) h)
  rwa [Bool.and_self] at this
theorem Aft.weak (x : Aft b F H ρ F1 H1 ρ1) (h : b1 = true → b = true) : Aft b1 F H ρ F1 H1 ρ1 := ⟨x.stp, fun e => x.pure (h e)⟩
theorem Sta.memF (s : Sta K B F σ ρ H) {a : Addr} (h : a ∈ F) : Mut (H a) := s.env.mem a h
theorem Sta.memG (s : Sta K B F σ ρ H) {a : Addr} (h : Gof F B a) : Mut (H a) := by
  rcases h with h | h
  · exact s.memF h
  · exact s.old a h
/-- the state over a larger heap -/
theorem Sta.ext (s : Sta K B F σ ρ H) (h : Same H H1) : Sta K B F σ ρ H1 := by
  refine ⟨s.env.mono (C := fun _ => False) (fun a o e _ => h a o e) (fun _ z => z.elim) (fun _ _ _ n => n) (fun _ _ z => z), s.nd, s.ap, fun a z => ?_, s.pin⟩
  obtain ⟨u, e⟩ := mut_ne (s.old a z)
  rw [h a u e, ← e]
  exact s.old a z
/-- frozen data behind a step -/
theorem R.aft {vs : List V} {ds : List D} (r : R K (Gof F B) H vs ds []) (s : Sta K B F σ ρ H) (s1 : Sta K B F1 σ ρ1 H1) (x : Stp F H F1 H1) : R K (Gof F1 B) H1 vs ds [] := by
  refine r.mono (C := fun a => a ∈ F) (fun a o e n => x.keep a o e n) (fun a z => ⟨.inl z, s.memF z⟩) (fun a o e n z => ?_) (fun _ z => absurd z (by simp))
  rcases z with z | z
  · rcases x.fresh a z with q | q
    · exact n (.inl q)
    · rw [e] at q; cases q
  · exact n (.inr z)
theorem R.aftσ {vs : List V} {ds : List D} (r : R K (Gof F B) H vs ds []) (s : Sta K B F σ ρ H) (x : Stp F H F1 H1) : R K (Gof F1 B) H1 vs ds [] := by
  refine r.mono (C := fun a => a ∈ F) (fun a o e n => x.keep a o e n) (fun a z => ⟨.inl z, s.memF z⟩) (fun a o e n z => ?_) (fun _ z => absurd z (by simp))
  rcases z with z | z
  · rcases x.fresh a z with q | q
    · exact n (.inl q)
    · rw [e] at q; cases q
  · exact n (.inr z)
/-- any data over a larger heap -/
theorem R.same {G : Addr → Prop} {vs : List V} {ds : List D} {S} (r : R K G H vs ds S) (h : Same H H1) : R K G H1 vs ds S :=
  r.mono (C := fun _ => False) (fun a o e _ => h a o e) (fun _ z => z.elim) (fun _ _ _ n => n) (fun _ _ z => z)
theorem R.aftV {vs : List V} {ds : List D} {S} (r : R K (Gof F B) H vs ds S) (s : Sta K B F σ ρ H) (x : Aft b F H ρ F1 H1 ρ1) (h : S = [] ∨ b = true) : R K (Gof F1 B) H1 vs ds S := by
  rcases h with h | h
  · subst h
    exact r.aftσ s x.stp
  · obtain ⟨e, _, q⟩ := x.pure h
    subst e
    exact r.same q
end

/-! ### what a reading does -/
def RErr (K : Frg) (G : Addr → Prop) (H : Hp) (cls : Value) (dx : Option Addr) (er : Er) : Prop :=
  ∃ a, dx = some a ∧ GoodX K er.cls cls ∧ ∃ fv : List (Str × V), H a = some (.xd fv) ∧ fv.map (·.1) = er.fs.map (fun p => fname p.1) ∧ R K G H (fv.map (·.2)) (er.fs.map (·.2)) []
def KE (K : Frg) (B : Bg) (vw b : Bool) (F : List Addr) (σ : L2.St) (ρ : Env) (H : Hp) (Q : VK) (q : DK) : Prop :=
  ∀ v d ρ' F' H' S, Sta K B F' σ ρ' H' → R K (Gof F' B) H' [v] [d] S → (∀ a ∈ S, a ∈ F') → (vw = false → S = []) → Aft b F H ρ F' H' ρ' → q d ρ' → Q v H'
def KT (K : Frg) (B : Bg) (b : Bool) (F : List Addr) (σ : L2.St) (ρ : Env) (H : Hp) (Q : Bool → Hp → Prop) (q : Bool → Env → Prop) : Prop :=
  ∀ c ρ' F' H', Sta K B F' σ ρ' H' → Aft b F H ρ F' H' ρ' → q c ρ' → Q c H'
def KA (K : Frg) (B : Bg) (vw b : Bool) (F : List Addr) (σ : L2.St) (ρ : Env) (H : Hp) (Q : List V → Hp → Prop) (q : List D → Env → Prop) : Prop :=
  ∀ vs ds ρ' F' H' S, Sta K B F' σ ρ' H' → R K (Gof F' B) H' vs ds S → (∀ a ∈ S, a ∈ F') → (vw = false → S = []) → Aft b F H ρ F' H' ρ' → q ds ρ' → Q vs H'
def KX (K : Frg) (B : Bg) (W : WX) (F : List Addr) (σ : L2.St) (H : Hp) (x : EK) : Prop :=
  ∀ er ρ' F' H' cls dx, Sta K B F' σ ρ' H' → RErr K (Gof F' B) H' cls dx er → Stp F H F' H' → x er ρ' → W cls dx σ H'
/-- vw: the value may be one that a slot holds; b: nothing changes -/
def Sim (K : Frg) (W : WX) (vw b : Bool) (te : TE) (t : METy) : Prop := ∀ B F σ ρ H Q q x, Sta K B F σ ρ H → t ρ q x → KE K B vw b F σ ρ H Q q → KX K B W F σ H x → te σ H Q
def SimT (K : Frg) (W : WX) (b : Bool) (te : TT) (t : MTTy) : Prop := ∀ B F σ ρ H Q q x, Sta K B F σ ρ H → t ρ q x → KT K B b F σ ρ H Q q → KX K B W F σ H x → te σ H Q
def SimA (K : Frg) (W : WX) (vw b : Bool) (te : TA) (t : MATy) : Prop := ∀ B F σ ρ H Q q x, Sta K B F σ ρ H → t ρ q x → KA K B vw b F σ ρ H Q q → KX K B W F σ H x → te σ H Q
section
variable {K : Frg} {B : Bg} {W : WX} {F F1 F2 : List Addr} {H H1 H2 : Hp} {σ : L2.St} {ρ ρ1 ρ2 : Env} {b b1 b2 : Bool} {x : EK}
theorem KX.aft (h : KX K B W F σ H x) (a : Stp F H F1 H1) : KX K B W F1 σ H1 x := fun er ρ' F' H' cls dx s r z q => h er ρ' F' H' cls dx s r (a.trans z) q
end
end Mi
end

-- text MB
section
set_option Elab.async false
set_option linter.all false
set_option maxRecDepth 100000
set_option maxHeartbeats 4000000
/-! MB: expressions. -/
namespace Mi
open PySem PySem.Spec PyProof.Rows L2
section
variable {K : Frg} {W : WX} {vw vw1 vw2 b b1 b2 : Bool} {te ta tb : TE} {t ma mb : METy}

/-! ### names, constants -/
def mVar (i : Nat) : METy := fun ρ q _ => match ρ[i]? with
  | some (some d) => q d ρ
  | _ => False
def mVarF (i : Nat) : METy := fun ρ q _ => match ρ[i]? with
  | some (some d) => (match d.fz with
    | true => q d ρ
    | false => False)
  | _ => False
def mC (d : D) : METy := fun ρ q _ => q d ρ
theorem sim_var {i : Nat} : Sim K W true true (tVar i) (mVar i) := by
  intro B F σ ρ H Q q x s h k _
  unfold mVar at h
  split at h
  · rename_i d e
    obtain ⟨v, S1, h1, h2, h3⟩ := s.env.get e
    exact ⟨v, h1, k v d ρ F H S1 s h2 h3 (fun z => nomatch z) .refl h⟩
  · exact h.elim
theorem sim_varF {i : Nat} : Sim K W false true (tVar i) (mVarF i) := by
  intro B F σ ρ H Q q x s h k _
  unfold mVarF at h
  split at h
  · rename_i d e
    obtain ⟨v, S1, h1, h2, h3⟩ := s.env.get e
    split at h
    · rename_i hf
      exact ⟨v, h1, k v d ρ F H S1 s h2 h3 (fun _ => h2.fz0 hf) .refl h⟩
    · exact h.elim
  · exact h.elim
theorem sim_c {v : V} {d : D} (a : Atom v d) : Sim K W false true (tC v) (mC d) := by
  intro B F σ ρ H Q q x s h k _
  exact k v d ρ F H [] s (.at a .nil) (by simp) (fun _ => rfl) .refl h
theorem sim_int {i : Int} : Sim K W false true (tC (.int i)) (mC (.int i)) := sim_c .int
theorem sim_bl {i : Bool} : Sim K W false true (tC (.bl i)) (mC (.bl i)) := sim_c .bl
theorem sim_non : Sim K W false true (tC .non) (mC .non) := sim_c .non
theorem sim_str (l : List Nat) {x : Str} (h : x = ⟨l.toArray⟩) (hl : l.length ≤ sizeLine) : Sim K W false true (tC (.str x)) (mC (.str l)) := by
  subst h
  exact sim_c (.str hl)
theorem Sim.view (h : Sim K W false b te t) : Sim K W true b te t := fun B F σ ρ H Q q x s p k e => h B F σ ρ H Q q x s p (fun v d ρ' F' H' S s' r m z a y => k v d ρ' F' H' S s' r m (fun e => nomatch e) a y) e

/-! ### two places -/
abbrev F2 := D → D → (D → Prop) → Prop
/-- all that G names stands in H -/
def Dom (G : Addr → Prop) (H : Hp) : Prop := ∀ a, G a → ∃ o, H a = some o
theorem Sta.dom {B : Bg} {F : List Addr} {σ : L2.St} {ρ : Env} {H : Hp} (s : Sta K B F σ ρ H) : Dom (Gof F B) H := fun a z => mut_ne (s.memG z)
/-- fresh addresses are named by no G -/
theorem Dom.new {G : Addr → Prop} {H : Hp} (d : Dom G H) {p : Addr} (h : H p = none) : ¬ G p := fun z => by
  obtain ⟨o, e⟩ := d p z
  rw [h] at e; cases e
def RK (K : Frg) (G : Addr → Prop) (H : Hp) (Q : VK) (q : D → Prop) : Prop := ∀ v d H', Same H H' → R K G H' [v] [d] [] → q d → Q v H'
def RSim (K : Frg) (r : R2) (f : F2) : Prop := ∀ G H v1 v2 d1 d2 S1 S2 Q q, Dom G H → R K G H [v1] [d1] S1 → R K G H [v2] [d2] S2 → f d1 d2 q → RK K G H Q q → r v1 v2 H Q
def mOp (f : F2) (ma mb : METy) : METy := fun ρ q x => ma ρ (fun d1 ρ1 => mb ρ1 (fun d2 ρ2 => f d1 d2 (fun d => q d ρ2)) x) x
theorem sim_op {r : R2} {f : F2} (hr : RSim K r f) (ha : Sim K W vw1 b1 ta ma) (hb : Sim K W vw2 b2 tb mb) (hv : (!vw1 || b2) = true := by rfl) : Sim K W false (b1 && b2) (tOp r ta tb) (mOp f ma mb) := by
  intro B F σ ρ H Q q x s h k e
  refine ha B F σ ρ H _ _ x s h (fun v1 d1 ρ1 F1 H1 S1 s1 r1 m1 z1 a1 h1 => ?_) e
  refine hb B F1 σ ρ1 H1 _ _ x s1 h1 (fun v2 d2 ρ2 F2 H2 S2 s2 r2 m2 z2 a2 h2 => ?_) (e.aft a1.stp)
  have hs : S1 = [] ∨ b2 = true := by
    cases vw1 with
    | false => exact .inl (z1 rfl)
    | true => exact .inr (by simpa using hv)
  refine hr (Gof F2 B) H2 v1 v2 d1 d2 S1 S2 Q _ s2.dom (r1.aftV s1 a2 hs) r2 h2 fun v d H' sm r p => ?_
  exact k v d ρ2 F2 H' [] (s2.ext sm) r (by simp) (fun _ => rfl) ((a1.trans a2).ext sm) p
/-- one place -/
def F1S := D → (D → Prop) → Prop
def USim (K : Frg) (r : V → Hp → VK → Prop) (f : D → (D → Prop) → Prop) : Prop := ∀ G H v1 d1 S1 Q q, Dom G H → R K G H [v1] [d1] S1 → f d1 q → RK K G H Q q → r v1 H Q
def mUn (f : D → (D → Prop) → Prop) (ma : METy) : METy := fun ρ q x => ma ρ (fun d1 ρ1 => f d1 (fun d => q d ρ1)) x
theorem sim_un {r : V → Hp → VK → Prop} {f : D → (D → Prop) → Prop} (hr : USim K r f) (ha : Sim K W vw1 b1 ta ma) : Sim K W false b1 (tUn r ta) (mUn f ma) := by
  intro B F σ ρ H Q q x s h k e
  refine ha B F σ ρ H _ _ x s h (fun v1 d1 ρ1 F1 H1 S1 s1 r1 m1 z1 a1 h1 => ?_) e
  refine hr (Gof F1 B) H1 v1 d1 S1 Q _ s1.dom r1 h1 fun v d H' sm r p => ?_
  exact k v d ρ1 F1 H' [] (s1.ext sm) r (by simp) (fun _ => rfl) (a1.ext sm) p

theorem opR_or {X : Cx} {f : Value → Value → Sem Value} {r1 r2 : R2} (h1 : OpR X f r1) (h2 : OpR X f r2) : OpR X f (fun x y H Q => r1 x y H Q ∨ r2 x y H Q) := by
  intro pins s σ H x y v u Q I rx ry h
  rcases h with h | h
  · exact h1 pins s σ H x y v u Q I rx ry h
  · exact h2 pins s σ H x y v u Q I rx ry h
abbrev rOr (r1 r2 : R2) : R2 := fun x y H Q => r1 x y H Q ∨ r2 x y H Q

/-! ### reading the relation -/
section
variable {G : Addr → Prop} {H : Hp} {v : V} {S : List Addr}
theorem R.int {i : Int} (r : R K G H [v] [.int i] S) : v = .int i := by
  cases r with
  | «at» h _ => cases h; rfl
theorem R.bl {i : Bool} (r : R K G H [v] [.bl i] S) : v = .bl i := by
  cases r with
  | «at» h _ => cases h; rfl
theorem R.non (r : R K G H [v] [.non] S) : v = .non := by
  cases r with
  | «at» h _ => cases h; rfl
theorem R.str {x : List Nat} (r : R K G H [v] [.str x] S) : v = .str ⟨x.toArray⟩ ∧ x.length ≤ sizeLine := by
  cases r with
  | «at» h _ => cases h with
    | str h => exact ⟨rfl, h⟩
theorem R.tupE {es : List D} (r : R K G H [v] [.tup es] S) : ∃ a ws, v = .ref a ∧ SqT K H a ws ∧ R K G H ws es [] := by
  cases r with
  | «at» h _ => cases h
  | tup h1 h2 _ => exact ⟨_, _, rfl, h1, h2⟩
theorem R.lstE {es : List D} (r : R K G H [v] [.lst es] S) : ∃ a ws, v = .ref a ∧ H a = some (.lst ws) ∧ R K G H ws es [] := by
  cases r with
  | «at» h _ => cases h
  | lst _ h1 h2 _ => exact ⟨_, _, rfl, h1, h2⟩
theorem R.mlsE {es : List D} (r : R K G H [v] [.mls es] S) : ∃ a ws S1, v = .ref a ∧ H a = some (.lst ws) ∧ R K G H ws es S1 := by
  cases r with
  | «at» h _ => cases h
  | mls h1 h2 _ => exact ⟨_, _, _, rfl, h1, h2⟩
theorem R.int1 {i : Int} : R K G H [.int i] [.int i] [] := .at .int .nil
theorem R.bl1 {i : Bool} : R K G H [.bl i] [.bl i] [] := .at .bl .nil
theorem R.non1 : R K G H [.non] [.non] [] := .at .non .nil
theorem R.str1 {x : List Nat} (h : x.length ≤ sizeLine) : R K G H [.str ⟨x.toArray⟩] [.str x] [] := .at (.str h) .nil
theorem same_upd {p : Addr} {o : HO} (h : H p = none) : Same H (upd H p o) := fun b x e => by
  rw [upd_ne (ne_of_none e h)]
  exact e
/-- a new tuple, a new list of frozen data -/
theorem R.newT {p : Addr} {ws : List V} {es : List D} (h : H p = none) (r : R K G H ws es []) : R K G (upd H p (.tup ws)) [.ref p] [.tup es] [] :=
  .tup (SqT.of upd_same) (r.same (same_upd h)) .nil
theorem R.newL {p : Addr} {ws : List V} {es : List D} (d : Dom G H) (h : H p = none) (r : R K G H ws es []) : R K G (upd H p (.lst ws)) [.ref p] [.lst es] [] :=
  .lst (d.new h) upd_same (r.same (same_upd h)) .nil
end
def sq : D → Option (List D)
  | .tup ds => some ds
  | .lst ds => some ds
  | .rol ds => some ds
  | .mls ds => some ds
  | _ => none
/-- a list | a tuple, read -/
theorem R.sqE {G : Addr → Prop} {H : Hp} {v : V} {S : List Addr} {d : D} {ds : List D} (r : R K G H [v] [d] S) (h : sq d = some ds) : ∃ a ws S1, v = .ref a ∧ (SqL K H a ws ∨ SqT K H a ws) ∧ R K G H ws ds S1 ∧ (∀ a ∈ S1, a ∈ S) := by
  cases r with
  | «at» h' _ => cases h' <;> cases h
  | tup h1 h2 _ => cases h; exact ⟨_, _, [], rfl, .inr h1, h2, by simp⟩
  | lst _ h1 h2 _ => cases h; exact ⟨_, _, [], rfl, .inl (.inl (.inl h1)), h2, by simp⟩
  | rol h1 h2 _ =>
    cases h
    refine ⟨_, _, [], rfl, .inl ?_, h2, by simp⟩
    rcases h1 with h1 | h1
    · exact h1 _
    · exact .inl (.inr h1)
  | mls h1 h2 _ => cases h; exact ⟨_, _, _, rfl, .inl (.inl (.inl h1)), h2, fun a z => by simp [z]⟩
  | fdc _ _ _ _ _ => cases h
  | mdc _ _ _ _ => cases h
  | exc _ _ _ _ _ _ => cases h
  | ins _ _ _ _ _ => cases h
/-- all frozen -/
def fzs (ds : List D) : Bool := ds.all D.fz
theorem R.fzs0 {G : Addr → Prop} {H : Hp} : ∀ {vs : List V} {ds : List D} {S}, R K G H vs ds S → fzs ds = true → S = [] := by
  intro vs
  induction vs with
  | nil => intro ds S r _; cases r; rfl
  | cons v vs ih =>
    intro ds S r h
    cases ds with
    | nil => cases r
    | cons d ds =>
      obtain ⟨S1, S2, rfl, r1, r2⟩ := r.uncons
      unfold fzs at h
      rw [List.all_cons, Bool.and_eq_true] at h
      rw [r1.fz0 h.1, ih r2 h.2]
      rfl

/-! ### arithmetic -/
theorem str_app (a c : List Nat) : ((⟨a.toArray⟩ : Str) ++ (⟨c.toArray⟩ : Str)) = (⟨(a ++ c).toArray⟩ : Str) := by
  show (⟨a.toArray ++ c.toArray⟩ : Str) = _
  simp
theorem str_len (a : List Nat) : (⟨a.toArray⟩ : Str).length = a.length := by
  show a.toArray.size = _
  simp
theorem line_eq : sizeLine = 16777216 := sizeLine_eq
def fAdd : F2 := fun x y q => match x, y with
  | .int i, .int j => q (.int (i + j))
  | .str a, .str c => a.length + c.length ≤ 16777216 ∧ q (.str (a ++ c))
  | .lst a, .lst c => a.length + c.length ≤ 16777216 ∧ q (.lst (a ++ c))
  | .mls a, .lst c => a.length + c.length ≤ 16777216 ∧ fzs a = true ∧ q (.lst (a ++ c))
  | .lst a, .mls c => a.length + c.length ≤ 16777216 ∧ fzs c = true ∧ q (.lst (a ++ c))
  | .mls a, .mls c => a.length + c.length ≤ 16777216 ∧ fzs a = true ∧ fzs c = true ∧ q (.lst (a ++ c))
  | .tup a, .tup c => a.length + c.length ≤ 16777216 ∧ q (.tup (a ++ c))
  | _, _ => False
abbrev rAddS : R2 := fun x y H Q => ∃ i j, x = .str i ∧ y = .str j ∧ i.length + j.length ≤ sizeLine ∧ Q (.str (i ++ j)) H
abbrev rAddA (K : Frg) : R2 := rOr (rI0 fun i j => .int (i + j)) (rOr rAddS (rOr rCat (rCatA K)))
theorem op_addA {X : Cx} : OpR X (binaryOp .Add) (rAddA X.K) := opR_or op_add (opR_or op_add_str (opR_or op_cat op_catA))
theorem R.lm {G : Addr → Prop} {H : Hp} {v : V} {S : List Addr} {d : D} {es : List D} (r : R K G H [v] [d] S) (h : d = .lst es ∨ (d = .mls es ∧ fzs es = true)) : ∃ a ws, v = .ref a ∧ H a = some (.lst ws) ∧ R K G H ws es [] := by
  rcases h with rfl | ⟨rfl, h⟩
  · exact r.lstE
  · obtain ⟨a, ws, S1, e, h1, h2⟩ := r.mlsE
    have := h2.fzs0 h
    subst this
    exact ⟨a, ws, e, h1, h2⟩
theorem cat_aux {G : Addr → Prop} {H : Hp} {v1 v2 : V} {S1 S2 : List Addr} {d1 d2 : D} {a c : List D} {Q : VK} {q : D → Prop} (dm : Dom G H) (r1 : R K G H [v1] [d1] S1) (r2 : R K G H [v2] [d2] S2)
    (e1 : d1 = .lst a ∨ (d1 = .mls a ∧ fzs a = true)) (e2 : d2 = .lst c ∨ (d2 = .mls c ∧ fzs c = true)) (hl : a.length + c.length ≤ 16777216) (h : q (.lst (a ++ c))) (k : RK K G H Q q) : rCat v1 v2 H Q := by
  obtain ⟨x, ws, rfl, hx, rx⟩ := r1.lm e1
  obtain ⟨y, zs, rfl, hy, ry⟩ := r2.lm e2
  refine ⟨x, y, ws, zs, rfl, rfl, hx, hy, by rw [rx.length, ry.length, line_eq]; exact hl, fun p hp => ?_⟩
  have := rx.app ry
  exact k _ _ _ (same_upd hp) (.newL dm hp this) h
theorem rs_add : RSim K (rAddA K) fAdd := by
  intro G H v1 v2 d1 d2 S1 S2 Q q dm r1 r2 h k
  unfold fAdd at h
  split at h
  · have := r1.int; have := r2.int; subst_vars
    exact .inl ⟨_, _, rfl, rfl, k _ _ H (Same.refl _) .int1 h⟩
  · obtain ⟨h1, h2⟩ := h
    obtain ⟨rfl, e1⟩ := r1.str
    obtain ⟨rfl, e2⟩ := r2.str
    refine .inr (.inl ⟨_, _, rfl, rfl, by rw [str_len, str_len, line_eq]; exact h1, ?_⟩)
    rw [str_app]
    exact k _ _ H (Same.refl _) (.str1 (by rw [List.length_append, line_eq]; exact h1)) h2
  · obtain ⟨h1, h2⟩ := h
    exact .inr (.inr (.inl (cat_aux dm r1 r2 (.inl rfl) (.inl rfl) h1 h2 k)))
  · obtain ⟨h1, h3, h2⟩ := h
    exact .inr (.inr (.inl (cat_aux dm r1 r2 (.inr ⟨rfl, h3⟩) (.inl rfl) h1 h2 k)))
  · obtain ⟨h1, h3, h2⟩ := h
    exact .inr (.inr (.inl (cat_aux dm r1 r2 (.inl rfl) (.inr ⟨rfl, h3⟩) h1 h2 k)))
  · obtain ⟨h1, h3, h4, h2⟩ := h
    exact .inr (.inr (.inl (cat_aux dm r1 r2 (.inr ⟨rfl, h3⟩) (.inr ⟨rfl, h4⟩) h1 h2 k)))
  · obtain ⟨h1, h2⟩ := h
    obtain ⟨x, ws, rfl, hx, rx⟩ := r1.tupE
    obtain ⟨y, zs, rfl, hy, ry⟩ := r2.tupE
    refine .inr (.inr (.inr ⟨x, y, ws, zs, rfl, rfl, hx, hy, by rw [rx.length, ry.length, line_eq]; exact h1, fun e => ?_, fun e e2 => ?_, fun e1 e2 p hp => ?_⟩))
    · subst e
      cases rx
      exact k _ _ H (Same.refl _) (.tup hy ry .nil) h2
    · subst e2
      cases ry
      rw [List.append_nil] at h2
      exact k _ _ H (Same.refl _) (.tup hx rx .nil) h2
    · exact k _ _ _ (same_upd hp) (.newT hp (rx.app ry)) h2
  · exact h.elim
/-- two ints -/
def fI (C : Int → Int → Prop) (g : Int → Int → D) : F2 := fun x y q => match x, y with
  | .int i, .int j => C i j ∧ q (g i j)
  | _, _ => False
def fI0 (g : Int → Int → D) : F2 := fun x y q => match x, y with
  | .int i, .int j => q (g i j)
  | _, _ => False
theorem rs_I0 {g : Int → Int → V} {g' : Int → Int → D} (hg : ∀ i j, Atom (g i j) (g' i j)) : RSim K (rI0 g) (fI0 g') := by
  intro G H v1 v2 d1 d2 S1 S2 Q q dm r1 r2 h k
  unfold fI0 at h
  split at h
  · have := r1.int; have := r2.int; subst_vars
    exact ⟨_, _, rfl, rfl, k _ _ H (Same.refl _) (.at (hg _ _) .nil) h⟩
  · exact h.elim
theorem rs_I {C C' : Int → Int → Prop} {g : Int → Int → V} {g' : Int → Int → D} (hc : ∀ i j, C' i j → C i j) (hg : ∀ i j, C' i j → Atom (g i j) (g' i j)) : RSim K (rI C g) (fI C' g') := by
  intro G H v1 v2 d1 d2 S1 S2 Q q dm r1 r2 h k
  unfold fI at h
  split at h
  · have := r1.int; have := r2.int; subst_vars
    exact ⟨_, _, rfl, rfl, hc _ _ h.1, k _ _ H (Same.refl _) (.at (hg _ _ h.1) .nil) h.2⟩
  · exact h.elim
def fSub : F2 := fI0 fun i j => .int (i - j)
theorem rs_sub : RSim K (rI0 fun i j => .int (i - j)) fSub := rs_I0 fun _ _ => .int
def SmallI (j : Int) : Prop := j.natAbs.log2 < 9000
theorem small_of {j : Int} (h : j.natAbs < 2 ^ 64) : SmallI j := by
  unfold SmallI
  by_cases e : j.natAbs = 0
  · rw [e]; decide
  · have : j.natAbs.log2 < 64 := (Nat.log2_lt e).mpr h
    omega
def CDv (i j : Int) : Prop := 0 < j ∧ SmallI j
def fDiv : F2 := fI CDv fun i j => .int (i / j)
theorem rs_div : RSim K (rI CDivW fun i j => .int (i / j)) fDiv := rs_I (fun _ _ h => h) fun _ _ _ => .int
def fMod : F2 := fI (fun _ j => 0 < j) fun i j => .int (i % j)
theorem rs_mod : RSim K (rI (fun _ j => j ≠ 0) fun i j => .int (i.fmod j)) fMod :=
  rs_I (fun _ j (h : 0 < j) => by omega) fun i j (h : 0 < j) => by
    rw [Int.fmod_eq_emod_of_nonneg _ (by omega)]
    exact .int
def fPow : F2 := fI CPow fun i j => .int (i ^ j.toNat)
theorem rs_pow : RSim K (rI CPow fun i j => .int (i ^ j.toNat)) fPow := rs_I (fun _ _ h => h) fun _ _ _ => .int
/-- a product: ints one of which is below 2^64, or both of some size; a text, a list, a tuple so many times -/
def CMl (i j : Int) : Prop := CMul i j ∨ CMulW i j
def fMul : F2 := fun x y q => match x, y with
  | .int i, .int j => CMl i j ∧ q (.int (i * j))
  | .str a, .int j => (j < 2 ^ 31 ∧ -(2 ^ 31) < j ∧ a.length * j.toNat ≤ 16777216) ∧ q (.str (List.replicate j.toNat a).flatten)
  | .lst a, .int j => (j < 2 ^ 31 ∧ -(2 ^ 31) < j ∧ a.length * j.toNat ≤ 16777216) ∧ q (.lst (List.replicate j.toNat a).flatten)
  | _, _ => False
abbrev rMulS : R2 := fun x y H Q => ∃ a j, x = .str a ∧ y = .int j ∧ MulOk a j ∧ Q (.str (Txt.mul a j)) H
theorem op_mulS {X : Cx} : OpR X (binaryOp .Mult) rMulS := by
  intro pins s σ H x y v u Q I rx ry h
  obtain ⟨a, j, rfl, rfl, ok, q⟩ := h
  obtain ⟨t, rfl⟩ := rx
  obtain ⟨t', rfl⟩ := ry
  exact SB.mul ok fun t' k => ⟨.str _, H, I.tok _, ⟨_, rfl⟩, q⟩
abbrev rMulA : R2 := rOr (rI CMul fun i j => .int (i * j)) (rOr (rI CMulW fun i j => .int (i * j)) (rOr rMulS rRep))
theorem op_mulA {X : Cx} : OpR X (binaryOp .Mult) rMulA := opR_or op_mul (opR_or op_mulW (opR_or op_mulS op_rep))
theorem foldl_rep : ∀ (n : Nat) (c a : List Nat), (List.replicate n a.toArray).foldl (fun x y => x ++ y) c.toArray = (c ++ (List.replicate n a).flatten).toArray
  | 0, c, a => by simp
  | n + 1, c, a => by
    rw [List.replicate_succ, List.replicate_succ, List.foldl_cons, List.flatten_cons]
    have : c.toArray ++ a.toArray = (c ++ a).toArray := by simp
    rw [this, foldl_rep n, List.append_assoc]
theorem txt_mul (a : List Nat) (j : Int) : Txt.mul ⟨a.toArray⟩ j = ⟨((List.replicate j.toNat a).flatten).toArray⟩ := by
  unfold Txt.mul
  by_cases h1 : j < 1
  · rw [if_pos h1, show j.toNat = 0 by omega]; rfl
  · rw [if_neg h1]
    split
    · rename_i h2
      simp only [Bool.or_eq_true, beq_iff_eq] at h2
      rcases h2 with h2 | h2
      · subst h2
        show _ = (⟨((List.replicate 1 a).flatten).toArray⟩ : Str)
        simp
      · rw [str_len] at h2
        have := List.length_eq_zero_iff.mp h2
        subst this
        simp
    · have := foldl_rep j.toNat [] a
      rw [List.nil_append] at this
      show (⟨_⟩ : Str) = _
      rw [← this]
theorem rep_len (n : Nat) {α : Type} (a : List α) : (List.replicate n a).flatten.length = a.length * n := by
  rw [List.length_flatten, List.map_replicate, List.sum_replicate_nat, Nat.mul_comm]
theorem mulOk_of {a : List Nat} {j : Int} (h1 : j < 2 ^ 31) (h2 : -(2 ^ 31) < j) (h3 : a.length * j.toNat ≤ 16777216) : MulOk ⟨a.toArray⟩ j := by
  refine ⟨?_, fun hj hz => ?_, fun hj hz => ?_⟩
  · rw [Bool.or_eq_false_iff]
    exact ⟨decide_eq_false (by omega), decide_eq_false (by omega)⟩
  · rw [str_len]
    intro hc
    have hjp : 0 < j := by omega
    have := Int.lt_of_lt_of_le (show (2 ^ 63 - 1) / j < a.length from hc) (Int.le_refl _)
    have h5 : (2 ^ 63 - 1 : Int) < a.length * j := by
      have := (Int.ediv_lt_iff_lt_mul hjp).mp this
      exact this
    have h6 : ((a.length * j.toNat : Nat) : Int) = (a.length : Int) * j := by
      rw [Int.natCast_mul, Int.toNat_of_nonneg (by omega)]
    omega
  · rw [str_len]
    have : sizeLine = 16777216 := sizeLine_eq
    show decide (_ > sizeLine) = false
    exact decide_eq_false (by omega)
theorem R.rep {G : Addr → Prop} {H : Hp} {ws : List V} {es : List D} (r : R K G H ws es []) : ∀ n : Nat, R K G H (List.replicate n ws).flatten (List.replicate n es).flatten []
  | 0 => .nil
  | n + 1 => by
    rw [List.replicate_succ, List.replicate_succ, List.flatten_cons, List.flatten_cons]
    exact r.app (r.rep n)
theorem rs_mul : RSim K rMulA fMul := by
  intro G H v1 v2 d1 d2 S1 S2 Q q dm r1 r2 h k
  unfold fMul at h
  split at h
  · have := r1.int; have := r2.int; subst_vars
    rcases h.1 with c | c
    · exact .inl ⟨_, _, rfl, rfl, c, k _ _ H (Same.refl _) .int1 h.2⟩
    · exact .inr (.inl ⟨_, _, rfl, rfl, c, k _ _ H (Same.refl _) .int1 h.2⟩)
  · obtain ⟨⟨h1, h2, h3⟩, h4⟩ := h
    obtain ⟨rfl, e1⟩ := r1.str
    have := r2.int; subst this
    refine .inr (.inr (.inl ⟨_, _, rfl, rfl, mulOk_of h1 h2 h3, ?_⟩))
    rw [txt_mul]
    exact k _ _ H (Same.refl _) (.str1 (by rw [rep_len, line_eq]; exact h3)) h4
  · obtain ⟨⟨h1, h2, h3⟩, h4⟩ := h
    obtain ⟨x, ws, rfl, hx, rx⟩ := r1.lstE
    have := r2.int; subst this
    refine .inr (.inr (.inr ⟨x, _, ws, rfl, rfl, hx, by omega, by omega, by rw [rx.length, line_eq]; exact h3, fun p hp => ?_⟩))
    exact k _ _ _ (same_upd hp) (.newL dm hp (rx.rep _)) h4
  · exact h.elim
/-! ### comparisons -/
def fCmp (pi : Int → Int → Bool) (ps : List Nat → List Nat → Bool) : F2 := fun x y q => match x, y with
  | .int i, .int j => q (.bl (pi i j))
  | .str a, .str c => q (.bl (ps a c))
  | _, _ => False
theorem rs_cmp {pi : Int → Int → Bool} {ps : List Nat → List Nat → Bool} : RSim K (rOr (rI0 fun i j => .bl (pi i j)) (fun x y H Q => ∃ i j, x = .str i ∧ y = .str j ∧ Q (.bl (ps i.cps.toList j.cps.toList)) H)) (fCmp pi ps) := by
  intro G H v1 v2 d1 d2 S1 S2 Q q dm r1 r2 h k
  unfold fCmp at h
  split at h
  · have := r1.int; have := r2.int; subst_vars
    exact .inl ⟨_, _, rfl, rfl, k _ _ H (Same.refl _) .bl1 h⟩
  · obtain ⟨rfl, e1⟩ := r1.str
    obtain ⟨rfl, e2⟩ := r2.str
    refine .inr ⟨_, _, rfl, rfl, ?_⟩
    simp only [List.toList_toArray]
    exact k _ _ H (Same.refl _) .bl1 h
  · exact h.elim
def fLt : F2 := fCmp (fun i j => decide (i < j)) (fun a c => decide (a < c))
def fLe : F2 := fCmp (fun i j => decide (i ≤ j)) (fun a c => !decide (c < a))
def fGt : F2 := fCmp (fun i j => decide (j < i)) (fun a c => decide (c < a))
def fGe : F2 := fCmp (fun i j => decide (j ≤ i)) (fun a c => !decide (a < c))
abbrev rCmpS (p : List Nat → List Nat → Bool) : R2 := fun x y H Q => ∃ i j, x = .str i ∧ y = .str j ∧ Q (.bl (p i.cps.toList j.cps.toList)) H
abbrev rLt : R2 := rOr (rI0 fun i j => .bl (decide (i < j))) (rCmpS fun a c => decide (a < c))
abbrev rLe : R2 := rOr (rI0 fun i j => .bl (decide (i ≤ j))) (rCmpS fun a c => !decide (c < a))
abbrev rGt : R2 := rOr (rI0 fun i j => .bl (decide (j < i))) (rCmpS fun a c => decide (c < a))
abbrev rGe : R2 := rOr (rI0 fun i j => .bl (decide (j ≤ i))) (rCmpS fun a c => !decide (a < c))
theorem op_ltA {X : Cx} : OpR X (compareOp .Lt) rLt := opR_or op_lt op_lt_str
theorem op_leA {X : Cx} : OpR X (compareOp .LtE) rLe := opR_or op_le op_le_str
theorem op_gtA {X : Cx} : OpR X (compareOp .Gt) rGt := opR_or op_gt op_gt_str
theorem op_geA {X : Cx} : OpR X (compareOp .GtE) rGe := opR_or op_ge op_ge_str
theorem rs_lt : RSim K rLt fLt := rs_cmp
theorem rs_le : RSim K rLe fLe := rs_cmp
theorem rs_gt : RSim K rGt fGt := rs_cmp
theorem rs_ge : RSim K rGe fGe := rs_cmp
/-- == of scalars -/
def feq : D → D → Option Bool
  | .int i, .int j => some (decide (i = j))
  | .str a, .str c => some (decide (a = c))
  | .bl a, .bl c => some (decide (a = c))
  | .non, .non => some true
  | .non, .int _ => some false | .int _, .non => some false | .non, .bl _ => some false | .bl _, .non => some false | .non, .str _ => some false | .str _, .non => some false
  | .int _, .str _ => some false | .str _, .int _ => some false | .bl _, .str _ => some false | .str _, .bl _ => some false
  | _, _ => none
def fEq : F2 := fun x y q => match feq x y with
  | some c => q (.bl c)
  | none => False
def fNe : F2 := fun x y q => match feq x y with
  | some c => q (.bl (!c))
  | none => False
theorem atom_of {G : Addr → Prop} {H : Hp} {v : V} {d : D} {S} (r : R K G H [v] [d] S) (h : d = .non ∨ (∃ i, d = .int i) ∨ (∃ i, d = .bl i) ∨ ∃ i, d = .str i) : Atom v d := by
  rcases h with rfl | ⟨i, rfl⟩ | ⟨i, rfl⟩ | ⟨i, rfl⟩ <;> (cases r with | «at» h _ => exact h)
theorem feq_ok {x y : D} {c : Bool} (h : feq x y = some c) : (x = .non ∨ (∃ i, x = .int i) ∨ (∃ i, x = .bl i) ∨ ∃ i, x = .str i) ∧ (y = .non ∨ (∃ i, y = .int i) ∨ (∃ i, y = .bl i) ∨ ∃ i, y = .str i) := by
  unfold feq at h
  split at h <;> first | (cases h; done) | simp
theorem feq_val {x y : D} {v w : V} {c : Bool} (a1 : Atom v x) (a2 : Atom w y) (h : feq x y = some c) : scal v w = true ∧ decide (v = w) = c := by
  cases a1 <;> cases a2 <;> simp [feq] at h <;> subst h <;> first | (refine ⟨rfl, ?_⟩; simp; done) | (refine ⟨rfl, ?_⟩; rw [decide_eq_decide]; simp)
theorem rs_eq : RSim K rEq fEq := by
  intro G H v1 v2 d1 d2 S1 S2 Q q dm r1 r2 h k
  unfold fEq at h
  split at h
  · rename_i c e
    obtain ⟨e1, e2⟩ := feq_ok e
    obtain ⟨z1, z2⟩ := feq_val (atom_of r1 e1) (atom_of r2 e2) e
    refine ⟨z1, ?_⟩
    rw [z2]
    exact k _ _ H (Same.refl _) .bl1 h
  · exact h.elim
theorem rs_ne : RSim K rNe fNe := by
  intro G H v1 v2 d1 d2 S1 S2 Q q dm r1 r2 h k
  unfold fNe at h
  split at h
  · rename_i c e
    obtain ⟨e1, e2⟩ := feq_ok e
    obtain ⟨z1, z2⟩ := feq_val (atom_of r1 e1) (atom_of r2 e2) e
    refine ⟨z1, ?_⟩
    rw [z2]
    exact k _ _ H (Same.refl _) .bl1 h
  · exact h.elim
/-- is None -/
def isN : D → Bool
  | .non => true
  | _ => false
theorem R.isN {G : Addr → Prop} {H : Hp} {v : V} {d : D} {S} (r : R K G H [v] [d] S) (hc : ∀ w, d ≠ .cv w) : decide (v = .non) = isN d := by
  cases r with
  | «at» h _ => cases h <;> first | rfl | exact absurd rfl (hc _)
  | _ => rfl
def notCv : D → Bool
  | .cv _ => false
  | _ => true
def fIs (neg : Bool) : F2 := fun x y q => match y with
  | .non => (match notCv x with
    | true => q (.bl (if neg then !isN x else isN x))
    | false => False)
  | _ => False
theorem rs_isN : RSim K (fun x y H Q => y = .non ∧ Q (.bl (decide (x = .non))) H) (fIs false) := by
  intro G H v1 v2 d1 d2 S1 S2 Q q dm r1 r2 h k
  unfold fIs at h
  split at h
  · split at h
    · rename_i hc
      have := r2.non; subst this
      refine ⟨rfl, ?_⟩
      rw [r1.isN (fun w e => by rw [e] at hc; cases hc)]
      exact k _ _ H (Same.refl _) .bl1 h
    · exact h.elim
  · exact h.elim
theorem rs_notN : RSim K (fun x y H Q => y = .non ∧ Q (.bl (!decide (x = .non))) H) (fIs true) := by
  intro G H v1 v2 d1 d2 S1 S2 Q q dm r1 r2 h k
  unfold fIs at h
  split at h
  · split at h
    · rename_i hc
      have := r2.non; subst this
      refine ⟨rfl, ?_⟩
      rw [r1.isN (fun w e => by rw [e] at hc; cases hc)]
      exact k _ _ H (Same.refl _) .bl1 h
    · exact h.elim
  · exact h.elim
/-! ### subscripts, slices -/
def fIx : F2 := fun x y q => match x, y with
  | .lst ds, .int i => ∃ d, atI ds i = some d ∧ q d
  | .rol ds, .int i => ∃ d, atI ds i = some d ∧ q d
  | .tup ds, .int i => ∃ d, atI ds i = some d ∧ q d
  | .mls ds, .int i => ∃ d, atI ds i = some d ∧ d.fz = true ∧ q d
  | .str a, .int i => ∃ c, atI a i = some c ∧ q (.str [c])
  | _, _ => False
theorem atI_get {α : Type} {xs : List α} {i : Int} {d : α} (h : atI xs i = some d) : ∃ j, ixN xs.length i = some j ∧ xs[j]? = some d := by
  unfold atI at h
  cases e : ixN xs.length i with
  | none => rw [e] at h; cases h
  | some j => rw [e] at h; exact ⟨j, rfl, h⟩
theorem atI_mk {α β : Type} {xs : List α} {ys : List β} {i : Int} {j : Nat} {y : β} (h : ixN xs.length i = some j) (hl : ys.length = xs.length) (hy : ys[j]? = some y) : atI ys i = some y := by
  unfold atI
  rw [hl, h]
  exact hy
theorem one_le_line : ([0] : List Nat).length ≤ sizeLine := by rw [line_eq]; decide
theorem rs_ix : RSim K (rIx K) fIx := by
  intro G H v1 v2 d1 d2 S1 S2 Q q dm r1 r2 h k
  have aux : ∀ {ds : List D} {i : Int} {d : D}, sq d1 = some ds → v2 = .int i → atI ds i = some d → d.fz = true → q d → rIx K v1 v2 H Q := fun {ds i d} e e2 ha hf hq => by
    subst e2
    obtain ⟨a, ws, S3, rfl, hs, rr, _⟩ := r1.sqE e
    obtain ⟨j, hj, hd⟩ := atI_get ha
    obtain ⟨v, S4, hv, rv, _⟩ := rr.get hd
    have e4 := rv.fz0 hf
    subst e4
    have hv' := atI_mk hj rr.length hv
    rcases hs with hs | hs
    · exact .inl ⟨a, ws, i, v, rfl, rfl, hs, hv', k _ _ H (Same.refl _) rv hq⟩
    · exact .inr (.inl ⟨a, ws, i, v, rfl, rfl, hs, hv', k _ _ H (Same.refl _) rv hq⟩)
  have aux0 : ∀ {ds : List D} {i : Int} {d : D}, sq d1 = some ds → (∀ es, d1 ≠ .mls es) → v2 = .int i → atI ds i = some d → q d → rIx K v1 v2 H Q := fun {ds i d} e en e2 ha hq => by
    have hf : d.fz = true := by
      obtain ⟨j, hj, hd⟩ := atI_get ha
      have r0 : ∃ ws, R K G H ws ds [] := by
        cases d1 with
        | tup es => cases e; obtain ⟨_, _, _, _, z⟩ := r1.tupE; exact ⟨_, z⟩
        | lst es => cases e; obtain ⟨_, _, _, _, z⟩ := r1.lstE; exact ⟨_, z⟩
        | rol es =>
          cases e
          cases r1 with
          | «at» h _ => cases h
          | rol _ z _ => exact ⟨_, z⟩
        | mls es => exact absurd rfl (en _)
        | _ => cases e
      obtain ⟨ws, r0⟩ := r0
      obtain ⟨v, _, z⟩ := r0.get0 hd
      exact z.fz
    exact aux e e2 ha hf hq
  unfold fIx at h
  split at h
  · obtain ⟨d, ha, hq⟩ := h
    exact aux0 rfl (fun _ z => nomatch z) r2.int ha hq
  · obtain ⟨d, ha, hq⟩ := h
    exact aux0 rfl (fun _ z => nomatch z) r2.int ha hq
  · obtain ⟨d, ha, hq⟩ := h
    exact aux0 rfl (fun _ z => nomatch z) r2.int ha hq
  · obtain ⟨d, ha, hf, hq⟩ := h
    exact aux rfl r2.int ha hf hq
  · obtain ⟨c, ha, hq⟩ := h
    obtain ⟨rfl, e1⟩ := r1.str
    have := r2.int; subst this
    refine .inr (.inr ⟨_, _, c, rfl, rfl, by rw [str_len]; exact e1, by simpa using ha, ?_⟩)
    exact k _ _ H (Same.refl _) (.str1 (x := [c]) (by rw [line_eq]; exact (by decide : (1 : Nat) ≤ 16777216))) hq
  · exact h.elim
def cutD {α : Type} (xs : List α) (lo hi : Option Int) : List α := (xs.drop (HT.sIx xs.length 0 lo)).take (HT.sIx xs.length xs.length hi - HT.sIx xs.length 0 lo)
theorem R.drop {G : Addr → Prop} {H : Hp} : ∀ {ws : List V} {es : List D}, R K G H ws es [] → ∀ n, R K G H (ws.drop n) (es.drop n) []
  | ws, es, r, 0 => r
  | [], [], _, n + 1 => .nil
  | [], _ :: _, r, n + 1 => by cases r
  | _ :: _, [], r, n + 1 => by cases r
  | w :: ws, e :: es, r, n + 1 => by
    obtain ⟨S1, S2, z, r1, r2⟩ := r.uncons
    have := (List.append_eq_nil_iff.mp z.symm).2
    subst this
    exact R.drop r2 n
theorem R.take {G : Addr → Prop} {H : Hp} : ∀ {ws : List V} {es : List D}, R K G H ws es [] → ∀ n, R K G H (ws.take n) (es.take n) []
  | ws, es, r, 0 => .nil
  | [], [], _, n + 1 => .nil
  | [], _ :: _, r, n + 1 => by cases r
  | _ :: _, [], r, n + 1 => by cases r
  | w :: ws, e :: es, r, n + 1 => by
    obtain ⟨S1, S2, z, r1, r2⟩ := r.uncons
    obtain ⟨z1, z2⟩ := List.append_eq_nil_iff.mp z.symm
    subst z1 z2
    exact r1.cons0 (R.take r2 n)
theorem R.cutV {G : Addr → Prop} {H : Hp} {ws : List V} {es : List D} (r : R K G H ws es []) (lo hi : Option Int) : R K G H (cutV ws lo hi) (cutD es lo hi) [] := by
  unfold L2.cutV cutD
  rw [r.length]
  exact (r.drop _).take _
theorem cutD_len {α : Type} (xs : List α) (lo hi : Option Int) : (cutD xs lo hi).length ≤ xs.length := by
  unfold cutD
  rw [List.length_take, List.length_drop]
  omega
theorem cutV_whole {ws : List V} {lo hi : Option Int} (h : HT.sIx ws.length 0 lo = 0 ∧ HT.sIx ws.length ws.length hi = ws.length) : cutV ws lo hi = ws := by
  unfold L2.cutV
  rw [h.1, h.2]
  simp
theorem cutD_whole {α : Type} {ws : List α} {lo hi : Option Int} (h : HT.sIx ws.length 0 lo = 0 ∧ HT.sIx ws.length ws.length hi = ws.length) : cutD ws lo hi = ws := by
  unfold cutD
  rw [h.1, h.2]
  simp
abbrev R3 := V → Option Int → Option Int → Hp → VK → Prop
abbrev F3 := D → Option Int → Option Int → (D → Prop) → Prop
theorem slR_or {X : Cx} {r1 r2 : R3} (h1 : SlR X r1) (h2 : SlR X r2) : SlR X (fun x l u H Q => r1 x l u H Q ∨ r2 x l u H Q) := by
  intro pins s σ H x v vl vu lo hi sl Q I rx hs pl pu h
  rcases h with h | h
  · exact h1 pins s σ H x v vl vu lo hi sl Q I rx hs pl pu h
  · exact h2 pins s σ H x v vl vu lo hi sl Q I rx hs pl pu h
abbrev rSlAny (K : Frg) : R3 := fun x l u H Q => rSlS x l u H Q ∨ (fun x l u H Q => rSlL K x l u H Q ∨ rSlA K x l u H Q) x l u H Q
theorem sl_any {X : Cx} : SlR X (rSlAny X.K) := slR_or sl_str (slR_or sl_list sl_tupA)
def fSl : F3 := fun x lo hi q => match x with
  | .str a => q (.str (cutD a lo hi))
  | .lst ds => q (.lst (cutD ds lo hi))
  | .rol ds => q (.lst (cutD ds lo hi))
  | .mls ds => fzs ds = true ∧ q (.lst (cutD ds lo hi))
  | .tup ds => q (.tup (cutD ds lo hi))
  | _ => False
theorem rs_sl {G : Addr → Prop} {H : Hp} {v : V} {d : D} {S} {lo hi : Option Int} {Q : VK} {q : D → Prop} (dm : Dom G H) (r : R K G H [v] [d] S) (h : fSl d lo hi q) (k : RK K G H Q q) : rSlAny K v lo hi H Q := by
  have aux : ∀ {a : Addr} {ws : List V} {ds : List D}, v = .ref a → SqL K H a ws → R K G H ws ds [] → q (.lst (cutD ds lo hi)) → rSlAny K v lo hi H Q := fun {a ws ds} e hs rr hq => by
    subst e
    exact .inr (.inl ⟨a, ws, rfl, hs, fun p hp => k _ _ _ (same_upd hp) (.newL dm hp (rr.cutV lo hi)) hq⟩)
  unfold fSl at h
  split at h
  · rename_i a
    obtain ⟨rfl, e⟩ := r.str
    refine .inl ⟨_, rfl, by rw [str_len]; exact e, ?_⟩
    have e2 : cutS ⟨a.toArray⟩ lo hi = ⟨(cutD a lo hi).toArray⟩ := by
      unfold cutS cutD
      simp only [str_len, List.toList_toArray]
    rw [e2]
    exact k _ _ H (Same.refl _) (.str1 (Nat.le_trans (cutD_len _ _ _) e)) h
  · obtain ⟨a, ws, e, hs, rr⟩ := r.lstE
    exact aux e (.inl (.inl hs)) rr h
  · obtain ⟨a, ws, S1, e, hs, rr, _⟩ := r.sqE (ds := ‹List D›) rfl
    cases r with
    | «at» z _ => cases z
    | rol z rr _ =>
      refine aux rfl ?_ rr h
      rcases z with z | z
      · exact z _
      · exact .inl (.inr z)
  · obtain ⟨h1, h2⟩ := h
    obtain ⟨a, ws, S1, e, hs, rr⟩ := r.mlsE
    have := rr.fzs0 h1
    subst this
    exact aux e (.inl (.inl hs)) rr h2
  · obtain ⟨a, ws, rfl, hs, rr⟩ := r.tupE
    refine .inr (.inr ⟨a, ws, rfl, hs, fun e => ?_, fun e p hp => k _ _ _ (same_upd hp) (.newT hp (rr.cutV lo hi)) h⟩)
    rw [rr.length] at e
    rw [cutD_whole e] at h
    exact k _ _ H (Same.refl _) (.tup hs rr .nil) h
  · exact h.elim
/-- a slice's parts -/
abbrev MOTy := Env → (Option Int → Env → Prop) → EK → Prop
def KO (K : Frg) (B : Bg) (b : Bool) (F : List Addr) (σ : L2.St) (ρ : Env) (H : Hp) (Q : Option Int → Hp → Prop) (q : Option Int → Env → Prop) : Prop :=
  ∀ c ρ' F' H', Sta K B F' σ ρ' H' → Aft b F H ρ F' H' ρ' → q c ρ' → Q c H'
def SimO (K : Frg) (W : WX) (b : Bool) (to : TO) (t : MOTy) : Prop := ∀ B F σ ρ H Q q x, Sta K B F σ ρ H → t ρ q x → KO K B b F σ ρ H Q q → KX K B W F σ H x → to σ H Q
def mNo : MOTy := fun ρ q _ => q none ρ
def mPart (ma : METy) : MOTy := fun ρ q x => ma ρ (fun d ρ1 => match d with
  | .int i => q (some i) ρ1
  | _ => False) x
theorem sim_no : SimO K W true tNoPart mNo := fun B F σ ρ H Q q x s h k _ => k none ρ F H s .refl h
theorem sim_part (ha : Sim K W vw1 b1 ta ma) : SimO K W b1 (tPart ta) (mPart ma) := by
  intro B F σ ρ H Q q x s h k e
  refine ha B F σ ρ H _ _ x s h (fun v1 d1 ρ1 F1 H1 S1 s1 r1 m1 z1 a1 h1 => ?_) e
  split at h1
  · have := r1.int; subst this
    exact ⟨_, rfl, k _ ρ1 F1 H1 s1 a1 h1⟩
  · exact h1.elim
def mSl (ma : METy) (ml mh : MOTy) : METy := fun ρ q x => ma ρ (fun d ρ1 => ml ρ1 (fun lo ρ2 => mh ρ2 (fun hi ρ3 => fSl d lo hi (fun r => q r ρ3)) x) x) x
theorem sim_sl {tl th : TO} {ml mh : MOTy} {b3 : Bool} (ha : Sim K W vw1 b1 ta ma) (hl : SimO K W b2 tl ml) (hh : SimO K W b3 th mh) (hv : (!vw1 || (b2 && b3)) = true := by rfl) : Sim K W false (b1 && (b2 && b3)) (tSl (rSlAny K) ta tl th) (mSl ma ml mh) := by
  intro B F σ ρ H Q q x s h k e
  refine ha B F σ ρ H _ _ x s h (fun v1 d1 ρ1 F1 H1 S1 s1 r1 m1 z1 a1 h1 => ?_) e
  refine hl B F1 σ ρ1 H1 _ _ x s1 h1 (fun lo ρ2 F2 H2 s2 a2 h2 => ?_) (e.aft a1.stp)
  refine hh B F2 σ ρ2 H2 _ _ x s2 h2 (fun hi ρ3 F3 H3 s3 a3 h3 => ?_) (e.aft (a1.trans a2).stp)
  have hs : S1 = [] ∨ (b2 && b3) = true := by
    cases vw1 with
    | false => exact .inl (z1 rfl)
    | true => exact .inr (by simpa using hv)
  refine rs_sl s3.dom (r1.aftV s1 (a2.trans a3) hs) h3 fun v d H' sm r p => ?_
  exact k v d ρ3 F3 H' [] (s3.ext sm) r (by simp) (fun _ => rfl) ((a1.trans (a2.trans a3)).ext sm) p
end
end Mi
end

-- text MC
section
set_option Elab.async false
set_option linter.all false
set_option maxRecDepth 100000
set_option maxHeartbeats 4000000
/-! MC: tests, argument lists, calls, displays. -/
namespace Mi
open PySem PySem.Spec PyProof.Rows L2
section
variable {K : Frg} {W : WX} {vw vw1 vw2 b b1 b2 b3 : Bool} {te ta tb : TE} {t ma mb : METy} {tt tu : TT} {mt mu : MTTy}

/-! ### tests -/
def mB (ma : METy) : MTTy := fun ρ q x => ma ρ (fun d ρ1 => match d with
  | .bl c => q c ρ1
  | _ => False) x
theorem simt_B (ha : Sim K W vw1 b1 ta ma) : SimT K W b1 (tB ta) (mB ma) := by
  intro B F σ ρ H Q q x s h k e
  refine ha B F σ ρ H _ _ x s h (fun v1 d1 ρ1 F1 H1 S1 s1 r1 m1 z1 a1 h1 => ?_) e
  split at h1
  · have := r1.bl; subst this
    exact ⟨_, rfl, k _ ρ1 F1 H1 s1 a1 h1⟩
  · exact h1.elim
theorem simt_test (ha : Sim K W vw1 b1 ta ma) : SimT K W b1 (tTest ta) (mB ma) := simt_B ha
def mAnd (m n : MTTy) : MTTy := fun ρ q x => m ρ (fun c ρ1 => (c = true → n ρ1 q x) ∧ (c = false → q false ρ1)) x
def mOr (m n : MTTy) : MTTy := fun ρ q x => m ρ (fun c ρ1 => (c = true → q true ρ1) ∧ (c = false → n ρ1 q x)) x
def mNot (m : MTTy) : MTTy := fun ρ q x => m ρ (fun c ρ1 => q (!c) ρ1) x
theorem aft_bool {F F1 : List Addr} {H H1 : Hp} {ρ ρ1 : Env} (a : Aft b1 F H ρ F1 H1 ρ1) : Aft (b1 && b2) F H ρ F1 H1 ρ1 := a.weak fun e => by
  rw [Bool.and_eq_true] at e
  exact e.1
theorem simt_and (h1 : SimT K W b1 tt mt) (h2 : SimT K W b2 tu mu) : SimT K W (b1 && b2) (tAnd tt tu) (mAnd mt mu) := by
  intro B F σ ρ H Q q x s h k e
  refine h1 B F σ ρ H _ _ x s h (fun c ρ1 F1 H1 s1 a1 p1 => ?_) e
  cases c with
  | true => exact h2 B F1 σ ρ1 H1 _ _ x s1 (p1.1 rfl) (fun c ρ2 F2 H2 s2 a2 p2 => k c ρ2 F2 H2 s2 (a1.trans a2) p2) (e.aft a1.stp)
  | false => exact k false ρ1 F1 H1 s1 (aft_bool a1) (p1.2 rfl)
theorem simt_or (h1 : SimT K W b1 tt mt) (h2 : SimT K W b2 tu mu) : SimT K W (b1 && b2) (tOr tt tu) (mOr mt mu) := by
  intro B F σ ρ H Q q x s h k e
  refine h1 B F σ ρ H _ _ x s h (fun c ρ1 F1 H1 s1 a1 p1 => ?_) e
  cases c with
  | false => exact h2 B F1 σ ρ1 H1 _ _ x s1 (p1.2 rfl) (fun c ρ2 F2 H2 s2 a2 p2 => k c ρ2 F2 H2 s2 (a1.trans a2) p2) (e.aft a1.stp)
  | true => exact k true ρ1 F1 H1 s1 (aft_bool a1) (p1.1 rfl)
theorem simt_not (h1 : SimT K W b1 tt mt) : SimT K W b1 (tNot tt) (mNot mt) := by
  intro B F σ ρ H Q q x s h k e
  exact h1 B F σ ρ H _ _ x s h (fun c ρ1 F1 H1 s1 a1 p1 => k (!c) ρ1 F1 H1 s1 a1 p1) e
/-- and, or, not as values -/
def mAndV (ma mb : METy) : METy := fun ρ q x => ma ρ (fun d ρ1 => match d with
  | .bl c => (c = true → mb ρ1 q x) ∧ (c = false → q (.bl false) ρ1)
  | _ => False) x
def mOrV (ma mb : METy) : METy := fun ρ q x => ma ρ (fun d ρ1 => match d with
  | .bl c => (c = true → q (.bl true) ρ1) ∧ (c = false → mb ρ1 q x)
  | _ => False) x
def mNotV (ma : METy) : METy := fun ρ q x => ma ρ (fun d ρ1 => match d with
  | .bl c => q (.bl (!c)) ρ1
  | _ => False) x
theorem sim_andV (h1 : Sim K W vw1 b1 ta ma) (h2 : Sim K W false b2 tb mb) : Sim K W false (b1 && b2) (tAndV ta tb) (mAndV ma mb) := by
  intro B F σ ρ H Q q x s h k e
  refine h1 B F σ ρ H _ _ x s h (fun v1 d1 ρ1 F1 H1 S1 s1 r1 m1 z1 a1 p1 => ?_) e
  split at p1
  · have := r1.bl; subst this
    rename_i c
    refine ⟨c, rfl, ?_⟩
    cases c with
    | true =>
      rw [if_pos rfl]
      exact h2 B F1 σ ρ1 H1 _ _ x s1 (p1.1 rfl) (fun v2 d2 ρ2 F2 H2 S2 s2 r2 m2 z2 a2 p2 => k v2 d2 ρ2 F2 H2 S2 s2 r2 m2 z2 (a1.trans a2) p2) (e.aft a1.stp)
    | false =>
      rw [if_neg (by decide)]
      exact k _ _ ρ1 F1 H1 [] s1 .bl1 (by simp) (fun _ => rfl) (aft_bool a1) (p1.2 rfl)
  · exact p1.elim
theorem sim_orV (h1 : Sim K W vw1 b1 ta ma) (h2 : Sim K W false b2 tb mb) : Sim K W false (b1 && b2) (tOrV ta tb) (mOrV ma mb) := by
  intro B F σ ρ H Q q x s h k e
  refine h1 B F σ ρ H _ _ x s h (fun v1 d1 ρ1 F1 H1 S1 s1 r1 m1 z1 a1 p1 => ?_) e
  split at p1
  · have := r1.bl; subst this
    rename_i c
    refine ⟨c, rfl, ?_⟩
    cases c with
    | false =>
      rw [if_neg (by decide)]
      exact h2 B F1 σ ρ1 H1 _ _ x s1 (p1.2 rfl) (fun v2 d2 ρ2 F2 H2 S2 s2 r2 m2 z2 a2 p2 => k v2 d2 ρ2 F2 H2 S2 s2 r2 m2 z2 (a1.trans a2) p2) (e.aft a1.stp)
    | true =>
      rw [if_pos rfl]
      exact k _ _ ρ1 F1 H1 [] s1 .bl1 (by simp) (fun _ => rfl) (aft_bool a1) (p1.1 rfl)
  · exact p1.elim
theorem sim_notV (h1 : Sim K W vw1 b1 ta ma) : Sim K W false b1 (tNotV ta) (mNotV ma) := by
  intro B F σ ρ H Q q x s h k e
  refine h1 B F σ ρ H _ _ x s h (fun v1 d1 ρ1 F1 H1 S1 s1 r1 m1 z1 a1 p1 => ?_) e
  split at p1
  · have := r1.bl; subst this
    exact ⟨_, rfl, k _ _ ρ1 F1 H1 [] s1 .bl1 (by simp) (fun _ => rfl) a1 p1⟩
  · exact p1.elim
/-- a if t else b -/
def mIfE (m : MTTy) (ma mb : METy) : METy := fun ρ q x => m ρ (fun c ρ1 => (c = true → ma ρ1 q x) ∧ (c = false → mb ρ1 q x)) x
theorem sim_ifE (h1 : SimT K W b1 tt mt) (h2 : Sim K W false b2 ta ma) (h3 : Sim K W false b3 tb mb) : Sim K W false (b1 && (b2 && b3)) (tIf tt ta tb) (mIfE mt ma mb) := by
  intro B F σ ρ H Q q x s h k e
  refine h1 B F σ ρ H _ _ x s h (fun c ρ1 F1 H1 s1 a1 p1 => ?_) e
  cases c with
  | true =>
    show ta σ H1 Q
    refine h2 B F1 σ ρ1 H1 _ _ x s1 (p1.1 rfl) (fun v2 d2 ρ2 F2 H2 S2 s2 r2 m2 z2 a2 p2 => k v2 d2 ρ2 F2 H2 S2 s2 r2 m2 z2 (a1.trans (a2.weak fun e => ?_)) p2) (e.aft a1.stp)
    rw [Bool.and_eq_true] at e
    exact e.1
  | false =>
    show tb σ H1 Q
    refine h3 B F1 σ ρ1 H1 _ _ x s1 (p1.2 rfl) (fun v2 d2 ρ2 F2 H2 S2 s2 r2 m2 z2 a2 p2 => k v2 d2 ρ2 F2 H2 S2 s2 r2 m2 z2 (a1.trans (a2.weak fun e => ?_)) p2) (e.aft a1.stp)
    rw [Bool.and_eq_true] at e
    exact e.2
/-- a < b < c -/
def mChain (f g : F2) (ma mb mc : METy) : METy := fun ρ q x => ma ρ (fun d1 ρ1 => mb ρ1 (fun d2 ρ2 => f d1 d2 (fun r => match r with
  | .bl c => (c = true → mc ρ2 (fun d3 ρ3 => g d2 d3 (fun d => q d ρ3)) x) ∧ (c = false → q (.bl false) ρ2)
  | _ => False)) x) x

/-! ### argument lists -/
def mNil : MATy := fun ρ q _ => q [] ρ
def mCons (ma : METy) (mr : MATy) : MATy := fun ρ q x => ma ρ (fun d ρ1 => mr ρ1 (fun ds ρ2 => q (d :: ds) ρ2) x) x
theorem sima_nil : SimA K W false true tNil mNil := fun B F σ ρ H Q q x s h k _ => k [] [] ρ F H [] s .nil (by simp) (fun _ => rfl) .refl h
theorem sima_cons {tr : TA} {mr : MATy} (ha : Sim K W vw1 b1 ta ma) (hr : SimA K W vw2 b2 tr mr) (hv : (!vw1 || b2) = true := by rfl) : SimA K W (vw1 || vw2) (b1 && b2) (tCons ta tr) (mCons ma mr) := by
  intro B F σ ρ H Q q x s h k e
  refine ha B F σ ρ H _ _ x s h (fun v1 d1 ρ1 F1 H1 S1 s1 r1 m1 z1 a1 h1 => ?_) e
  refine hr B F1 σ ρ1 H1 _ _ x s1 h1 (fun vs ds ρ2 F2 H2 S2 s2 r2 m2 z2 a2 h2 => ?_) (e.aft a1.stp)
  have hs : S1 = [] ∨ b2 = true := by
    cases vw1 with
    | false => exact .inl (z1 rfl)
    | true => exact .inr (by simpa using hv)
  refine k _ _ ρ2 F2 H2 (S1 ++ S2) s2 ((r1.aftV s1 a2 hs).cons r2) (fun a z => ?_) (fun z => ?_) (a1.trans a2) h2
  · rcases List.mem_append.mp z with z | z
    · rcases hs with hs | hs
      · subst hs; simp at z
      · obtain ⟨e1, _, _⟩ := a2.pure hs
        rw [e1]; exact m1 a z
    · exact m2 a z
  · rw [Bool.or_eq_false_iff] at z
    rw [z1 z.1, z2 z.2]; rfl
/-- a call of a built-in -/
abbrev FL := List D → (D → Prop) → Prop
def CSim (K : Frg) (r : List V → Hp → VK → Prop) (f : FL) : Prop := ∀ G H vs ds S Q q, Dom G H → R K G H vs ds S → f ds q → RK K G H Q q → r vs H Q
def mCB (f : FL) (ma : MATy) : METy := fun ρ q x => ma ρ (fun ds ρ1 => f ds (fun d => q d ρ1)) x
theorem sim_cb {tr : TA} {mr : MATy} {r : List V → Hp → VK → Prop} {f : FL} (hr : CSim K r f) (ha : SimA K W vw1 b1 tr mr) : Sim K W false b1 (tCB r tr) (mCB f mr) := by
  intro B F σ ρ H Q q x s h k e
  refine ha B F σ ρ H _ _ x s h (fun vs ds ρ1 F1 H1 S1 s1 r1 m1 z1 a1 h1 => ?_) e
  refine hr (Gof F1 B) H1 vs ds S1 Q _ s1.dom r1 h1 fun v d H' sm r p => ?_
  exact k v d ρ1 F1 H' [] (s1.ext sm) r (by simp) (fun _ => rfl) (a1.ext sm) p
theorem callR_or {X : Cx} {f : Value} {r1 r2 : List V → Hp → VK → Prop} (h1 : CallR X f r1) (h2 : CallR X f r2) : CallR X f (fun x H Q => r1 x H Q ∨ r2 x H Q) := by
  intro pins s σ H xs us Q I r h
  rcases h with h | h
  · exact h1 pins s σ H xs us Q I r h
  · exact h2 pins s σ H xs us Q I r h
abbrev rcOr (r1 r2 : List V → Hp → VK → Prop) : List V → Hp → VK → Prop := fun x H Q => r1 x H Q ∨ r2 x H Q
/-- a tuple, a list, written -/
def mTup (n : Nat) (ma : MATy) : METy := fun ρ q x => ma ρ (fun ds ρ1 => match ds.length.ble n with
  | true => q (.tup ds) ρ1
  | false => False) x
def mLst (n : Nat) (ma : MATy) : METy := fun ρ q x => ma ρ (fun ds ρ1 => match ds.length.ble n with
  | true => q (.lst ds) ρ1
  | false => False) x
theorem sim_tup {tr : TA} {mr : MATy} (n : Nat) (ha : SimA K W false b1 tr mr) (hn : n ≤ 1000 := by decide) : Sim K W false b1 (tTup tr) (mTup n mr) := by
  intro B F σ ρ H Q q x s h k e
  refine ha B F σ ρ H _ _ x s h (fun vs ds ρ1 F1 H1 S1 s1 r1 m1 z1 a1 h1 => ?_) e
  have := z1 rfl; subst this
  split at h1
  · rename_i hl
    have := Nat.le_of_ble_eq_true hl
    refine ⟨by rw [r1.length, line_eq]; omega, fun p hp => ?_⟩
    exact k _ _ ρ1 F1 _ [] (s1.ext (same_upd hp)) (.newT hp r1) (by simp) (fun _ => rfl) (a1.ext (same_upd hp)) h1
  · exact h1.elim
theorem sim_lst {tr : TA} {mr : MATy} (n : Nat) (ha : SimA K W false b1 tr mr) (hn : n ≤ 1000 := by decide) : Sim K W false b1 (tLst tr) (mLst n mr) := by
  intro B F σ ρ H Q q x s h k e
  refine ha B F σ ρ H _ _ x s h (fun vs ds ρ1 F1 H1 S1 s1 r1 m1 z1 a1 h1 => ?_) e
  have := z1 rfl; subst this
  split at h1
  · rename_i hl
    have := Nat.le_of_ble_eq_true hl
    refine ⟨by rw [r1.length, line_eq]; omega, fun p hp => ?_⟩
    exact k _ _ ρ1 F1 _ [] (s1.ext (same_upd hp)) (.newL s1.dom hp r1) (by simp) (fun _ => rfl) (a1.ext (same_upd hp)) h1
  · exact h1.elim
theorem len1 {G : Addr → Prop} {H : Hp} {vs : List V} {d : D} {S} (r : R K G H vs [d] S) : ∃ v, vs = [v] := by
  have := r.length
  match vs, this with
  | [v], _ => exact ⟨v, rfl⟩
theorem len2 {G : Addr → Prop} {H : Hp} {vs : List V} {d e : D} {S} (r : R K G H vs [d, e] S) : ∃ v w, vs = [v, w] := by
  have := r.length
  match vs, this with
  | [v, w], _ => exact ⟨v, w, rfl⟩
/-! ### len, int, min, max, abs, tuple, list -/
def fLen : FL := fun ds q => match ds with
  | [.str a] => q (.int a.length)
  | [.tup es] => q (.int es.length)
  | [.lst es] => q (.int es.length)
  | [.rol es] => q (.int es.length)
  | [.mls es] => q (.int es.length)
  | [.mdc es] => q (.int es.length)
  | [.fdc es] => q (.int es.length)
  | _ => False
abbrev rLenA (K : Frg) : List V → Hp → VK → Prop := rcOr (fun xs H Q => ∃ p ys, xs = [.ref p] ∧ (SqL K H p ys ∨ SqT K H p ys) ∧ Q (.int ys.length) H) (rcOr (fun xs H Q => ∃ z, xs = [.str z] ∧ z.length ≤ sizeLine ∧ Q (.int z.length) H) (fun xs H Q => ∃ d kvs, xs = [.ref d] ∧ H d = some (.dK kvs) ∧ Q (.int kvs.length) H))
theorem cs_len : CSim K (rLenA K) fLen := by
  intro G H vs ds S Q q dm r h k
  have sqc : ∀ {d : D} {es : List D}, ds = [d] → sq d = some es → q (.int es.length) → rLenA K vs H Q := fun {d es} e hs hq => by
    subst e
    obtain ⟨v, rfl⟩ := len1 r
    obtain ⟨a, ws, S1, rfl, hs, rr, _⟩ := r.sqE hs
    refine .inl ⟨a, ws, rfl, hs, ?_⟩
    rw [rr.length]
    exact k _ _ H (Same.refl _) .int1 hq
  unfold fLen at h
  split at h
  · obtain ⟨v, rfl⟩ := len1 r
    obtain ⟨rfl, e⟩ := r.str
    refine .inr (.inl ⟨_, rfl, by rw [str_len]; exact e, ?_⟩)
    rw [str_len]
    exact k _ _ H (Same.refl _) .int1 h
  · exact sqc rfl rfl h
  · exact sqc rfl rfl h
  · exact sqc rfl rfl h
  · exact sqc rfl rfl h
  · obtain ⟨v, rfl⟩ := len1 r
    cases r with
    | «at» z _ => cases z
    | mdc h1 h2 h3 _ =>
      refine .inr (.inr ⟨_, _, rfl, h1, ?_⟩)
      rw [show ∀ (x : List (Key × V)) (y : List (Key × D)), x.map (·.1) = y.map (·.1) → x.length = y.length from fun x y e => by simpa using congrArg List.length e] <;> first | exact h2 | exact k _ _ H (Same.refl _) .int1 h
  · obtain ⟨v, rfl⟩ := len1 r
    cases r with
    | «at» z _ => cases z
    | fdc _ h1 h2 h3 _ =>
      refine .inr (.inr ⟨_, _, rfl, h1, ?_⟩)
      rw [show ∀ (x : List (Key × V)) (y : List (Key × D)), x.map (·.1) = y.map (·.1) → x.length = y.length from fun x y e => by simpa using congrArg List.length e] <;> first | exact h2 | exact k _ _ H (Same.refl _) .int1 h
  · exact h.elim
theorem call_lenA {X : Cx} : CallR X (.builtin "len") (rLenA X.K) := callR_or call_len_seq (callR_or call_len_str call_lenD)
def fInt : FL := fun ds q => match ds with
  | [.int i] => q (.int i)
  | [.bl c] => q (.int (if c then 1 else 0))
  | _ => False
theorem cs_int : CSim K (fun xs H Q => (∃ i, xs = [.int i] ∧ Q (.int i) H) ∨ ∃ k, xs = [.bl k] ∧ Q (.int (if k then 1 else 0)) H) fInt := by
  intro G H vs ds S Q q dm r h k
  unfold fInt at h
  split at h
  · obtain ⟨v, rfl⟩ := len1 r
    have := r.int; subst this
    exact .inl ⟨_, rfl, k _ _ H (Same.refl _) .int1 h⟩
  · obtain ⟨v, rfl⟩ := len1 r
    have := r.bl; subst this
    exact .inr ⟨_, rfl, k _ _ H (Same.refl _) .int1 h⟩
  · exact h.elim
def fI1 (g : Int → Int) : FL := fun ds q => match ds with
  | [.int i] => q (.int (g i))
  | _ => False
theorem cs_I1 {g : Int → Int} : CSim K (fun xs H Q => ∃ i, xs = [.int i] ∧ Q (.int (g i)) H) (fI1 g) := by
  intro G H vs ds S Q q dm r h k
  unfold fI1 at h
  split at h
  · obtain ⟨v, rfl⟩ := len1 r
    have := r.int; subst this
    exact ⟨_, rfl, k _ _ H (Same.refl _) .int1 h⟩
  · exact h.elim
def fI2 (g : Int → Int → Int) : FL := fun ds q => match ds with
  | [.int i, .int j] => q (.int (g i j))
  | _ => False
theorem cs_I2 {g : Int → Int → Int} : CSim K (fun xs H Q => ∃ i j, xs = [.int i, .int j] ∧ Q (.int (g i j)) H) (fI2 g) := by
  intro G H vs ds S Q q dm r h k
  unfold fI2 at h
  split at h
  · obtain ⟨v, w, rfl⟩ := len2 r
    obtain ⟨S1, S2, _, r1, r2⟩ := r.uncons
    have := r1.int; have := r2.int; subst_vars
    exact ⟨_, _, rfl, k _ _ H (Same.refl _) .int1 h⟩
  · exact h.elim
def fMax : FL := fI2 fun i j => if j > i then j else i
def fMin : FL := fI2 fun i j => if j < i then j else i
def fAbs : FL := fI1 fun i => if i < 0 then -i else i
/-- tuple(x), list(x) -/
def fTuple : FL := fun ds q => match ds with
  | [.tup es] => q (.tup es)
  | [.lst es] => q (.tup es)
  | [.rol es] => q (.tup es)
  | [.mls es] => fzs es = true ∧ q (.tup es)
  | _ => False
def fList : FL := fun ds q => match ds with
  | [.tup es] => q (.lst es)
  | [.lst es] => q (.lst es)
  | [.rol es] => q (.lst es)
  | [.mls es] => fzs es = true ∧ q (.lst es)
  | _ => False
theorem R.rolE {G : Addr → Prop} {H : Hp} {v : V} {S : List Addr} {es : List D} (r : R K G H [v] [.rol es] S) : ∃ a ws, v = .ref a ∧ SqL K H a ws ∧ R K G H ws es [] := by
  cases r with
  | «at» h _ => cases h
  | rol z h2 _ =>
    refine ⟨_, _, rfl, ?_, h2⟩
    rcases z with z | z
    · exact z _
    · exact .inl (.inr z)
theorem cs_tuple : CSim K (fun xs H Q => ∃ p ys, xs = [.ref p] ∧ ((SqL K H p ys ∧ ∀ l, H l = none → Q (.ref l) (upd H l (.tup ys))) ∨ (SqT K H p ys ∧ Q (.ref p) H))) fTuple := by
  intro G H vs ds S Q q dm r h k
  unfold fTuple at h
  split at h
  · obtain ⟨v, rfl⟩ := len1 r
    obtain ⟨a, ws, rfl, hs, rr⟩ := r.tupE
    exact ⟨a, ws, rfl, .inr ⟨hs, k _ _ H (Same.refl _) (.tup hs rr .nil) h⟩⟩
  · obtain ⟨v, rfl⟩ := len1 r
    obtain ⟨a, ws, rfl, hs, rr⟩ := r.lstE
    exact ⟨a, ws, rfl, .inl ⟨.inl (.inl hs), fun l hl => k _ _ _ (same_upd hl) (.newT hl rr) h⟩⟩
  · obtain ⟨v, rfl⟩ := len1 r
    obtain ⟨a, ws, rfl, hs, rr⟩ := r.rolE
    exact ⟨a, ws, rfl, .inl ⟨hs, fun l hl => k _ _ _ (same_upd hl) (.newT hl rr) h⟩⟩
  · obtain ⟨v, rfl⟩ := len1 r
    obtain ⟨a, ws, S1, rfl, hs, rr⟩ := r.mlsE
    have := rr.fzs0 h.1; subst this
    exact ⟨a, ws, rfl, .inl ⟨.inl (.inl hs), fun l hl => k _ _ _ (same_upd hl) (.newT hl rr) h.2⟩⟩
  · exact h.elim
theorem cs_list : CSim K (fun xs H Q => ∃ p ys, xs = [.ref p] ∧ (SqL K H p ys ∨ SqT K H p ys) ∧ ∀ l, H l = none → Q (.ref l) (upd H l (.lst ys))) fList := by
  intro G H vs ds S Q q dm r h k
  unfold fList at h
  split at h
  · obtain ⟨v, rfl⟩ := len1 r
    obtain ⟨a, ws, rfl, hs, rr⟩ := r.tupE
    exact ⟨a, ws, rfl, .inr hs, fun l hl => k _ _ _ (same_upd hl) (.newL dm hl rr) h⟩
  · obtain ⟨v, rfl⟩ := len1 r
    obtain ⟨a, ws, rfl, hs, rr⟩ := r.lstE
    exact ⟨a, ws, rfl, .inl (.inl (.inl hs)), fun l hl => k _ _ _ (same_upd hl) (.newL dm hl rr) h⟩
  · obtain ⟨v, rfl⟩ := len1 r
    obtain ⟨a, ws, rfl, hs, rr⟩ := r.rolE
    exact ⟨a, ws, rfl, .inl hs, fun l hl => k _ _ _ (same_upd hl) (.newL dm hl rr) h⟩
  · obtain ⟨v, rfl⟩ := len1 r
    obtain ⟨a, ws, S1, rfl, hs, rr⟩ := r.mlsE
    have := rr.fzs0 h.1; subst this
    exact ⟨a, ws, rfl, .inl (.inl (.inl hs)), fun l hl => k _ _ _ (same_upd hl) (.newL dm hl rr) h.2⟩
  · exact h.elim
/-! ### isinstance -/
def tyD : D → Option String
  | .non => some "NoneType"
  | .bl _ => some "bool"
  | .int _ => some "int"
  | .str _ => some "str"
  | .tup _ => some "tuple"
  | .lst _ => some "list"
  | .rol _ => some "list"
  | .mls _ => some "list"
  | .mdc _ => some "dict"
  | .fdc _ => some "dict"
  | _ => none
inductive Ty where
  | int | str | bool | tup | lst | dic
def Ty.nm : Ty → String
  | .int => "int"
  | .str => "str"
  | .bool => "bool"
  | .tup => "tuple"
  | .lst => "list"
  | .dic => "dict"
/-- isinstance(x, T) -/
def isD : Ty → D → Bool
  | .bool, .bl _ => true
  | .int, .bl _ => true
  | .int, .int _ => true
  | .str, .str _ => true
  | .tup, .tup _ => true
  | .lst, .lst _ => true
  | .lst, .rol _ => true
  | .lst, .mls _ => true
  | .dic, .mdc _ => true
  | .dic, .fdc _ => true
  | _, _ => false
theorem kit_all {T : Ty} {d : D} {t : String} (h : tyD d = some t) : kitB t T.nm = some (isD T d) := by
  cases d <;> simp only [tyD, Option.some.injEq, reduceCtorEq] at h <;> subst h <;> cases T <;> (simp only [isD, Ty.nm]; decide +kernel)
theorem R.tyX {G : Addr → Prop} {H : Hp} {v : V} {d : D} {S : List Addr} {t : String} (r : R K G H [v] [d] S) (h : tyD d = some t) : TyX K H v (.type t) := by
  cases r with
  | «at» z _ =>
    cases z with
    | non => cases h; exact .base .non
    | bl => cases h; exact .base (.bl _)
    | int => cases h; exact .base (.int _)
    | str _ => cases h; exact .base (.str _)
    | cv => cases h
  | tup z _ _ =>
    cases h
    rcases z with (z | ⟨o, z⟩) | ⟨o, its, n, hk, hc, _⟩
    · exact .base (.tup z)
    · exact .fTuple z
    · exact .kTuple hk hc
  | lst _ z _ _ => cases h; exact .base (.lst z)
  | rol z _ _ =>
    cases h
    rcases z with z | ⟨o, z⟩
    · rcases z (fun _ => none) with (z | ⟨o, z⟩) | ⟨o, its, n, hk, hc, _⟩
      · cases z
      · cases z
      · exact .kList hk hc
    · exact .base (.frz z)
  | mls z _ _ => cases h; exact .base (.lst z)
  | fdc _ z _ _ _ => cases h; exact .base (.dK z)
  | mdc z _ _ _ => cases h; exact .base (.dK z)
  | exc _ _ _ _ _ _ => cases h
  | ins _ _ _ _ _ => cases h
def mIsi (T : Ty) (ma : METy) : METy := fun ρ q x => ma ρ (fun d ρ1 => match tyD d with
  | some _ => q (.bl (isD T d)) ρ1
  | none => False) x
theorem sim_isi (T : Ty) (ha : Sim K W vw1 b1 ta ma) : Sim K W false b1 (tCB (rIsi K) (tCons ta (tCons (tC (.ty T.nm)) tNil))) (mIsi T ma) := by
  intro B F σ ρ H Q q x s h k e
  refine ha B F σ ρ H _ _ x s h (fun v1 d1 ρ1 F1 H1 S1 s1 r1 m1 z1 a1 h1 => ?_) e
  split at h1
  · rename_i t ht
    exact ⟨v1, .ty T.nm, _, _, _, rfl, .ty _, r1.tyX ht, kit_ty (kit_all ht), k _ _ ρ1 F1 H1 [] s1 .bl1 (by simp) (fun _ => rfl) a1 h1⟩
  · exact h1.elim
end
end Mi
end

-- text MD
section
set_option Elab.async false
set_option linter.all false
set_option maxRecDepth 100000
set_option maxHeartbeats 4000000
/-! MD: a def's promise over plain data, its call. -/
namespace Mi
open PySem PySem.Spec PyProof.Rows L2

/-- a promise: the arguments, what is wanted of the answer and of the arguments behind it, of an error -/
abbrev FS := List D → (D → List D → Prop) → (Er → List D → Prop) → Prop
inductive RA (K : Frg) (G : Addr → Prop) (H : Hp) : List Bool → List V → List D → List Addr → Prop
  | nil : RA K G H [] [] [] []
  | val {v d ms vs ds S} : R K G H [v] [d] [] → RA K G H ms vs ds S → RA K G H (false :: ms) (v :: vs) (d :: ds) S
  | ref {v d ms vs ds S1 S} : R K G H [v] [d] S1 → RA K G H ms vs ds S → RA K G H (true :: ms) (v :: vs) (d :: ds) (S1 ++ S)
section
variable {K : Frg} {G G' : Addr → Prop} {H H' : Hp} {C : Addr → Prop}
theorem RA.mono (keep : ∀ a o, H a = some o → ¬ C a → H' a = some o) (hC : ∀ a, C a → G a ∧ Mut (H a)) (hG : ∀ a o, H a = some o → ¬ G a → ¬ G' a) :
    ∀ {ms vs ds S}, RA K G H ms vs ds S → (∀ a ∈ S, ¬ C a) → RA K G' H' ms vs ds S := by
  intro ms vs ds S r
  induction r with
  | nil => intro _; exact .nil
  | val h _ ih => intro n; exact .val (h.mono keep hC hG fun _ z => absurd z (by simp)) (ih n)
  | ref h _ ih => intro n; exact .ref (h.mono keep hC hG fun a z => n a (by simp [z])) (ih fun a z => n a (by simp [z]))
theorem RA.mem : ∀ {ms vs ds S}, RA K G H ms vs ds S → ∀ a ∈ S, Mut (H a) := by
  intro ms vs ds S r
  induction r with
  | nil => intro a z; simp at z
  | val _ _ ih => exact ih
  | ref h _ ih =>
    intro a z
    rcases List.mem_append.mp z with z | z
    · exact h.mem a z
    · exact ih a z
theorem RA.len : ∀ {ms vs ds S}, RA K G H ms vs ds S → vs.length = ms.length := by
  intro ms vs ds S r
  induction r <;> simp_all
/-- under another G that says the same of all that stands -/
theorem R.conv {vs ds S} (r : R K G H vs ds S) (hG : ∀ a o, H a = some o → ¬ G a → ¬ G' a) : R K G' H vs ds S :=
  r.mono (C := fun _ => False) (fun _ _ e _ => e) (fun _ z => z.elim) hG fun _ _ z => z
theorem RA.conv {ms vs ds S} (r : RA K G H ms vs ds S) (hG : ∀ a o, H a = some o → ¬ G a → ¬ G' a) : RA K G' H ms vs ds S :=
  r.mono (C := fun _ => False) (fun _ _ e _ => e) (fun _ z => z.elim) hG fun _ _ z => z
theorem E.conv {σ ρ S} (r : E K G H σ ρ S) (hG : ∀ a o, H a = some o → ¬ G a → ¬ G' a) : E K G' H σ ρ S :=
  r.mono (C := fun _ => False) (fun _ _ e _ => e) (fun _ z => z.elim) hG fun _ _ z => z
end
/-- the state of a call's arguments -/
structure Arg (K : Frg) (ms : List Bool) (G0 : Addr → Prop) (F : List Addr) (vs : List V) (ds : List D) (H : Hp) : Prop where
  ra : RA K (Gof F ⟨G0, []⟩) H ms vs ds F
  nd : F.Nodup
  ap : ∀ a ∈ F, ¬ G0 a
  old : ∀ a, G0 a → Mut (H a)
abbrev orS (G0 : Addr → Prop) (S : List Addr) : Addr → Prop := fun a => G0 a ∨ a ∈ S
/-- S: what the answer alone holds and may change -/
def spOf (K : Frg) (ms : List Bool) (f : FS) : Sp := fun vs H Q E => ∃ (G0 : Addr → Prop) (F : List Addr) (ds : List D) (q : D → List D → Prop) (x : Er → List D → Prop), Arg K ms G0 F vs ds H ∧ f ds q x ∧
  (∀ d ds' v S H' F', Arg K ms (orS G0 S) F' vs ds' H' → R K (Gof F' ⟨orS G0 S, []⟩) H' [v] [d] S → S.Nodup → (∀ a ∈ S, H a = none) → Stp F H F' H' → q d ds' → Q v H') ∧
  (∀ er ds' cls dx H' F', Arg K ms G0 F' vs ds' H' → RErr K (Gof F' ⟨G0, []⟩) H' cls dx er → Stp F H F' H' → x er ds' → E cls dx H')
theorem spOf_len {K : Frg} {ms : List Bool} {f : FS} {ps : List Str} (h : ms.length = ps.length) : ∀ vs H Q E, spOf K ms f vs H Q E → vs.length = ps.length := fun vs H Q E ⟨_, _, _, _, _, a, _⟩ => a.ra.len.trans h

/-! ### arguments of a call: data, or a slot's own object -/
inductive AV where
  | val (d : D)
  | ref (i : Nat)
abbrev MCTy := Env → (List AV → Env → Prop) → EK → Prop
inductive RC (K : Frg) (G : Addr → Prop) (H : Hp) (σ : L2.St) : List V → List AV → Prop
  | nil : RC K G H σ [] []
  | val {v d vs as} : R K G H [v] [d] [] → RC K G H σ vs as → RC K G H σ (v :: vs) (.val d :: as)
  | ref {v i vs as} : σ[i]? = some (some v) → RC K G H σ vs as → RC K G H σ (v :: vs) (.ref i :: as)
def KC (K : Frg) (B : Bg) (b : Bool) (F : List Addr) (σ : L2.St) (ρ : Env) (H : Hp) (Q : List V → Hp → Prop) (q : List AV → Env → Prop) : Prop :=
  ∀ vs as ρ' F' H', Sta K B F' σ ρ' H' → RC K (Gof F' B) H' σ vs as → Aft b F H ρ F' H' ρ' → q as ρ' → Q vs H'
def SimC (K : Frg) (W : WX) (b : Bool) (te : TA) (t : MCTy) : Prop := ∀ B F σ ρ H Q q x, Sta K B F σ ρ H → t ρ q x → KC K B b F σ ρ H Q q → KX K B W F σ H x → te σ H Q
def mcNil : MCTy := fun ρ q _ => q [] ρ
def mcVal (ma : METy) (mr : MCTy) : MCTy := fun ρ q x => ma ρ (fun d ρ1 => mr ρ1 (fun as ρ2 => q (.val d :: as) ρ2) x) x
def mcRef (i : Nat) (mr : MCTy) : MCTy := fun ρ q x => match ρ[i]? with
  | some (some _) => mr ρ (fun as ρ2 => q (.ref i :: as) ρ2) x
  | _ => False
section
variable {K : Frg} {W : WX} {vw vw1 vw2 b b1 b2 b3 : Bool} {te ta tb : TE} {t ma mb : METy} {tr : TA} {mr : MCTy}
theorem simc_nil : SimC K W true tNil mcNil := fun B F σ ρ H Q q x s h k _ => k [] [] ρ F H s .nil .refl h
theorem simc_val (ha : Sim K W false b1 ta ma) (hr : SimC K W b2 tr mr) : SimC K W (b1 && b2) (tCons ta tr) (mcVal ma mr) := by
  intro B F σ ρ H Q q x s h k e
  refine ha B F σ ρ H _ _ x s h (fun v1 d1 ρ1 F1 H1 S1 s1 r1 m1 z1 a1 h1 => ?_) e
  have := z1 rfl; subst this
  refine hr B F1 σ ρ1 H1 _ _ x s1 h1 (fun vs as ρ2 F2 H2 s2 r2 a2 h2 => ?_) (e.aft a1.stp)
  exact k _ _ ρ2 F2 H2 s2 (.val (r1.aftV s1 a2 (.inl rfl)) r2) (a1.trans a2) h2
theorem simc_ref {i : Nat} (hr : SimC K W b2 tr mr) : SimC K W b2 (tCons (tVar i) tr) (mcRef i mr) := by
  intro B F σ ρ H Q q x s h k e
  unfold mcRef at h
  split at h
  · rename_i d ed
    obtain ⟨v, S1, h1, _, _⟩ := s.env.get ed
    refine ⟨v, h1, ?_⟩
    exact hr B F σ ρ H _ _ x s h (fun vs as ρ2 F2 H2 s2 r2 a2 h2 => k _ _ ρ2 F2 H2 s2 (.ref h1 r2) a2 h2) e
  · exact h.elim
/-- the arguments taken out of the slots -/
def grab : List Bool → List AV → Env → Option (List D × Env)
  | [], [], ρ => some ([], ρ)
  | false :: ms, .val d :: as, ρ => (match grab ms as ρ with
    | some (ds, ρ') => some (d :: ds, ρ')
    | none => none)
  | true :: ms, .ref i :: as, ρ => (match ρ[i]? with
    | some (some d) => (match grab ms as (ρ.set i none) with
      | some (ds, ρ') => some (d :: ds, ρ')
      | none => none)
    | _ => none)
  | _, _, _ => none
/-- and put back -/
def putB : List AV → List D → Env → Env
  | .ref i :: as, d :: ds, ρ => (putB as ds ρ).set i (some d)
  | .val _ :: as, _ :: ds, ρ => putB as ds ρ
  | _, _, ρ => ρ
theorem grab_put {G : Addr → Prop} {H : Hp} {σ : L2.St} : ∀ (as : List AV) (ms : List Bool) (vs : List V) (ρ : Env) (F : List Addr) (ds : List D) (ρ0 : Env), E K G H σ ρ F → RC K G H σ vs as → grab ms as ρ = some (ds, ρ0) →
    ∃ Sc F1, RA K G H ms vs ds Sc ∧ E K G H σ ρ0 F1 ∧ F.Perm (Sc ++ F1) ∧ (∀ (j : Nat), ρ[j]? = some none → ρ0[j]? = some none ∧ ∀ ds', (putB as ds' ρ0)[j]? = some none) ∧
      ∀ G' H' ds' Sc' F1', E K G' H' σ ρ0 F1' → RA K G' H' ms vs ds' Sc' → ∃ F', E K G' H' σ (putB as ds' ρ0) F' ∧ F'.Perm (Sc' ++ F1') := by
  intro as
  induction as with
  | nil =>
    intro ms vs ρ F ds ρ0 e r g
    cases ms with
    | cons m ms => simp [grab] at g
    | nil =>
      simp only [grab, Option.some.injEq, Prod.mk.injEq] at g
      obtain ⟨rfl, rfl⟩ := g
      cases r
      refine ⟨[], F, .nil, e, List.Perm.refl _, fun j h => ⟨h, fun ds' => ?_⟩, fun G' H' ds' Sc' F1' e' ra => ?_⟩
      · cases ds' <;> exact h
      · cases ra
        exact ⟨F1', e', List.Perm.refl _⟩
  | cons a as ih =>
    intro ms vs ρ F ds ρ0 e r g
    cases r with
    | @val v d vs as r1 r2 =>
      cases ms with
      | nil => simp [grab] at g
      | cons m ms =>
        cases m with
        | true => simp [grab] at g
        | false =>
          simp only [grab] at g
          split at g
          · rename_i ds1 ρ1 g1
            cases g
            obtain ⟨Sc, F1, h1, h2, h3, h4, h5⟩ := ih ms vs ρ F ds1 ρ0 e r2 g1
            refine ⟨Sc, F1, .val r1 h1, h2, h3, fun j hj => ⟨(h4 j hj).1, fun ds' => ?_⟩, fun G' H' ds' Sc' F1' e' ra => ?_⟩
            · cases ds' with
              | nil => exact (h4 j hj).1
              | cons d' ds' => exact (h4 j hj).2 ds'
            · cases ra with
              | val q1 q2 => exact h5 G' H' _ Sc' F1' e' q2
          · cases g
    | @ref v i vs as r1 r2 =>
      cases ms with
      | nil => simp [grab] at g
      | cons m ms =>
        cases m with
        | false => simp [grab] at g
        | true =>
          simp only [grab] at g
          split at g
          · rename_i d ed
            split at g
            · rename_i ds1 ρ1 g1
              cases g
              obtain ⟨v', S1, S2, k1, k2, k3, k4⟩ := e.take ed
              rw [r1] at k1; cases k1
              obtain ⟨Sc, F1, h1, h2, h3, h4, h5⟩ := ih ms vs (ρ.set i none) S2 ds1 ρ0 k3 r2 g1
              have hi : (ρ.set i none)[i]? = some none := by
                have : i < ρ.length := (List.getElem?_eq_some_iff.mp ed).1
                simp [this]
              refine ⟨S1 ++ Sc, F1, .ref k2 h1, h2, ?_, fun j hj => ?_, fun G' H' ds' Sc' F1' e' ra => ?_⟩
              · rw [List.append_assoc]
                exact k4.trans (List.Perm.append_left _ h3)
              · have hne : i ≠ j := by
                  intro z; subst z
                  rw [ed] at hj; cases hj
                have hj' : (ρ.set i none)[j]? = some none := by
                  rw [List.getElem?_set_ne hne]; exact hj
                refine ⟨(h4 j hj').1, fun ds' => ?_⟩
                cases ds' with
                | nil => exact (h4 j hj').1
                | cons d' ds' =>
                  show ((putB as ds' ρ0).set i (some d'))[j]? = _
                  rw [List.getElem?_set_ne hne]
                  exact (h4 j hj').2 ds'
              · cases ra with
                | @ref _ d' _ _ ds' T1 T q1 q2 =>
                  obtain ⟨F', p1, p2⟩ := h5 G' H' ds' T F1' e' q2
                  obtain ⟨F2, p3, p4⟩ := p1.put ((h4 i hi).2 ds') q1
                  have es : σ.set i (some v) = σ := by
                    apply List.ext_getElem?
                    intro j
                    by_cases hj : j = i
                    · subst hj
                      have : j < σ.length := (List.getElem?_eq_some_iff.mp r1).1
                      rw [r1]
                      simp [this]
                    · rw [List.getElem?_set_ne (Ne.symm hj)]
                  rw [es] at p3
                  refine ⟨F2, p3, ?_⟩
                  rw [List.append_assoc]
                  exact p4.trans (List.Perm.append_left _ p2)
            · cases g
          · cases g
/-- what a call does to the state: from the arguments' end to the state's end -/
theorem call_end {B : Bg} {F F1 Sc Sc' S : List Addr} {σ : L2.St} {ρ ρ0 : Env} {H H' : Hp} {ms : List Bool} {vs : List V} {ds' : List D} {as : List AV} (s : Sta K B F σ ρ H) (hp : F.Perm (Sc ++ F1)) (e0 : E K (Gof F B) H σ ρ0 F1)
    (h5 : ∀ G' H' ds' Sc' F1', E K G' H' σ ρ0 F1' → RA K G' H' ms vs ds' Sc' → ∃ F', E K G' H' σ (putB as ds' ρ0) F' ∧ F'.Perm (Sc' ++ F1'))
    (a : Arg K ms (orS (fun a => a ∈ F1 ∨ B.G0 a) S) Sc' vs ds' H') (hS : ∀ a ∈ S, H a = none) (st : Stp Sc H Sc' H') :
    ∃ F', Sta K (B.andS S) F' σ (putB as ds' ρ0) H' ∧ Stp F H F' H' ∧ F'.Perm (Sc' ++ F1) ∧ ∀ b o, H' b = some o → ¬ Gof Sc' ⟨orS (fun a => a ∈ F1 ∨ B.G0 a) S, []⟩ b → ¬ Gof F' (B.andS S) b := by
  have nd := (hp.nodup_iff.mp s.nd)
  rw [List.nodup_append] at nd
  obtain ⟨nd1, nd2, nd3⟩ := nd
  have mF : ∀ a, a ∈ F ↔ (a ∈ Sc ∨ a ∈ F1) := fun a => by rw [hp.mem_iff, List.mem_append]
  have cv : ∀ b, Gof Sc' ⟨orS (fun a => a ∈ F1 ∨ B.G0 a) S, []⟩ b ↔ ((b ∈ Sc' ∨ b ∈ F1) ∨ (B.G0 b ∨ b ∈ S)) := fun b => by
    unfold Gof orS
    constructor
    · rintro (z | (z | z) | z)
      · exact .inl (.inl z)
      · exact .inl (.inr z)
      · exact .inr (.inl z)
      · exact .inr (.inr z)
    · rintro ((z | z) | z | z)
      · exact .inl z
      · exact .inr (.inl (.inl z))
      · exact .inr (.inl (.inr z))
      · exact .inr (.inr z)
  have e1 : E K (fun b => (b ∈ Sc' ∨ b ∈ F1) ∨ (B.G0 b ∨ b ∈ S)) H' σ ρ0 F1 := by
    refine e0.mono (C := fun a => a ∈ Sc) (fun a o e n => st.keep a o e n) (fun a z => ⟨.inl ((mF a).mpr (.inl z)), s.memF ((mF a).mpr (.inl z))⟩) (fun a o e n z => ?_) fun a z c => nd3 a c a z rfl
    rcases z with (z | z) | z | z
    · rcases st.fresh a z with q | q
      · exact n (.inl ((mF a).mpr (.inl q)))
      · rw [e] at q; cases q
    · exact n (.inl ((mF a).mpr (.inr z)))
    · exact n (.inr z)
    · have := hS a z
      rw [e] at this; cases this
  have a1 : RA K (fun b => (b ∈ Sc' ∨ b ∈ F1) ∨ (B.G0 b ∨ b ∈ S)) H' ms vs ds' Sc' := a.ra.conv fun b o _ n z => n ((cv b).mpr z)
  obtain ⟨F', p1, p2⟩ := h5 _ _ ds' Sc' F1 e1 a1
  have mF' : ∀ a, a ∈ F' ↔ (a ∈ Sc' ∨ a ∈ F1) := fun a => by rw [p2.mem_iff, List.mem_append]
  have cv2 : ∀ b, ((b ∈ Sc' ∨ b ∈ F1) ∨ (B.G0 b ∨ b ∈ S)) ↔ Gof F' (B.andS S) b := fun b => by
    unfold Gof Bg.andS
    rw [mF' b]
  refine ⟨F', ⟨p1.conv fun b o _ n z => n ((cv2 b).mpr z), ?_, fun b z q => ?_, fun b z => ?_, s.pin⟩, ⟨fun b o e n => ?_, fun b z => ?_, st.dom⟩, p2, fun b o _ n z => n ((cv b).mpr ((cv2 b).mpr z))⟩
  · rw [p2.nodup_iff, List.nodup_append]
    exact ⟨a.nd, nd2, fun x hx y hy e => a.ap x hx (.inl (.inl (e ▸ hy)))⟩
  · rcases (mF' b).mp z with z | z
    · rcases q with q | q
      · exact a.ap b z (.inl (.inr q))
      · exact a.ap b z (.inr q)
    · rcases q with q | q
      · exact s.ap b ((mF b).mpr (.inr z)) q
      · obtain ⟨u, e⟩ := mut_ne (s.memF ((mF b).mpr (.inr z)))
        have := hS b q
        rw [e] at this; cases this
  · rcases z with z | z
    · exact a.old b (.inl (.inr z))
    · exact a.old b (.inr z)
  · exact st.keep b o e fun z => n ((mF b).mpr (.inl z))
  · rcases (mF' b).mp z with z | z
    · rcases st.fresh b z with q | q
      · exact .inl ((mF b).mpr (.inl q))
      · exact .inr q
    · exact .inl ((mF b).mpr (.inr z))
theorem RErr.conv {G G' : Addr → Prop} {H : Hp} {cls : Value} {dx : Option Addr} {er : Er} (r : RErr K G H cls dx er) (hG : ∀ a o, H a = some o → ¬ G a → ¬ G' a) : RErr K G' H cls dx er := by
  obtain ⟨a, e, g, fv, h1, h2, h3⟩ := r
  exact ⟨a, e, g, fv, h1, h2, h3.conv hG⟩
/-- the answer is frozen -/
def ifFz (q : D → Prop) (d : D) : Prop := match d.fz with
  | true => q d
  | false => False
theorem orS_nil {G0 : Addr → Prop} {a : Addr} : orS G0 [] a ↔ G0 a := by simp
theorem Arg.ofNil {G0 : Addr → Prop} {ms : List Bool} {F : List Addr} {vs : List V} {ds : List D} {H : Hp} (a : Arg K ms G0 F vs ds H) : Arg K ms (orS G0 []) F vs ds H :=
  ⟨a.ra.conv fun b o _ n z => n (by
    rcases z with z | z
    · exact .inl z
    · exact .inr (orS_nil.mp z)), a.nd, fun b z q => a.ap b z (orS_nil.mp q), fun b z => a.old b (orS_nil.mp z)⟩
def mCall (f : FS) (ms : List Bool) (mr : MCTy) : METy := fun ρ q x => mr ρ (fun as ρ1 => match grab ms as ρ1 with
  | some (ds, ρ0) => f ds (fun d ds' => ifFz (fun d => q d (putB as ds' ρ0)) d) (fun er ds' => x er (putB as ds' ρ0))
  | none => False) x
theorem fz_of {q : D → Prop} {d : D} (h : ifFz q d) : d.fz = true ∧ q d := by
  unfold ifFz at h
  split at h
  · exact ⟨by assumption, h⟩
  · exact h.elim
/-- a new thing that nothing else holds and that may change -/
def KW (K : Frg) (B : Bg) (b : Bool) (F : List Addr) (σ : L2.St) (ρ : Env) (H : Hp) (Q : VK) (q : DK) : Prop :=
  ∀ v d S ρ' F' H', Sta K (B.andS S) F' σ ρ' H' → R K (Gof F' (B.andS S)) H' [v] [d] S → S.Nodup → (∀ a ∈ S, H a = none) → Aft b F H ρ F' H' ρ' → q d ρ' → Q v H'
def SimW (K : Frg) (W : WX) (b : Bool) (te : TE) (t : METy) : Prop := ∀ B F σ ρ H Q q x, Sta K B F σ ρ H → t ρ q x → KW K B b F σ ρ H Q q → KX K B W F σ H x → te σ H Q
def mCallW (f : FS) (ms : List Bool) (mr : MCTy) : METy := fun ρ q x => mr ρ (fun as ρ1 => match grab ms as ρ1 with
  | some (ds, ρ0) => f ds (fun d ds' => q d (putB as ds' ρ0)) (fun er ds' => x er (putB as ds' ρ0))
  | none => False) x
theorem none_back {F F1 : List Addr} {H H1 : Hp} (x : Stp F H F1 H1) {a : Addr} (h : H1 a = none) : H a = none := by
  cases e : H a with
  | none => rfl
  | some o =>
    obtain ⟨o', e1⟩ := x.dom a o e
    rw [h] at e1; cases e1
theorem simw_call {ms : List Bool} {f : FS} (hr : SimC K W b2 tr mr) : SimW K W false (tCallS (spOf K ms f) (WE W) tr) (mCallW f ms mr) := by
  intro B F σ ρ H Q q x s h k e
  refine hr B F σ ρ H _ _ x s h (fun vs as ρ1 F1 H1 s1 r1 a1 h1 => ?_) e
  split at h1
  · rename_i ds ρ0 g
    obtain ⟨Sc, F2, k1, k2, k3, _, k5⟩ := grab_put as ms vs ρ1 F1 ds ρ0 s1.env r1 g
    have nd := (k3.nodup_iff.mp s1.nd)
    rw [List.nodup_append] at nd
    have mF : ∀ a, a ∈ F1 ↔ (a ∈ Sc ∨ a ∈ F2) := fun a => by rw [k3.mem_iff, List.mem_append]
    refine ⟨fun a => a ∈ F2 ∨ B.G0 a, Sc, ds, _, _, ⟨k1.conv fun b o _ n z => n ?_, nd.1, fun a z q => ?_, fun a z => ?_⟩, h1, fun d ds' v S H' F' ag rv ns hS st p => ?_, fun er ds' cls dx H' F' ag re st p => ?_⟩
    · rcases z with z | z | z
      · exact .inl ((mF b).mpr (.inl z))
      · exact .inl ((mF b).mpr (.inr z))
      · exact .inr z
    · rcases q with q | q
      · exact nd.2.2 a z a q rfl
      · exact s1.ap a ((mF a).mpr (.inl z)) q
    · rcases z with z | z
      · exact s1.memF ((mF a).mpr (.inr z))
      · exact s1.old a z
    · obtain ⟨F3, s3, st3, p3, cv⟩ := call_end s1 k3 k2 k5 ag hS st
      exact k v d S _ F3 H' s3 (rv.conv cv) ns (fun a z => none_back a1.stp (hS a z)) ⟨a1.stp.trans st3, fun z => nomatch z⟩ p
    · obtain ⟨F3, s3, st3, p3, cv⟩ := call_end s1 k3 k2 k5 ag.ofNil (fun _ z => absurd z (by simp)) st
      refine e er _ F3 H' cls dx s3.ofNilS (re.conv fun b o e1 n z => cv b o e1 (fun y => n ?_) (gofS.mpr (.inl z))) (a1.stp.trans st3) p
      rcases y with y | y
      · exact .inl y
      · exact .inr (orS_nil.mp y)
  · exact h1.elim
theorem sim_call {ms : List Bool} {f : FS} (hr : SimC K W b2 tr mr) : Sim K W false false (tCallS (spOf K ms f) (WE W) tr) (mCall f ms mr) := by
  intro B F σ ρ H Q q x s h k e
  refine simw_call (f := f) (ms := ms) hr B F σ ρ H Q (fun d ρ' => ifFz (fun d => q d ρ') d) x s h (fun v d S ρ' F' H' s' r ns hS a p => ?_) e
  obtain ⟨hf, p⟩ := fz_of p
  have := r.fz0 hf; subst this
  exact k v d ρ' F' H' [] s'.ofNilS (r.conv fun b o _ n z => n (gofS.mpr (.inl z))) (by simp) (fun _ => rfl) a p
/-- a call whose arguments are all data: nothing that stands changes -/
theorem RA.ofR {G : Addr → Prop} {H : Hp} : ∀ {vs : List V} {ds : List D}, R K G H vs ds [] → RA K G H (List.replicate vs.length false) vs ds [] := by
  intro vs
  induction vs with
  | nil => intro ds r; cases r; exact .nil
  | cons v vs ih =>
    intro ds r
    cases ds with
    | nil => cases r
    | cons d ds =>
      obtain ⟨S1, S2, z, r1, r2⟩ := r.uncons
      obtain ⟨z1, z2⟩ := List.append_eq_nil_iff.mp z.symm
      subst z1 z2
      exact .val r1 (ih r2)
theorem RA.none0 {G : Addr → Prop} {H : Hp} : ∀ {n : Nat} {vs : List V} {ds : List D} {S}, RA K G H (List.replicate n false) vs ds S → S = [] := by
  intro n
  induction n with
  | zero => intro vs ds S r; cases r; rfl
  | succ n ih =>
    intro vs ds S r
    cases r with
    | val _ r => exact ih r
/-- data without lists -/
def lf : D → Bool
  | .non => true
  | .bl _ => true
  | .int _ => true
  | .str _ => true
  | .cv _ => true
  | .tup ds => lfs ds
  | _ => false
where lfs : List D → Bool
  | [] => true
  | d :: ds => lf d && lfs ds
theorem lf_conv {G G' : Addr → Prop} {H : Hp} : ∀ {vs ds S}, R K G H vs ds S → lf.lfs ds = true → R K G' H vs ds [] := by
  intro vs ds S r
  induction r with
  | nil => intro _; exact .nil
  | «at» h _ ih =>
    intro z
    simp only [lf.lfs, Bool.and_eq_true] at z
    exact .at h (ih z.2)
  | tup h _ _ ih1 ih2 =>
    intro z
    simp only [lf.lfs, lf, Bool.and_eq_true] at z
    exact .tup h (ih1 z.1) (ih2 z.2)
  | lst _ _ _ _ _ _ => intro z; simp [lf.lfs, lf] at z
  | rol _ _ _ _ _ => intro z; simp [lf.lfs, lf] at z
  | mls _ _ _ _ _ => intro z; simp [lf.lfs, lf] at z
  | fdc _ _ _ _ _ _ _ => intro z; simp [lf.lfs, lf] at z
  | mdc _ _ _ _ _ _ => intro z; simp [lf.lfs, lf] at z
  | exc _ _ _ _ _ _ _ _ => intro z; simp [lf.lfs, lf] at z
  | ins _ _ _ _ _ _ _ => intro z; simp [lf.lfs, lf] at z
def mCall0 (f : FS) (n : Nat) (ma : MATy) : METy := fun ρ q x => ma ρ (fun ds ρ1 => match ds.length.beq n with
  | true => f ds (fun d _ => ifFz (fun d => q d ρ1) d) (fun er _ => x er ρ1)
  | false => False) x
theorem sim_call0 {ma : MATy} {f : FS} {n : Nat} (ha : SimA K W false b1 tr ma) : Sim K W false b1 (tCallS (spOf K (List.replicate n false) f) (WE W) tr) (mCall0 f n ma) := by
  intro B F σ ρ H Q q x s h k e
  refine ha B F σ ρ H _ _ x s h (fun vs ds ρ1 F1 H1 S1 s1 r1 m1 z1 a1 h1 => ?_) e
  have := z1 rfl; subst this
  split at h1
  · rename_i hn
    have hn' := Nat.eq_of_beq_eq_true hn
    have hv : vs.length = n := r1.length.trans hn'
    have ra := RA.ofR r1
    rw [hv] at ra
    refine ⟨fun a => Gof F1 B a, [], ds, _, _, ⟨ra.conv fun b o _ n z => ?_, by simp, fun _ z => absurd z (by simp), fun a z => s1.memG z⟩, h1, fun d ds' v S H' F' ag rv ns hS st p => ?_, fun er ds' cls dx H' F' ag re st p => ?_⟩
    · rcases z with z | z
      · simp at z
      · exact n z
    · have e0 := ag.ra.none0; subst e0
      obtain ⟨hf, p⟩ := fz_of p
      have := rv.fz0 hf; subst this
      have sm : Same H1 H' := fun b o e => st.keep b o e (by simp)
      exact k v d ρ1 F1 H' [] (s1.ext sm) (rv.conv fun b o _ n z => n (.inr (.inl z))) (by simp) (fun _ => rfl) (a1.ext sm) p
    · have e0 := ag.ra.none0; subst e0
      have sm : Same H1 H' := fun b o e => st.keep b o e (by simp)
      exact e er ρ1 F1 H' cls dx (s1.ext sm) (re.conv fun b o _ n z => n (.inr z)) (a1.stp.trans (.same sm)) p
  · exact h1.elim
/-- a slot's own list lent to a def that only reads, and hands back no list -/
def lend : List D → Option (List D)
  | [] => some []
  | .mls es :: ds => (match fzs es with
    | true => (match lend ds with
      | some ds' => some (.lst es :: ds')
      | none => none)
    | false => none)
  | .mdc _ :: _ => none
  | .ins _ _ :: _ => none
  | d :: ds => (match lend ds with
    | some ds' => some (d :: ds')
    | none => none)
theorem R.lend {G : Addr → Prop} {H : Hp} : ∀ {vs : List V} {ds : List D} {S}, R K G H vs ds S → ∀ {ds'}, lend ds = some ds' → ∀ G' : Addr → Prop, (∀ a ∈ S, ¬ G' a) → (∀ a, G' a → G a) → R K G' H vs ds' [] := by
  intro vs ds S r
  induction r with
  | nil => intro ds' e G' _ _; cases e; exact .nil
  | @«at» v d vs ds S h _ ih =>
    intro ds' e G' n g
    have : Mi.lend (d :: ds) = (match Mi.lend ds with | some ds' => some (d :: ds') | none => none) := by cases h <;> rfl
    rw [this] at e
    split at e
    · rename_i ds1 e1; cases e
      exact .at h (ih e1 G' n g)
    · cases e
  | tup h h1 _ _ ih =>
    intro ds' e G' n g
    simp only [Mi.lend] at e
    split at e
    · rename_i ds1 e1; cases e
      exact .tup h (h1.conv fun a o _ z q => z (g a q)) (ih e1 G' n g)
    · cases e
  | lst h0 h h1 _ _ ih =>
    intro ds' e G' n g
    simp only [Mi.lend] at e
    split at e
    · rename_i ds1 e1; cases e
      exact .lst (fun z => h0 (g _ z)) h (h1.conv fun a o _ z q => z (g a q)) (ih e1 G' n g)
    · cases e
  | rol h h1 _ _ ih =>
    intro ds' e G' n g
    simp only [Mi.lend] at e
    split at e
    · rename_i ds1 e1; cases e
      exact .rol h (h1.conv fun a o _ z q => z (g a q)) (ih e1 G' n g)
    · cases e
  | mls h h1 _ _ ih =>
    intro ds' e G' n g
    simp only [Mi.lend] at e
    split at e
    · rename_i hf
      split at e
      · rename_i ds1 e1; cases e
        have := h1.fzs0 hf; subst this
        exact .lst (n _ (by simp)) h (h1.conv fun a o _ z q => z (g a q)) (ih e1 G' (fun a z => n a (by simp [z])) g)
      · cases e
    · cases e
  | fdc h0 h hk h1 _ _ ih =>
    intro ds' e G' n g
    simp only [Mi.lend] at e
    split at e
    · rename_i ds1 e1; cases e
      exact .fdc (fun z => h0 (g _ z)) h hk (h1.conv fun a o _ z q => z (g a q)) (ih e1 G' n g)
    · cases e
  | mdc _ _ _ _ _ _ => intro ds' e; cases e
  | exc g0 hd h hk h1 _ _ ih =>
    intro ds' e G' n g
    simp only [Mi.lend] at e
    split at e
    · rename_i ds1 e1; cases e
      exact .exc g0 hd h hk (h1.conv fun a o _ z q => z (g a q)) (ih e1 G' n g)
    · cases e
  | ins _ _ _ _ _ _ _ => intro ds' e; cases e
def mCallV (f : FS) (n : Nat) (ma : MATy) : METy := fun ρ q x => ma ρ (fun ds ρ1 => match lend ds with
  | some ds' => (match ds'.length.beq n with
    | true => f ds' (fun d _ => lf d = true ∧ q d ρ1) (fun _ _ => False)
    | false => False)
  | none => False) x
theorem sim_callV {ma : MATy} {f : FS} {n : Nat} (ha : SimA K W vw1 b1 tr ma) : Sim K W false b1 (tCallS (spOf K (List.replicate n false) f) (WE W) tr) (mCallV f n ma) := by
  intro B F σ ρ H Q q x s h k e
  refine ha B F σ ρ H _ _ x s h (fun vs ds ρ1 F1 H1 S1 s1 r1 m1 z1 a1 h1 => ?_) e
  split at h1
  · rename_i ds' hl
    split at h1
    · rename_i hn
      have hn' := Nat.eq_of_beq_eq_true hn
      have r2 : R K (fun a => Gof F1 B a ∧ a ∉ S1) H1 vs ds' [] := r1.lend hl _ (fun a z q => q.2 z) (fun a z => z.1)
      have hv : vs.length = n := r2.length.trans hn'
      have ra := RA.ofR r2
      rw [hv] at ra
      refine ⟨fun a => Gof F1 B a ∧ a ∉ S1, [], ds', _, _, ⟨ra.conv fun b o _ n z => ?_, by simp, fun _ z => absurd z (by simp), fun a z => s1.memG z.1⟩, h1, fun d ds' v S H' F' ag rv ns hS st p => ?_, fun er ds' cls dx H' F' ag re st p => p.elim⟩
      · rcases z with z | z
        · simp at z
        · exact n z
      · have e0 := ag.ra.none0; subst e0
        have sm : Same H1 H' := fun b o e => st.keep b o e (by simp)
        exact k v d ρ1 F1 H' [] (s1.ext sm) (lf_conv rv (by simp [lf.lfs, p.1])) (by simp) (fun _ => rfl) (a1.ext sm) p.2
    · exact h1.elim
  · exact h1.elim
end
end Mi
end

-- text ME
section
set_option Elab.async false
set_option linter.all false
set_option maxRecDepth 100000
set_option maxHeartbeats 4000000
/-! ME: statements, loops, a def's body. -/
namespace Mi
open PySem PySem.Spec PyProof.Rows L2

structure KS (K : Frg) (B : Bg) (W : WX) (F : List Addr) (H : Hp) (D : Ends) (E : Es) : Prop where
  nx : ∀ σ' ρ' F' H', Sta K B F' σ' ρ' H' → Stp F H F' H' → E.nx ρ' → D.nx σ' H'
  rt : ∀ v d S σ' ρ' F' H', Sta K (B.andS S) F' σ' ρ' H' → R K (Gof F' (B.andS S)) H' [v] [d] S → S.Nodup → (∀ a ∈ S, H a = none) → Stp F H F' H' → E.rt d ρ' → D.rt v H'
  bk : ∀ σ' ρ' F' H', Sta K B F' σ' ρ' H' → Stp F H F' H' → E.bk ρ' → D.bk σ' H'
  ct : ∀ σ' ρ' F' H', Sta K B F' σ' ρ' H' → Stp F H F' H' → E.ct ρ' → D.ct σ' H'
  ex : ∀ σ', KX K B W F σ' H E.ex
def SimS (K : Frg) (np : Nat → Bool) (W : WX) (ts : TS) (t : MSTy) : Prop :=
  ∀ B F σ ρ H D E, (∀ p ∈ B.pn, np p.1 = true) → Sta K B F σ ρ H → t E ρ → KS K B W F H D E → ts D σ H
section
variable {K : Frg} {np : Nat → Bool} {W : WX} {vw vw1 vw2 b b1 b2 b3 : Bool} {te ta tb : TE} {t ma mb : METy} {ts tu : TS} {s u : MSTy} {tt : TT} {mt : MTTy}
theorem KS.aft {B : Bg} {F F1 : List Addr} {H H1 : Hp} {D : Ends} {E : Es} (k : KS K B W F H D E) (a : Stp F H F1 H1) : KS K B W F1 H1 D E :=
  ⟨fun σ' ρ' F' H' s x e => k.nx σ' ρ' F' H' s (a.trans x) e, fun v d S σ' ρ' F' H' s r n hS x e => k.rt v d S σ' ρ' F' H' s r n (fun b z => none_back a (hS b z)) (a.trans x) e, fun σ' ρ' F' H' s x e => k.bk σ' ρ' F' H' s (a.trans x) e,
    fun σ' ρ' F' H' s x e => k.ct σ' ρ' F' H' s (a.trans x) e, fun σ' => (k.ex σ').aft a⟩
theorem KS.rt0 {B : Bg} {F : List Addr} {H : Hp} {D : Ends} {E : Es} (k : KS K B W F H D E) : ∀ v d σ' ρ' F' H', Sta K B F' σ' ρ' H' → R K (Gof F' B) H' [v] [d] [] → Stp F H F' H' → E.rt d ρ' → D.rt v H' := fun v d σ' ρ' F' H' s r x e =>
  k.rt v d [] σ' ρ' F' H' s.nilS (r.conv fun b o _ n z => n (by
    rcases gofS.mp z with z | z
    · exact z
    · simp at z)) (by simp) (fun _ z => absurd z (by simp)) x e
theorem KS.nxt {B : Bg} {F : List Addr} {H : Hp} {D : Ends} {E : Es} (k : KS K B W F H D E) {n : L2.St → Hp → Prop} {m : Env → Prop} (h : ∀ σ' ρ' F' H', Sta K B F' σ' ρ' H' → Stp F H F' H' → m ρ' → n σ' H') :
    KS K B W F H { D with nx := n } { E with nx := m } := ⟨h, k.rt, k.bk, k.ct, k.ex⟩

def mNext : MSTy := fun E ρ => E.nx ρ
def mSeq (s u : MSTy) : MSTy := fun E ρ => s { E with nx := u E } ρ
/-- with a word between -/
def mSeqC (s u : MSTy) : MSTy := fun E ρ => ∃ I : Env → Prop, s { E with nx := I } ρ ∧ ∀ ρ', I ρ' → u E ρ'
theorem ss_nil : SimS K np W tNext mNext := fun B F σ ρ H D E _ st h k => k.nx σ ρ F H st .refl h
theorem ss_cons (h1 : SimS K np W ts s) (h2 : SimS K np W tu u) : SimS K np W (tSeq ts tu) (mSeq s u) := fun B F σ ρ H D E hp st h k =>
  h1 B F σ ρ H _ _ hp st h (k.nxt fun σ' ρ' F' H' s' x e => h2 B F' σ' ρ' H' D E hp s' e (k.aft x))
theorem ss_cut (h1 : SimS K np W ts s) (h2 : SimS K np W tu u) : SimS K np W (tSeq ts tu) (mSeqC s u) := fun B F σ ρ H D E hp st h k => by
  obtain ⟨I, p1, p2⟩ := h
  exact h1 B F σ ρ H _ _ hp st p1 (k.nxt fun σ' ρ' F' H' s' x e => h2 B F' σ' ρ' H' D E hp s' (p2 ρ' e) (k.aft x))
/-- a ghost step: a slot is forgotten ahead of a statement -/
def mKill (i : Nat) (s : MSTy) : MSTy := fun E ρ => s E (ρ.set i none)

/-! ### stores to names -/
theorem Sta.store {B : Bg} {F : List Addr} {σ : L2.St} {ρ : Env} {H : Hp} {i : Nat} {v : V} {d : D} (s : Sta K B F σ ρ H) (hi : i < ρ.length) (hp : ∀ p ∈ B.pn, p.1 ≠ i) (r : R K (Gof F B) H [v] [d] []) :
    ∃ F', Sta K B F' (σ.set i (some v)) (ρ.set i (some d)) H ∧ Stp F H F' H := by
  obtain ⟨S2, e2, S1, pm⟩ := s.env.kill i
  have hn : (ρ.set i none)[i]? = some none := by simp [hi]
  obtain ⟨F', e3, pm3⟩ := e2.put hn r
  rw [List.set_set, List.nil_append] at *
  have sub : ∀ a ∈ F', a ∈ F := fun a z => by
    rw [pm.mem_iff]
    exact List.mem_append_right _ (pm3.mem_iff.mp z)
  have cv : ∀ a o, H a = some o → ¬ Gof F B a → ¬ Gof F' B a := fun a o _ n z => by
    rcases z with z | z
    · exact n (.inl (sub a z))
    · exact n (.inr z)
  have nd := pm.nodup_iff.mp s.nd
  rw [List.nodup_append] at nd
  refine ⟨F', ⟨e3.conv cv, pm3.nodup_iff.mpr nd.2.1, fun a z => s.ap a (sub a z), s.old, fun p hp' => ?_⟩, ⟨fun a o e _ => e, fun a z => .inl (sub a z), fun a o e => ⟨o, e⟩⟩⟩
  rw [List.getElem?_set_ne (Ne.symm (hp p hp'))]
  exact s.pin p hp'
/-- the slot is there -/
theorem Sta.len {B : Bg} {F : List Addr} {σ : L2.St} {ρ : Env} {H : Hp} (s : Sta K B F σ ρ H) : σ.length = ρ.length := s.env.length
abbrev MGTy := D → Env → (Env → Prop) → Prop
/-- σ' is σ but for the slots tg -/
structure But (tg : List Nat) (σ σ' : L2.St) : Prop where
  len : σ'.length = σ.length
  sl : ∀ j, j ∉ tg → σ'[j]? = σ[j]?
theorem But.refl {tg : List Nat} {σ : L2.St} : But tg σ σ := ⟨rfl, fun _ _ => rfl⟩
theorem But.set {tg : List Nat} {σ σ' : L2.St} (h : But tg σ σ') {i : Nat} (hi : i ∈ tg) (o : Option V) : But tg σ (σ'.set i o) :=
  ⟨by rw [List.length_set]; exact h.len, fun j hj => by rw [List.getElem?_set_ne (show i ≠ j from fun z => hj (by rw [← z]; exact hi))]; exact h.sl j hj⟩
def SimG (K : Frg) (np : Nat → Bool) (tg : List Nat) (g : TG) (m : MGTy) : Prop := ∀ B F σ ρ H v d (Q : L2.St → Hp → Prop) (q : Env → Prop), (∀ p ∈ B.pn, np p.1 = true) → Sta K B F σ ρ H → R K (Gof F B) H [v] [d] [] → m d ρ q →
  (∀ σ' ρ' F', Sta K B F' σ' ρ' H → Stp F H F' H → But tg σ σ' → q ρ' → Q σ' H) → g v σ H Q
def mgName (i : Nat) : MGTy := fun d ρ q => match Nat.blt i ρ.length with
  | true => q (ρ.set i (some d))
  | false => False
theorem np_ne {B : Bg} {i : Nat} (hp : ∀ p ∈ B.pn, np p.1 = true) (h : np i = false) : ∀ p ∈ B.pn, p.1 ≠ i := fun p z e => by
  have := hp p z
  rw [e, h] at this; cases this
theorem g_name (i : Nat) (hi : np i = false := by rfl) : SimG K np [i] (gName i) (mgName i) := by
  intro B F σ ρ H v d Q q hp s r h k
  unfold mgName at h
  split at h
  · rename_i hl
    obtain ⟨F', s', st⟩ := s.store (i := i) (by simpa [Nat.blt_eq] using hl) (np_ne hp hi) r
    exact k _ _ F' s' st (But.refl.set (by simp) _) h
  · exact h.elim
def sets : List Nat → List D → Env → Env
  | i :: is, d :: ds, ρ => sets is ds (ρ.set i (some d))
  | _, _, ρ => ρ
def mgTup (is : List Nat) : MGTy := fun d ρ q => match d with
  | .tup ds => (match ds.length.beq is.length with
    | true => (match is.all fun i => Nat.blt i ρ.length with
      | true => q (sets is ds ρ)
      | false => False)
    | false => False)
  | _ => False
def gNames : List Nat → TGs
  | [] => gNil
  | i :: is => gCons (gName i) (gNames is)
theorem g_names : ∀ (is : List Nat), (is.all fun i => !np i) = true → ∀ (B : Bg) F σ ρ H vs ds (Q : L2.St → Hp → Prop) (q : Env → Prop), (∀ p ∈ B.pn, np p.1 = true) → Sta K B F σ ρ H → R K (Gof F B) H vs ds [] → ds.length = is.length → (is.all fun i => Nat.blt i ρ.length) = true → q (sets is ds ρ) →
    (∀ σ' ρ' F', Sta K B F' σ' ρ' H → Stp F H F' H → But is σ σ' → q ρ' → Q σ' H) → gNames is vs σ H Q := by
  intro is
  induction is with
  | nil =>
    intro _ B F σ ρ H vs ds Q q hp s r hl _ h k
    cases ds with
    | cons _ _ => simp at hl
    | nil =>
      cases r
      exact ⟨rfl, k σ ρ F s .refl .refl h⟩
  | cons i is ih =>
    intro hn B F σ ρ H vs ds Q q hp s r hl hb h k
    cases ds with
    | nil => simp at hl
    | cons d ds =>
      cases vs with
      | nil => cases r
      | cons v vs =>
        obtain ⟨S1, S2, z, r1, r2⟩ := r.uncons
        obtain ⟨z1, z2⟩ := List.append_eq_nil_iff.mp z.symm
        subst z1 z2
        rw [List.all_cons, Bool.and_eq_true] at hn hb
        obtain ⟨F', s', st⟩ := s.store (i := i) (by simpa [Nat.blt_eq] using hb.1) (np_ne hp (by simpa using hn.1)) r1
        refine ⟨v, vs, rfl, ?_⟩
        refine ih hn.2 B F' _ _ H vs ds Q q hp s' (r2.aftσ s st) (by simpa using hl) (by simpa using hb.2) h fun σ' ρ' F2 s2 st2 bu e => k σ' ρ' F2 s2 (st.trans st2) ⟨by rw [bu.len, List.length_set], fun j hj => by rw [bu.sl j (fun z => hj (List.mem_cons_of_mem _ z)), List.getElem?_set_ne (fun z => hj (by rw [z]; exact List.mem_cons_self))]⟩ e
theorem g_tup (is : List Nat) (hi : (is.all fun i => !np i) = true := by rfl) {n : Nat} (hn : is.length = n := by rfl) : SimG K np is (gTup K n (gNames is)) (mgTup is) := by
  intro B F σ ρ H v d Q q hp s r h k
  unfold mgTup at h
  split at h
  · split at h
    · split at h
      · rename_i _ h1 _ h2
        obtain ⟨a, ws, rfl, hs, rr⟩ := r.tupE
        have e1 := Nat.eq_of_beq_eq_true h1
        exact ⟨a, ws, rfl, hs, by rw [rr.length, e1, hn], g_names is hi B F σ ρ H ws _ Q q hp s rr e1 h2 h k⟩
      · exact h.elim
    · exact h.elim
  · exact h.elim
def mAsg (ma : METy) (mg : MGTy) : MSTy := fun E ρ => ma ρ (fun d ρ1 => mg d ρ1 E.nx) E.ex
theorem ss_asg {g : TG} {mg : MGTy} {tg : List Nat} (ha : Sim K W false b1 ta ma) (hg : SimG K np tg g mg) : SimS K np W (tAsg ta g) (mAsg ma mg) := by
  intro B F σ ρ H D E hp s h k
  refine ha B F σ ρ H _ _ E.ex s h (fun v1 d1 ρ1 F1 H1 S1 s1 r1 m1 z1 a1 h1 => ?_) (k.ex σ)
  have := z1 rfl; subst this
  exact hg B F1 σ ρ1 H1 v1 d1 _ _ hp s1 r1 h1 fun σ' ρ' F' s' st _ e => k.nx σ' ρ' F' H1 s' (a1.stp.trans st) e
/-- x += e, ints -/
def mAug (f : F2) (i : Nat) (ma : METy) : MSTy := fun E ρ => match ρ[i]? with
  | some (some d0) => (match d0.fz with
    | true => ma ρ (fun d ρ1 => f d0 d (fun r => match Nat.blt i ρ1.length with
      | true => E.nx (ρ1.set i (some r))
      | false => False)) E.ex
    | false => False)
  | _ => False
theorem ss_aug {i : Nat} {r : R2} {f : F2} (hr : RSim K r f) (ha : Sim K W false b1 ta ma) (hi : np i = false := by rfl) : SimS K np W (tAug i ta r) (mAug f i ma) := by
  intro B F σ ρ H D E hp s h k
  unfold mAug at h
  split at h
  · rename_i d0 e0
    split at h
    · rename_i hf
      obtain ⟨v0, S0, g1, g2, _⟩ := s.env.get e0
      have := g2.fz0 hf; subst this
      refine ⟨v0, g1, ?_⟩
      refine ha B F σ ρ H _ _ E.ex s h (fun v1 d1 ρ1 F1 H1 S1 s1 r1 m1 z1 a1 h1 => ?_) (k.ex σ)
      have := z1 rfl; subst this
      refine hr _ H1 v0 v1 d0 d1 [] [] _ _ s1.dom (g2.aftσ s a1.stp) r1 h1 fun v d H' sm rv p => ?_
      split at p
      · rename_i hl
        obtain ⟨F', s', st⟩ := (s1.ext sm).store (i := i) (by simpa [Nat.blt_eq] using hl) (np_ne hp hi) rv
        exact k.nx _ _ F' H' s' ((a1.ext sm).stp.trans st) p
      · exact p.elim
    · exact h.elim
  · exact h.elim

/-! ### the other statements -/
def mExpr (ma : METy) : MSTy := fun E ρ => ma ρ (fun _ ρ1 => E.nx ρ1) E.ex
def mRet (ma : METy) : MSTy := fun E ρ => ma ρ (fun d ρ1 => E.rt d ρ1) E.ex
def mRetN : MSTy := fun E ρ => E.rt .non ρ
def mBrk : MSTy := fun E ρ => E.bk ρ
def mCnt : MSTy := fun E ρ => E.ct ρ
def mIf (m : MTTy) (s u : MSTy) : MSTy := fun E ρ => m ρ (fun c ρ1 => (c = true → s E ρ1) ∧ (c = false → u E ρ1)) E.ex
theorem ss_expr (ha : Sim K W vw1 b1 ta ma) : SimS K np W (tDrop ta) (mExpr ma) := fun B F σ ρ H D E hp s h k =>
  ha B F σ ρ H _ _ E.ex s h (fun v1 d1 ρ1 F1 H1 S1 s1 r1 m1 z1 a1 h1 => k.nx σ ρ1 F1 H1 s1 a1.stp h1) (k.ex σ)
theorem ss_ret (ha : Sim K W false b1 ta ma) : SimS K np W (tRet ta) (mRet ma) := fun B F σ ρ H D E hp s h k =>
  ha B F σ ρ H _ _ E.ex s h (fun v1 d1 ρ1 F1 H1 S1 s1 r1 m1 z1 a1 h1 => by
    have := z1 rfl; subst this
    exact k.rt0 v1 d1 σ ρ1 F1 H1 s1 r1 a1.stp h1) (k.ex σ)
/-- a new thing of its own handed back -/
theorem ss_retW (ha : SimW K W b1 ta ma) : SimS K np W (tRet ta) (mRet ma) := fun B F σ ρ H D E hp s h k =>
  ha B F σ ρ H _ _ E.ex s h (fun v d S ρ1 F1 H1 s1 r1 ns hS a1 h1 => k.rt v d S σ ρ1 F1 H1 s1 r1 ns hS a1.stp h1) (k.ex σ)
theorem ss_retN : SimS K np W tRetN mRetN := fun B F σ ρ H D E hp s h k => k.rt0 .non .non σ ρ F H s .non1 .refl h
theorem ss_brk : SimS K np W tBreak mBrk := fun B F σ ρ H D E hp s h k => k.bk σ ρ F H s .refl h
theorem ss_cnt : SimS K np W tCont mCnt := fun B F σ ρ H D E hp s h k => k.ct σ ρ F H s .refl h
theorem ss_if (hm : SimT K W b1 tt mt) (h1 : SimS K np W ts s) (h2 : SimS K np W tu u) : SimS K np W (tIfS tt ts tu) (mIf mt s u) := by
  intro B F σ ρ H D E hp st h k
  refine hm B F σ ρ H _ _ E.ex st h (fun c ρ1 F1 H1 s1 a1 p1 => ?_) (k.ex σ)
  cases c with
  | true =>
    show ts D σ H1
    exact h1 B F1 σ ρ1 H1 D E hp s1 (p1.1 rfl) (k.aft a1.stp)
  | false =>
    show tu D σ H1
    exact h2 B F1 σ ρ1 H1 D E hp s1 (p1.2 rfl) (k.aft a1.stp)
/-- a slot's own list handed back: the slot is empty behind it -/
def mRetMv (i : Nat) : MSTy := fun E ρ => match ρ[i]? with
  | some (some (.mls ds)) => (match fzs ds with
    | true => E.rt (.lst ds) (ρ.set i none)
    | false => False)
  | some (some d) => (match d.fz with
    | true => E.rt d ρ
    | false => False)
  | _ => False
theorem Sta.move {B : Bg} {F : List Addr} {σ : L2.St} {ρ : Env} {H : Hp} {i : Nat} {ds : List D} (s : Sta K B F σ ρ H) (h : ρ[i]? = some (some (.mls ds))) (hf : fzs ds = true) :
    ∃ v F', σ[i]? = some (some v) ∧ Sta K B F' σ (ρ.set i none) H ∧ R K (Gof F' B) H [v] [.lst ds] [] ∧ Stp F H F' H := by
  obtain ⟨v, S1, F', h1, h2, h3, pm⟩ := s.env.take h
  have nd := pm.nodup_iff.mp s.nd
  rw [List.nodup_append] at nd
  have sub : ∀ a ∈ F', a ∈ F := fun a z => by
    rw [pm.mem_iff]
    exact List.mem_append_right _ z
  have cv : ∀ a o, H a = some o → ¬ Gof F B a → ¬ Gof F' B a := fun a o _ n z => by
    rcases z with z | z
    · exact n (.inl (sub a z))
    · exact n (.inr z)
  refine ⟨v, F', h1, ⟨h3.conv cv, nd.2.1, fun a z => s.ap a (sub a z), s.old, s.pin⟩, ?_, ⟨fun a o e _ => e, fun a z => .inl (sub a z), fun a o e => ⟨o, e⟩⟩⟩
  cases h2 with
  | «at» z _ => cases z
  | @mls a ws es _ _ T1 T q1 q2 q3 =>
    have := q2.fzs0 hf; subst this
    have ha : a ∈ F := by rw [pm.mem_iff]; simp
    refine .lst (fun z => ?_) q1 (q2.conv cv) .nil
    rcases z with z | z
    · exact nd.2.2 a (by simp) a z rfl
    · exact s.ap a ha z
theorem ss_retMv {i : Nat} : SimS K np W (tRet (tVar i)) (mRetMv i) := by
  intro B F σ ρ H D E hp s h k
  unfold mRetMv at h
  split at h
  · rename_i ds e
    split at h
    · rename_i hf
      obtain ⟨v, F', h1, h2, h3, h4⟩ := s.move e hf
      exact ⟨v, h1, k.rt0 v _ σ _ F' H h2 h3 h4 h⟩
    · exact h.elim
  · rename_i d _ e
    split at h
    · rename_i hf
      obtain ⟨v, S1, h1, h2, _⟩ := s.env.get e
      have := h2.fz0 hf; subst this
      exact ⟨v, h1, k.rt0 v d σ ρ F H s h2 .refl h⟩
    · exact h.elim
  · exact h.elim
/-- x = y, y's own list: y is empty behind it; as an expression -/
def mMv (i : Nat) : METy := fun ρ q _ => match ρ[i]? with
  | some (some (.mls ds)) => (match fzs ds with
    | true => q (.lst ds) (ρ.set i none)
    | false => False)
  | some (some d) => (match d.fz with
    | true => q d ρ
    | false => False)
  | _ => False
theorem sim_mv {i : Nat} : Sim K W false false (tVar i) (mMv i) := by
  intro B F σ ρ H Q q x s h k _
  unfold mMv at h
  split at h
  · rename_i ds e
    split at h
    · rename_i hf
      obtain ⟨v, F', h1, h2, h3, h4⟩ := s.move e hf
      exact ⟨v, h1, k v _ _ F' H [] h2 h3 (by simp) (fun _ => rfl) ⟨h4, fun z => nomatch z⟩ h⟩
    · exact h.elim
  · rename_i d _ e
    split at h
    · rename_i hf
      obtain ⟨v, S1, h1, h2, _⟩ := s.env.get e
      have := h2.fz0 hf; subst this
      exact ⟨v, h1, k v d ρ F H [] s h2 (by simp) (fun _ => rfl) .refl h⟩
    · exact h.elim
  · exact h.elim

/-! ### loops -/
def mWhile (m : MTTy) (s : MSTy) : MSTy := fun E ρ => ∃ I : Nat → Env → Prop, (∃ n, I n ρ) ∧ ∀ n ρ, I n ρ →
  m ρ (fun c ρ1 => (c = true → s { E with nx := fun ρ' => ∃ n', n' < n ∧ I n' ρ', ct := fun ρ' => ∃ n', n' < n ∧ I n' ρ', bk := E.nx } ρ1) ∧ (c = false → E.nx ρ1)) E.ex
theorem ss_while (hm : SimT K W b1 tt mt) (h1 : SimS K np W ts s) : SimS K np W (tWhile tt ts) (mWhile mt s) := by
  intro B F σ ρ H D E hp st h k
  obtain ⟨I, ⟨n0, i0⟩, turn⟩ := h
  refine ⟨fun n σ' H' => ∃ ρ' F', Sta K B F' σ' ρ' H' ∧ Stp F H F' H' ∧ I n ρ', ⟨n0, ρ, F, st, .refl, i0⟩, ?_⟩
  rintro n σ1 H1 ⟨ρ1, F1, s1, a1, i1⟩
  refine hm B F1 σ1 ρ1 H1 _ _ E.ex s1 (turn n ρ1 i1) (fun c ρ2 F2 H2 s2 a2 p2 => ?_) ((k.ex σ1).aft a1)
  cases c with
  | true =>
    rw [if_pos rfl]
    refine ⟨fun σ' H' => ∃ n', n' < n ∧ ∃ ρ' F', Sta K B F' σ' ρ' H' ∧ Stp F H F' H' ∧ I n' ρ', fun σ' H' z => z, ?_⟩
    have k2 := k.aft (a1.trans a2.stp)
    have w : ∀ σ' ρ' F' H', Sta K B F' σ' ρ' H' → Stp F2 H2 F' H' → (∃ n', n' < n ∧ I n' ρ') → ∃ n', n' < n ∧ ∃ ρ' F', Sta K B F' σ' ρ' H' ∧ Stp F H F' H' ∧ I n' ρ' := fun σ' ρ' F' H' s' x ⟨n', l, i'⟩ =>
      ⟨n', l, ρ', F', s', (a1.trans a2.stp).trans x, i'⟩
    exact h1 B F2 σ1 ρ2 H2 _ _ hp s2 (p2.1 rfl) ⟨w, k2.rt, k2.nx, w, k2.ex⟩
  | false =>
    rw [if_neg (by decide)]
    exact k.nx σ1 ρ2 F2 H2 s2 (a1.trans a2.stp) (p2.2 rfl)
/-- J goes through ds, whatever happens to what may change -/
def Wk (K : Frg) (B : Bg) (F : List Addr) (H : Hp) (J : It) (ds : List D) : Prop :=
  ∃ (Gd : Hp → Prop) (Y : Nat → Hp → V → Hp → Prop), L2.Walk J ds.length Gd Y ∧
    ∀ F' H' (G' : Addr → Prop), Stp F H F' H' → (∀ a o, H a = some o → ¬ Gof F B a → ¬ G' a) → Dom G' H' → Gd H' ∧ ∀ i x H'', i < ds.length → Y i H' x H'' → Same H' H'' ∧ ∃ d, ds[i]? = some d ∧ R K G' H'' [x] [d] []
theorem gof_stp {B : Bg} {F F' : List Addr} {H H' : Hp} (x : Stp F H F' H') : ∀ a o, H a = some o → ¬ Gof F B a → ¬ Gof F' B a := fun a o e n z => by
  rcases z with z | z
  · rcases x.fresh a z with q | q
    · exact n (.inl q)
    · rw [e] at q; cases q
  · exact n (.inr z)
abbrev MITy := Env → (List D → Env → Prop) → EK → Prop
def KI (K : Frg) (B : Bg) (b : Bool) (F : List Addr) (σ : L2.St) (ρ : Env) (H : Hp) (Q : It → Hp → Prop) (q : List D → Env → Prop) : Prop :=
  ∀ J ds ρ' F' H', Sta K B F' σ ρ' H' → Wk K B F' H' J ds → Aft b F H ρ F' H' ρ' → q ds ρ' → Q J H'
def SimI (K : Frg) (W : WX) (b : Bool) (wi : TI) (t : MITy) : Prop := ∀ B F σ ρ H Q q x, Sta K B F σ ρ H → t ρ q x → KI K B b F σ ρ H Q q → KX K B W F σ H x → wi σ H Q
def mFor (mi : MITy) (mg : MGTy) (s : MSTy) : MSTy := fun E ρ => mi ρ (fun ds ρ1 => ∃ I : Nat → Env → Prop, I 0 ρ1 ∧
  (∀ i d ρ, ds[i]? = some d → I i ρ → mg d ρ (fun ρ2 => s { E with nx := I (i + 1), ct := I (i + 1), bk := E.nx } ρ2)) ∧ ∀ ρ, I ds.length ρ → E.nx ρ) E.ex
theorem ss_for {wi : TI} {mi : MITy} {g : TG} {mg : MGTy} {tg : List Nat} (hi : SimI K W b1 wi mi) (hg : SimG K np tg g mg) (h1 : SimS K np W ts s) : SimS K np W (tFor wi g ts) (mFor mi mg s) := by
  intro B F σ ρ H D E hp st h k
  refine hi B F σ ρ H _ _ E.ex st h (fun J ds ρ1 F1 H1 s1 wk a1 p1 => ?_) (k.ex σ)
  obtain ⟨I, i0, turn, fin⟩ := p1
  obtain ⟨Gd, Y, w, cy⟩ := wk
  refine L2.for_it w (fun i σ' H' => ∃ ρ' F', Sta K B F' σ' ρ' H' ∧ Stp F1 H1 F' H' ∧ I i ρ') ⟨ρ1, F1, s1, .refl, i0⟩ ?_ ?_ ?_
  · rintro i σ' H' _ ⟨ρ', F', s', x', _⟩
    exact (cy F' H' _ x' (gof_stp x') s'.dom).1
  · rintro i x σ' H' H'' hi ⟨ρ', F', s', x', ii⟩ y
    obtain ⟨sm, d, hd, rd⟩ := (cy F' H' _ x' (gof_stp x') s'.dom).2 i x H'' hi y
    have k2 := k.aft (a1.stp.trans (x'.trans (.same sm)))
    refine hg B F' σ' ρ' H'' x d _ _ hp (s'.ext sm) rd (turn i d ρ' hd ii) fun σ2 ρ2 F2 s2 st2 _ e => ?_
    have k3 := k2.aft st2
    have xx : Stp F1 H1 F2 H'' := (x'.trans (.same sm)).trans st2
    have w' : ∀ σ3 ρ3 F3 H3, Sta K B F3 σ3 ρ3 H3 → Stp F2 H'' F3 H3 → I (i + 1) ρ3 → ∃ ρ' F', Sta K B F' σ3 ρ' H3 ∧ Stp F1 H1 F' H3 ∧ I (i + 1) ρ' := fun σ3 ρ3 F3 H3 s3 x3 i3 => ⟨ρ3, F3, s3, xx.trans x3, i3⟩
    exact h1 B F2 σ2 ρ2 H'' _ _ hp s2 e ⟨w', k3.rt, k3.nx, w', k3.ex⟩
  · rintro σ' H' ⟨ρ', F', s', x', ii⟩
    exact k.nx σ' ρ' F' H' s' (a1.stp.trans x') (fin ρ' ii)

/-! ### a def's body -/
def outK : List Bool → List D → Env → (List D → Prop) → Prop
  | [], [], _, k => k []
  | false :: ms, d :: ds, _ :: ρ, k => outK ms ds ρ (fun l => k (d :: l))
  | true :: ms, _ :: ds, some d :: ρ, k => outK ms ds ρ (fun l => k (d :: l))
  | _, _, _, _ => False
def endsOf (ms : List Bool) (ds : List D) (q : D → List D → Prop) (x : Er → List D → Prop) : Es where
  nx := fun ρ => outK ms ds ρ (q .non)
  rt := fun d ρ => outK ms ds ρ (q d)
  bk := fun _ => False
  ct := fun _ => False
  ex := fun er ρ => outK ms ds ρ (x er)
def npOf (ms : List Bool) : Nat → Bool := fun i => ms.getD i false
def pinsOf : List Bool → List V → Nat → List (Nat × V)
  | true :: ms, v :: vs, i => (i, v) :: pinsOf ms vs (i + 1)
  | false :: ms, _ :: vs, i => pinsOf ms vs (i + 1)
  | _, _, _ => []
theorem pinsOf_np : ∀ (ms : List Bool) (vs : List V) (i : Nat), ∀ p ∈ pinsOf ms vs i, i ≤ p.1 ∧ ms.getD (p.1 - i) false = true ∧ vs[p.1 - i]? = some p.2
  | [], _, _, p, h => by simp [pinsOf] at h
  | true :: ms, [], _, p, h => by simp [pinsOf] at h
  | false :: ms, [], _, p, h => by simp [pinsOf] at h
  | true :: ms, v :: vs, i, p, h => by
    rcases List.mem_cons.mp h with rfl | h
    · simp
    · obtain ⟨h1, h2, h3⟩ := pinsOf_np ms vs (i + 1) p h
      have e : p.1 - i = (p.1 - (i + 1)) + 1 := by omega
      refine ⟨by omega, ?_, ?_⟩
      · rw [e]; simpa using h2
      · rw [e]; simpa using h3
  | false :: ms, v :: vs, i, p, h => by
    obtain ⟨h1, h2, h3⟩ := pinsOf_np ms vs (i + 1) p h
    have e : p.1 - i = (p.1 - (i + 1)) + 1 := by omega
    refine ⟨by omega, ?_, ?_⟩
    · rw [e]; simpa using h2
    · rw [e]; simpa using h3
theorem E.nones {G : Addr → Prop} {H : Hp} : ∀ (n : Nat), E K G H (List.replicate n Option.none) (List.replicate n Option.none) []
  | 0 => .nil
  | n + 1 => .dead (E.nones n)
theorem E.start {G : Addr → Prop} {H : Hp} {n : Nat} : ∀ {ms vs ds S}, RA K G H ms vs ds S → E K G H (vs.map some ++ List.replicate n none) (ds.map some ++ List.replicate n none) S := by
  intro ms vs ds S r
  induction r with
  | nil => exact E.nones n
  | val h _ ih => exact .live (S1 := []) h ih
  | ref h _ ih => exact .live h ih
/-- the arguments behind the body -/
theorem outK_arg {G G' : Addr → Prop} {H H' : Hp} : ∀ {ms vs ds S}, RA K G H ms vs ds S → ∀ {i : Nat} {σ : L2.St} {ρ : Env} {F : List Addr} {k : List D → Prop}, E K G' H' σ ρ F → (∀ v d, R K G H [v] [d] [] → R K G' H' [v] [d] []) →
    (∀ p ∈ pinsOf ms vs i, σ[p.1 - i]? = some (some p.2)) → outK ms ds ρ k → ∃ ds' S', RA K G' H' ms vs ds' S' ∧ k ds' ∧ ∃ T, F.Perm (S' ++ T) := by
  intro ms vs ds S r
  induction r with
  | nil =>
    intro i σ ρ F k e _ _ h
    exact ⟨[], [], .nil, h, F, List.Perm.refl _⟩
  | @val v d ms vs ds S h0 _ ih =>
    intro i σ ρ F k e cv hp h
    cases ρ with
    | nil => exact h.elim
    | cons o ρ =>
      cases e with
      | dead e =>
        obtain ⟨ds', S', h1, h2, T, h3⟩ := ih (i := i + 1) e cv (fun p z => by
          have := (pinsOf_np ms vs (i + 1) p z).1
          have e2 := hp p z
          have e3 : p.1 - i = (p.1 - (i + 1)) + 1 := by omega
          rw [e3] at e2
          simpa using e2) h
        exact ⟨d :: ds', S', .val (cv _ _ h0) h1, h2, T, h3⟩
      | @live v1 d1 σ1 ρ1 S1 F1 r1 e =>
        obtain ⟨ds', S', h1, h2, T, h3⟩ := ih (i := i + 1) e cv (fun p z => by
          have := (pinsOf_np ms vs (i + 1) p z).1
          have e2 := hp p z
          have e3 : p.1 - i = (p.1 - (i + 1)) + 1 := by omega
          rw [e3] at e2
          simpa using e2) h
        refine ⟨d :: ds', S', .val (cv _ _ h0) h1, h2, S1 ++ T, ?_⟩
        refine (List.Perm.append_left S1 h3).trans ?_
        rw [← List.append_assoc, ← List.append_assoc]
        exact List.Perm.append_right _ List.perm_append_comm
  | @ref v d ms vs ds S1 S h0 _ ih =>
    intro i σ ρ F k e cv hp h
    cases ρ with
    | nil => exact h.elim
    | cons o ρ =>
      cases o with
      | none => exact h.elim
      | some d' =>
        cases e with
        | @live v1 d1 σ1 ρ1 S2 F1 r1 e =>
          have hv : v1 = v := by
            have := hp (i, v) (by simp [pinsOf])
            simpa using this
          subst hv
          obtain ⟨ds', S', h1, h2, T, h3⟩ := ih (i := i + 1) e cv (fun p z => by
            have := (pinsOf_np ms vs (i + 1) p z).1
            have e2 := hp p (by simp [pinsOf, z])
            have e3 : p.1 - i = (p.1 - (i + 1)) + 1 := by omega
            rw [e3] at e2
            simpa using e2) h
          refine ⟨d' :: ds', S2 ++ S', .ref r1 h1, h2, T, ?_⟩
          rw [List.append_assoc]
          exact List.Perm.append_left _ h3
theorem arg_of {G0 : Addr → Prop} {pn : List (Nat × V)} {F F' : List Addr} {σ' : L2.St} {ρ' : Env} {H H' : Hp} {ms : List Bool} {vs : List V} {ds : List D} {k : List D → Prop} (a : Arg K ms G0 F vs ds H) (s : Sta K ⟨G0, pinsOf ms vs 0⟩ F' σ' ρ' H') (x : Stp F H F' H') (h : outK ms ds ρ' k) :
    ∃ ds' F'', Arg K ms G0 F'' vs ds' H' ∧ k ds' ∧ (∀ b, b ∈ F'' → b ∈ F') ∧ Stp F H F'' H' := by
  have cvR : ∀ v d, R K (Gof F ⟨G0, []⟩) H [v] [d] [] → R K (Gof F' ⟨G0, pinsOf ms vs 0⟩) H' [v] [d] [] := fun v d r => by
    refine r.mono (C := fun a => a ∈ F) (fun a o e n => x.keep a o e n) (fun b z => ⟨.inl z, a.ra.mem b z⟩) (fun b o e n z => ?_) (fun _ z => absurd z (by simp))
    rcases z with z | z
    · rcases x.fresh b z with q | q
      · exact n (.inl q)
      · rw [e] at q; cases q
    · exact n (.inr z)
  obtain ⟨ds', F'', h1, h2, T, h3⟩ := outK_arg a.ra (i := 0) s.env cvR (fun p z => s.pin p z) h
  have sub : ∀ b, b ∈ F'' → b ∈ F' := fun b z => by
    rw [h3.mem_iff]
    exact List.mem_append_left _ z
  have nd := h3.nodup_iff.mp s.nd
  rw [List.nodup_append] at nd
  refine ⟨ds', F'', ⟨h1.conv fun b o _ n z => n ?_, nd.1, fun b z => s.ap b (sub b z), s.old⟩, h2, sub, ⟨x.keep, fun b z => x.fresh b (sub b z), x.dom⟩⟩
  rcases z with z | z
  · exact .inl (sub b z)
  · exact .inr z
theorem arg_of2 {G0 : Addr → Prop} {S F F' : List Addr} {σ' : L2.St} {ρ' : Env} {H H' : Hp} {ms : List Bool} {vs : List V} {ds : List D} {k : List D → Prop} (a : Arg K ms G0 F vs ds H) (hS : ∀ b ∈ S, H b = none) (s : Sta K (Bg.andS ⟨G0, pinsOf ms vs 0⟩ S) F' σ' ρ' H') (x : Stp F H F' H') (h : outK ms ds ρ' k) :
    ∃ ds' F'', Arg K ms (orS G0 S) F'' vs ds' H' ∧ k ds' ∧ (∀ b, b ∈ F'' → b ∈ F') ∧ Stp F H F'' H' := by
  have cvR : ∀ v d, R K (Gof F ⟨G0, []⟩) H [v] [d] [] → R K (Gof F' (Bg.andS ⟨G0, pinsOf ms vs 0⟩ S)) H' [v] [d] [] := fun v d r => by
    refine r.mono (C := fun a => a ∈ F) (fun a o e n => x.keep a o e n) (fun b z => ⟨.inl z, a.ra.mem b z⟩) (fun b o e n z => ?_) (fun _ z => absurd z (by simp))
    rcases z with z | z | z
    · rcases x.fresh b z with q | q
      · exact n (.inl q)
      · rw [e] at q; cases q
    · exact n (.inr z)
    · have := hS b z
      rw [e] at this; cases this
  obtain ⟨ds', F'', h1, h2, T, h3⟩ := outK_arg a.ra (i := 0) s.env cvR (fun p z => s.pin p z) h
  have sub : ∀ b, b ∈ F'' → b ∈ F' := fun b z => by
    rw [h3.mem_iff]
    exact List.mem_append_left _ z
  have nd := h3.nodup_iff.mp s.nd
  rw [List.nodup_append] at nd
  refine ⟨ds', F'', ⟨h1.conv fun b o _ n z => n ?_, nd.1, fun b z => s.ap b (sub b z), s.old⟩, h2, sub, ⟨x.keep, fun b z => x.fresh b (sub b z), x.dom⟩⟩
  rcases z with z | z
  · exact .inl (sub b z)
  · exact .inr z
theorem okXN {P : Program} {w : World} {K : Frg} {mg : Str → Option Value} {base : Heap} {x qual : Str} {st : Stmt} {f : Addr} {fd : FuncData} {N ps : List Str} {k : Nat} {sp : Sp} (F : Fun K x qual st f fd) (S : FnScope N ps (defScope st)) (len : ∀ vs H Q E, sp vs H Q E → vs.length = ps.length)
    (hbody : ∀ (cdv : Value) (A : Around) (outer : List PySem.Env) (s : Shared) (H : Hp) (vs : List V) (Q : VK) (E : XK), Room k (A.deeper (envOfC qual (defScope st) s.heap.objs.size f cdv)) → sp vs H Q E →
      ∃ t, PSs (cxOf (L2N.CX P w) P w K mg base N qual (defScope st) f cdv A outer s H E) (defBody st) t ∧ t { nx := fun _ H' => Q .non H', rt := Q } (start N vs) H) : FnOk P w K mg base (L2N.CX P w) (k + 1) f fd ps sp := by
  obtain ⟨oc, od, kV, doc, pm, an, cdv, ct, osl, rfl, lk, hcd⟩ := F.ex
  exact fn_of lk hcd S len fun A outer s H vs Q E hr hsp => hbody cdv A outer s H vs Q E hr hsp
theorem body_run {K : Frg} {N ps : List Str} {ms : List Bool} {spec : FS} {ts : TS} {t : MSTy} {vs : List V} {H : Hp} {Q : VK} {E : XK} (hms : ms.length = ps.length) (h2 : SimS K (npOf ms) (fun cls d _ H' => E cls d H') ts t)
    (h3 : ∀ ds q x, ds.length = ms.length → spec ds q x → t (endsOf ms ds q x) (ds.map some ++ List.replicate (N.length - ps.length) none)) (hsp : spOf K ms spec vs H Q E) : ts { nx := fun _ H' => Q .non H', rt := Q } (L2.start N vs) H := by
  obtain ⟨G0, F, ds, q, x', a, hs, hq, hx⟩ := hsp
  have hlv := a.ra.len
  have hld : ds.length = ms.length := by
    have : ∀ {ms vs ds S}, RA K (Gof F ⟨G0, []⟩) H ms vs ds S → ds.length = ms.length := by
      intro ms vs ds S r
      induction r <;> simp_all
    exact this a.ra
  have e0 : Sta K ⟨G0, pinsOf ms vs 0⟩ F (L2.start N vs) (ds.map some ++ List.replicate (N.length - ps.length) none) H := by
    refine ⟨?_, a.nd, a.ap, a.old, fun p hp => ?_⟩
    · unfold L2.start
      rw [show N.length - vs.length = N.length - ps.length by rw [hlv, hms]]
      exact (Mi.E.start a.ra).conv fun b o _ n z => n z
    · obtain ⟨_, _, h⟩ := pinsOf_np ms vs 0 p hp
      unfold L2.start
      simp only [Nat.sub_zero] at h
      have hl : p.1 < vs.length := (List.getElem?_eq_some_iff.mp h).1
      rw [List.getElem?_append_left (by simpa using hl), List.getElem?_map, h]
      rfl
  refine h2 _ F _ _ H _ _ (fun p hp => ?_) e0 (h3 ds q x' hld hs) ?_
  · have := (pinsOf_np ms vs 0 p hp).2.1
    simpa [npOf] using this
  · have fin : ∀ v d S σ' ρ' F' H', Sta K (Bg.andS ⟨G0, pinsOf ms vs 0⟩ S) F' σ' ρ' H' → R K (Gof F' (Bg.andS ⟨G0, pinsOf ms vs 0⟩ S)) H' [v] [d] S → S.Nodup → (∀ a ∈ S, H a = none) → Stp F H F' H' → outK ms ds ρ' (q d) → Q v H' := fun v d S σ' ρ' F' H' s' r' ns hS x1 o => by
      obtain ⟨ds', F'', a', k', sub, x2⟩ := arg_of2 a hS s' x1 o
      refine hq d ds' v S H' F'' a' (r'.conv fun b o _ n z => n ?_) ns hS x2 k'
      rcases z with z | z
      · exact .inl (sub b z)
      · exact .inr z
    refine ⟨fun σ' ρ' F' H' s' x1 o => ?_, fin, fun _ _ _ _ _ _ z => z.elim, fun _ _ _ _ _ _ z => z.elim, fun σ' er ρ' F' H' cls dx s' re x1 o => ?_⟩
    · exact fin .non .non [] σ' ρ' F' H' s'.nilS .non1 (by simp) (fun _ z => absurd z (by simp)) x1 o
    · obtain ⟨ds', F'', a', k', sub, x2⟩ := arg_of (pn := []) a s' x1 o
      refine hx er ds' cls dx H' F'' a' (re.conv fun b o _ n z => n ?_) x2 k'
      rcases z with z | z
      · exact .inl (sub b z)
      · exact .inr z
theorem fn_ok {P : Program} {w : World} {mg : Str → Option Value} {base : Heap} {x qual : Str} {st : Stmt} {f : Addr} {fd : FuncData} {N ps : List Str} {k : Nat} (ms : List Bool) (spec : FS) (Fn : Fun K x qual st f fd) (S : FnScope N ps (defScope st)) (hms : ms.length = ps.length := by rfl)
    (hb : ∀ (cdv : Value) (A : Around) (outer : List PySem.Env) (s : Shared) (H : Hp) (E : XK), Room k (A.deeper (envOfC qual (defScope st) s.heap.objs.size f cdv)) →
      ∃ ts t, PSs (cxOf (L2N.CX P w) P w K mg base N qual (defScope st) f cdv A outer s H E) (defBody st) ts ∧ SimS K (npOf ms) (fun cls d _ H' => E cls d H') ts t ∧
        ∀ ds q x, ds.length = ms.length → spec ds q x → t (endsOf ms ds q x) (ds.map some ++ List.replicate (N.length - ps.length) none)) :
    FnOk P w K mg base (L2N.CX P w) (k + 1) f fd ps (spOf K ms spec) := by
  refine okXN Fn S (spOf_len hms) fun cdv A outer s H vs Q E hr hsp => ?_
  obtain ⟨ts, t, h1, h2, h3⟩ := hb cdv A outer s H E hr
  refine ⟨ts, h1, ?_⟩
  exact body_run hms h2 h3 hsp
end
end Mi
end

-- text MF
section
set_option Elab.async false
set_option linter.all false
set_option maxRecDepth 100000
set_option maxHeartbeats 4000000
/-! MF: what is walked, comprehensions, own lists. -/
namespace Mi
open PySem PySem.Spec PyProof.Rows L2
section
variable {K : Frg} {np : Nat → Bool} {W : WX} {vw vw1 vw2 b b1 b2 b3 : Bool} {te ta tb : TE} {t ma mb : METy} {ts tu : TS} {s u : MSTy} {tt : TT} {mt : MTTy} {tr : TA} {mr : MATy}

/-! ### walks -/
def iAny (K : Frg) (te : TE) : TI := fun σ H R => te σ H fun v H1 => (∃ a, v = .ref a ∧ (∃ xs, SqL K H1 a xs) ∧ R (Itl K a) H1) ∨ (∃ a, v = .ref a ∧ (∃ xs, SqT K H1 a xs) ∧ R (Itt K a) H1) ∨ ∃ x, v = .str x ∧ R (Its x) H1
theorem pi_any {X : Cx} {tg e : Expr} {te : TE} (he : PE X e te) : PI X tg e (iAny X.K te) := by
  refine ⟨fun pins s σ H R I h => ?_⟩
  refine thn (he.run pins s σ H _ I h) fun v s1 ⟨x, H1, I1, r1, q1⟩ => ?_
  rcases q1 with ⟨a, e, ⟨xs, hq⟩, q⟩ | ⟨a, e, ⟨xs, hq⟩, q⟩ | ⟨y, e, q⟩
  · subst e
    cases r1
    obtain ⟨its, rv, p, hz⟩ := I1.list hq
    refine wpAny_pyIter_list p.isList ?_
    refine ⟨s1.heap.objs.size, [s1.heap.objs.size], _, _, H1, rfl, I1.kept (t' := s1.toks) fun b o e => Heap.get?_push_of_some _ e, turn_list a _, ⟨_, Heap.get?_push_size _ rfl, rfl, rfl⟩, fun b hb => ?_, q⟩
    have e : b = s1.heap.objs.size := by simpa using hb
    subst e
    exact I1.fpOk (Nat.le_refl _) (I1.hok.fresh (Nat.le_refl _))
  · subst e
    cases r1
    obtain ⟨its, rv, p, hz⟩ := I1.tuple hq
    refine wpAny_pyIter_tuple (show s1.heap.IsTuple a its.toArray from p) ?_
    refine ⟨s1.heap.objs.size, [s1.heap.objs.size], _, _, H1, rfl, I1.kept (t' := s1.toks) fun b o e => Heap.get?_push_of_some _ e, turn_tuple a _, ⟨_, Heap.get?_push_size _ rfl, rfl, rfl⟩, fun b hb => ?_, q⟩
    have e : b = s1.heap.objs.size := by simpa using hb
    subst e
    exact I1.fpOk (Nat.le_refl _) (I1.hok.fresh (Nat.le_refl _))
  · subst e
    obtain ⟨t, rfl⟩ := r1
    cases ha : y.cps.all (· < 128)
    · exact wpAny_pyIter_wide ha (pi_one (tk := s1.toks) I1 _ (turn_str _ y t "str_iterator" (.inr rfl)) ⟨_, Heap.get?_push_size _ rfl, rfl, rfl⟩ q)
    · exact wpAny_pyIter_ascii ha (pi_one (tk := s1.toks) I1 _ (turn_str _ y t "str_ascii_iterator" (.inl rfl)) ⟨_, Heap.get?_push_size _ rfl, rfl, rfl⟩ q)
/-- the items of what is walked -/
def itemsOf : D → Option (List D)
  | .lst ds => some ds
  | .rol ds => some ds
  | .tup ds => some ds
  | .str a => some (a.map fun c => .str [c])
  | _ => none
def miAny (ma : METy) : MITy := fun ρ q x => ma ρ (fun d ρ1 => match itemsOf d with
  | some ds => q ds ρ1
  | none => False) x
theorem wk_at {B : Bg} {F : List Addr} {σ : L2.St} {ρ : Env} {H : Hp} (s : Sta K B F σ ρ H) {J : It} {ws : List V} {ds : List D} {Gd : Hp → Prop} (w : L2.Walk J ws.length Gd (YAt ws)) (r : R K (Gof F B) H ws ds [])
    (g : ∀ F' H', Stp F H F' H' → Gd H') : Wk K B F H J ds := by
  refine ⟨Gd, YAt ws, by rw [← r.length]; exact w, fun F' H' G' x hG dm => ⟨g F' H' x, fun i v H'' hi y => ?_⟩⟩
  obtain ⟨rfl, hv⟩ := y
  have r' : R K G' H'' ws ds [] := r.mono (C := fun a => a ∈ F) (fun a o e n => x.keep a o e n) (fun a z => ⟨.inl z, s.memF z⟩) hG (fun _ z => absurd z (by simp))
  have hl := r.length
  have hd : ds[i]? = some ds[i] := List.getElem?_eq_getElem hi
  obtain ⟨v', h1, h2⟩ := r'.get0 hd
  rw [hv] at h1; cases h1
  exact ⟨Same.refl _, _, hd, h2⟩
theorem simi_any (ha : Sim K W false b1 ta ma) : SimI K W b1 (iAny K ta) (miAny ma) := by
  intro B F σ ρ H Q q x s h k e
  refine ha B F σ ρ H _ _ x s h (fun v1 d1 ρ1 F1 H1 S1 s1 r1 m1 z1 a1 h1 => ?_) e
  have := z1 rfl; subst this
  split at h1
  · rename_i ds hi
    unfold itemsOf at hi
    split at hi
    · cases hi
      cases r1 with
      | «at» z _ => cases z
      | @lst a ws es _ _ S na q1 q2 q3 =>
        refine .inl ⟨a, rfl, ⟨ws, SqL.of q1⟩, k _ _ ρ1 F1 H1 s1 (wk_at s1 walk_list q2 fun F' H' x => SqL.of (x.keep a _ q1 fun z => na (.inl z))) a1 h1⟩
    · cases hi
      cases r1 with
      | «at» z _ => cases z
      | @rol a ws es _ _ S q1 q2 q3 =>
        have g : ∀ F' H', Stp F1 H1 F' H' → SqL K H' a ws := fun F' H' x => by
          rcases q1 with q1 | ⟨o, q1⟩
          · exact q1 _
          · refine .inl (.inr ⟨o, x.keep a _ q1 fun z => ?_⟩)
            have := s1.memF z
            rw [q1] at this
            exact this
        exact .inl ⟨a, rfl, ⟨ws, g F1 H1 .refl⟩, k _ _ ρ1 F1 H1 s1 (wk_at s1 walk_list q2 g) a1 h1⟩
    · cases hi
      cases r1 with
      | «at» z _ => cases z
      | @tup a ws es _ _ S q1 q2 q3 =>
        have g : ∀ F' H', Stp F1 H1 F' H' → SqT K H' a ws := fun F' H' x => by
          rcases q1 with (q1 | ⟨o, q1⟩) | q1
          · refine .inl (.inl (x.keep a _ q1 fun z => ?_))
            have := s1.memF z
            rw [q1] at this
            exact this
          · refine .inl (.inr ⟨o, x.keep a _ q1 fun z => ?_⟩)
            have := s1.memF z
            rw [q1] at this
            exact this
          · exact .inr q1
        exact .inr (.inl ⟨a, rfl, ⟨ws, g F1 H1 .refl⟩, k _ _ ρ1 F1 H1 s1 (wk_at s1 walk_tup q2 g) a1 h1⟩)
    · rename_i a
      cases hi
      obtain ⟨rfl, hl⟩ := r1.str
      refine .inr (.inr ⟨_, rfl, k _ _ ρ1 F1 H1 s1 ⟨fun _ => True, fun i H v H' => H' = H ∧ ∃ c, a[i]? = some c ∧ v = .str ⟨#[c]⟩, ?_, fun F' H' G' x hG dm => ⟨trivial, fun i v H'' hi y => ?_⟩⟩ a1 h1⟩)
      · have w := walk_str (z := (⟨a.toArray⟩ : Str))
        have e : (⟨a.toArray⟩ : Str).cps.size = (a.map fun c => D.str [c]).length := by simp
        rw [e] at w
        exact w.mono (fun _ h => h) fun i H x H' _ _ y => by simpa using y
      · obtain ⟨rfl, c, hc, rfl⟩ := y
        exact ⟨Same.refl _, .str [c], by simp [hc], .str1 (by rw [line_eq]; exact (by decide : 1 ≤ 16777216))⟩
    · cases hi
  · exact h1.elim
/-- range -/
def rngI (lo : Int) (n : Nat) : List D := (List.range n).map fun (i : Nat) => .int (lo + (i : Int))
def Bd (j : Int) : Prop := -(2 ^ 62) ≤ j ∧ j < 2 ^ 62
def miRng1 (ma : METy) : MITy := fun ρ q x => ma ρ (fun d ρ1 => match d with
  | .int j => Bd j ∧ q (rngI 0 j.toNat) ρ1
  | _ => False) x
def miRng2 (ma mb : METy) : MITy := fun ρ q x => ma ρ (fun d ρ1 => mb ρ1 (fun e ρ2 => match d, e with
  | .int i, .int j => (Bd i ∧ Bd j) ∧ q (rngI i (j - i).toNat) ρ2
  | _, _ => False) x) x
theorem wk_rng {B : Bg} {F : List Addr} {H : Hp} {lo : Int} {n : Nat} : Wk K B F H (Itr lo n) (rngI lo n) := by
  refine ⟨fun _ => True, YFn fun i => .int (lo + i), ?_, fun F' H' G' x hG dm => ⟨trivial, fun i v H'' hi y => ?_⟩⟩
  · have : (rngI lo n).length = n := by simp [rngI]
    rw [this]
    exact walk_range
  · obtain ⟨rfl, rfl⟩ := y
    refine ⟨Same.refl _, .int (lo + i), ?_, .int1⟩
    have : i < n := by simpa [rngI] using hi
    simp [rngI, this]
theorem simi_rng1 (ha : Sim K W vw1 b1 ta ma) : SimI K W b1 (iRng1 (tCons ta tNil)) (miRng1 ma) := by
  intro B F σ ρ H Q q x s h k e
  refine ha B F σ ρ H _ _ x s h (fun v1 d1 ρ1 F1 H1 S1 s1 r1 m1 z1 a1 h1 => ?_) e
  split at h1
  · have := r1.int; subst this
    exact ⟨_, rfl, h1.1.1, h1.1.2, k _ _ ρ1 F1 H1 s1 wk_rng a1 h1.2⟩
  · exact h1.elim
theorem simi_rng2 (ha : Sim K W false b1 ta ma) (hb : Sim K W false b2 tb mb) : SimI K W (b1 && b2) (iRng2 (tCons ta (tCons tb tNil))) (miRng2 ma mb) := by
  intro B F σ ρ H Q q x s h k e
  refine ha B F σ ρ H _ _ x s h (fun v1 d1 ρ1 F1 H1 S1 s1 r1 m1 z1 a1 h1 => ?_) e
  refine hb B F1 σ ρ1 H1 _ _ x s1 h1 (fun v2 d2 ρ2 F2 H2 S2 s2 r2 m2 z2 a2 h2 => ?_) (e.aft a1.stp)
  split at h2
  · have := r1.int; have := r2.int; subst_vars
    exact ⟨_, _, rfl, ⟨h2.1.1.1, h2.1.1.2, h2.1.2.1, h2.1.2.2⟩, k _ _ ρ2 F2 H2 s2 wk_rng (a1.trans a2) h2.2⟩
  · exact h2.elim
def rngC (lo c : Int) (n : Nat) : List D := (List.range n).map fun (i : Nat) => .int (lo + (i : Int) * c)
def miRng3 (ma mb mc : METy) : MITy := fun ρ q x => ma ρ (fun d ρ1 => mb ρ1 (fun e ρ2 => mc ρ2 (fun g ρ3 => match d, e, g with
  | .int i, .int j, .int c => ∃ n, RgC i j c n ∧ q (rngC i c n) ρ3
  | _, _, _ => False) x) x) x
theorem wk_rngC {B : Bg} {F : List Addr} {H : Hp} {lo c : Int} {n : Nat} : Wk K B F H (Itc lo c n) (rngC lo c n) := by
  refine ⟨fun _ => True, YFn fun i => .int (lo + (i : Nat) * c), ?_, fun F' H' G' x hG dm => ⟨trivial, fun i v H'' hi y => ?_⟩⟩
  · have : (rngC lo c n).length = n := by simp [rngC]
    rw [this]
    exact walk_rangeC
  · obtain ⟨rfl, rfl⟩ := y
    refine ⟨Same.refl _, .int (lo + i * c), ?_, .int1⟩
    have : i < n := by simpa [rngC] using hi
    simp [rngC, this]
theorem simi_rng3 {tc : TE} {mc : METy} (ha : Sim K W false b1 ta ma) (hb : Sim K W false b2 tb mb) (hc : Sim K W false b3 tc mc) : SimI K W (b1 && (b2 && b3)) (iRng3 (tCons ta (tCons tb (tCons tc tNil)))) (miRng3 ma mb mc) := by
  intro B F σ ρ H Q q x s h k e
  refine ha B F σ ρ H _ _ x s h (fun v1 d1 ρ1 F1 H1 S1 s1 r1 m1 z1 a1 h1 => ?_) e
  refine hb B F1 σ ρ1 H1 _ _ x s1 h1 (fun v2 d2 ρ2 F2 H2 S2 s2 r2 m2 z2 a2 h2 => ?_) (e.aft a1.stp)
  refine hc B F2 σ ρ2 H2 _ _ x s2 h2 (fun v3 d3 ρ3 F3 H3 S3 s3 r3 m3 z3 a3 h3 => ?_) (e.aft (a1.stp.trans a2.stp))
  split at h3
  · have := r1.int; have := r2.int; have := r3.int; subst_vars
    obtain ⟨n, hn, hq⟩ := h3
    exact ⟨_, _, _, n, rfl, hn, k _ _ ρ3 F3 H3 s3 wk_rngC (a1.trans (a2.trans a3)) hq⟩
  · exact h3.elim
/-- enumerate of a list -/
def pairs (ds : List D) : List D := (List.range ds.length).zipWith (fun (i : Nat) d => .tup [.int (i : Int), d]) ds

/-! ### new lists -/
/-- B with one more object that is not to be touched -/
def Bg.and (B : Bg) (p : Addr) : Bg := ⟨fun a => B.G0 a ∨ a = p, B.pn⟩
def KN (K : Frg) (B : Bg) (b : Bool) (F : List Addr) (σ : L2.St) (ρ : Env) (H : Hp) (Q : VK) (q : List D → Env → Prop) : Prop :=
  ∀ p ws ds ρ' F' H', Sta K (B.and p) F' σ ρ' H' → H' p = some (.lst ws) → ¬ B.G0 p → R K (Gof F' (B.and p)) H' ws ds [] → Aft b F H ρ F' H' ρ' → H p = none → q ds ρ' → Q (.ref p) H'
/-- an expression that gives a new list that nothing else holds -/
def SimN (K : Frg) (W : WX) (b : Bool) (te : TE) (t : MATy) : Prop := ∀ B F σ ρ H Q q x, Sta K B F σ ρ H → t ρ q x → KN K B b F σ ρ H Q q → KX K B W F σ H x → te σ H Q
theorem gof_and {B : Bg} {F : List Addr} {p a : Addr} : Gof F (B.and p) a ↔ (Gof F B a ∨ a = p) := by
  unfold Gof Bg.and
  constructor
  · rintro (h | h | h)
    · exact .inl (.inl h)
    · exact .inl (.inr h)
    · exact .inr h
  · rintro ((h | h) | h)
    · exact .inl h
    · exact .inr (.inl h)
    · exact .inr (.inr h)
/-- p let go again -/
theorem Sta.drop {B : Bg} {F : List Addr} {σ : L2.St} {ρ : Env} {H : Hp} {p : Addr} (s : Sta K (B.and p) F σ ρ H) : Sta K B F σ ρ H :=
  ⟨s.env.conv fun b o _ n z => n (gof_and.mpr (.inl z)), s.nd, fun a z q => s.ap a z (.inl q), fun a z => s.old a (.inl z), s.pin⟩
def mFz (t : MATy) : METy := fun ρ q x => t ρ (fun ds ρ1 => q (.lst ds) ρ1) x
def mOwn (t : MATy) : METy := fun ρ q x => t ρ (fun ds ρ1 => q (.mls ds) ρ1) x
theorem SimN.fz {t : MATy} (h : SimN K W b te t) : Sim K W false b te (mFz t) := by
  intro B F σ ρ H Q q x s hh k e
  refine h B F σ ρ H Q _ x s hh (fun p ws ds ρ' F' H' s' hp np r a _ q' => ?_) e
  refine k _ _ ρ' F' H' [] s'.drop ?_ (by simp) (fun _ => rfl) a q'
  refine .lst (fun z => ?_) hp (r.conv fun b o _ n z => n (gof_and.mpr (.inl z))) .nil
  rcases z with z | z
  · exact s'.ap p z (.inr rfl)
  · exact np z
/-- a new object is laid that is not to be touched -/
theorem Sta.lay {B : Bg} {F : List Addr} {σ : L2.St} {ρ : Env} {H : Hp} {p : Addr} {o : HO} (s : Sta K B F σ ρ H) (hp : H p = none) (mu : Mut (some o)) : Sta K (B.and p) F σ ρ (upd H p o) := by
  have s1 := s.ext (same_upd (o := o) hp)
  have np : ¬ Gof F B p := s.dom.new hp
  refine ⟨s.env.mono (C := fun _ => False) (fun a u e _ => by rw [upd_ne (ne_of_none e hp)]; exact e) (fun _ z => z.elim) (fun a u e n z => ?_) (fun _ _ z => z), s.nd, fun a z q => ?_, fun a z => ?_, s.pin⟩
  · rcases gof_and.mp z with z | z
    · exact n z
    · exact ne_of_none e hp z
  · rcases q with q | q
    · exact s.ap a z q
    · subst q; exact np (.inl z)
  · rcases z with z | z
    · exact s1.old a z
    · subst z
      rw [upd_same]
      exact mu
theorem R.lay {B : Bg} {F : List Addr} {H : Hp} {p : Addr} {o : HO} {ws : List V} {ds : List D} (r : R K (Gof F B) H ws ds []) (hp : H p = none) : R K (Gof F (B.and p)) (upd H p o) ws ds [] := by
  refine r.mono (C := fun _ => False) (fun a u e _ => by rw [upd_ne (ne_of_none e hp)]; exact e) (fun _ z => z.elim) (fun a u e n z => ?_) (fun _ _ z => z)
  rcases gof_and.mp z with z | z
  · exact n z
  · exact ne_of_none e hp z
def mNew (n : Nat) (mr : MATy) : MATy := fun ρ q x => mr ρ (fun ds ρ1 => match ds.length.ble n with
  | true => q ds ρ1
  | false => False) x
theorem simn_lst {tr : TA} {mr : MATy} (n : Nat) (ha : SimA K W false b1 tr mr) (hn : n ≤ 1000 := by decide) : SimN K W b1 (tLst tr) (mNew n mr) := by
  intro B F σ ρ H Q q x s h k e
  refine ha B F σ ρ H _ _ x s h (fun vs ds ρ1 F1 H1 S1 s1 r1 m1 z1 a1 h1 => ?_) e
  have := z1 rfl; subst this
  split at h1
  · rename_i hl
    have := Nat.le_of_ble_eq_true hl
    refine ⟨by rw [r1.length, line_eq]; omega, fun p hp => ?_⟩
    refine k p vs ds ρ1 F1 _ (s1.lay hp trivial) upd_same (fun z => s1.dom.new hp (.inr z)) (r1.lay hp) (a1.ext (same_upd hp)) ?_ h1
    cases e0 : H p with
    | none => rfl
    | some o =>
      obtain ⟨o', e1⟩ := a1.stp.dom p o e0
      rw [hp] at e1; cases e1
  · exact h1.elim
/-- x = [..], the slot's own from now on -/
def mSetM (i : Nat) (t : MATy) : MSTy := fun E ρ => t ρ (fun ds ρ1 => match Nat.blt i ρ1.length with
  | true => E.nx (ρ1.set i (some (.mls ds)))
  | false => False) E.ex
theorem ss_setM {i : Nat} {t : MATy} (h : SimN K W b te t) (hi : np i = false := by rfl) : SimS K np W (tAsg te (gName i)) (mSetM i t) := by
  intro B F σ ρ H D E hp s hh k
  refine h B F σ ρ H _ _ E.ex s hh (fun p ws ds ρ' F' H' s' hpp nB r af hn q' => ?_) (k.ex σ)
  split at q'
  · rename_i hl
    show D.nx (σ.set i (some (.ref p))) H'
    have hl' : i < ρ'.length := by simpa [Nat.blt_eq] using hl
    obtain ⟨S2, e2, S1, pm⟩ := s'.env.kill i
    have hnn : (ρ'.set i none)[i]? = some none := by simp [hl']
    have rp : R K (Gof F' (B.and p)) H' [.ref p] [.mls ds] [p] := by
      have := R.mls hpp r (.nil (K := K) (G := Gof F' (B.and p)) (H := H'))
      simpa using this
    obtain ⟨F2, e3, pm3⟩ := e2.put hnn rp
    rw [List.set_set] at e3
    have nd := pm.nodup_iff.mp s'.nd
    rw [List.nodup_append] at nd
    have sub : ∀ a ∈ S2, a ∈ F' := fun a z => by
      rw [pm.mem_iff]
      exact List.mem_append_right _ z
    have m2 : ∀ a, a ∈ F2 ↔ (a = p ∨ a ∈ S2) := fun a => by
      rw [pm3.mem_iff]; simp
    have np' : p ∉ S2 := fun z => s'.ap p (sub p z) (.inr rfl)
    refine k.nx _ _ F2 H' ⟨e3.conv fun a o _ n z => n ?_, ?_, fun a z => ?_, fun a z => s'.old a (.inl z), fun q hq => ?_⟩ ⟨fun a o e n => ?_, fun a z => ?_, af.stp.dom⟩ q'
    · rcases z with z | z
      · rcases (m2 a).mp z with z | z
        · exact gof_and.mpr (.inr z)
        · exact gof_and.mpr (.inl (.inl (sub a z)))
      · exact gof_and.mpr (.inl (.inr z))
    · rw [pm3.nodup_iff]
      show (p :: S2).Nodup
      exact List.nodup_cons.mpr ⟨np', nd.2.1⟩
    · rcases (m2 a).mp z with z | z
      · subst z; exact nB
      · exact fun q => s'.ap a (sub a z) (.inl q)
    · rw [List.getElem?_set_ne (Ne.symm (np_ne hp hi q hq))]
      exact s'.pin q hq
    · exact af.stp.keep a o e n
    · rcases (m2 a).mp z with z | z
      · subst z; exact .inr hn
      · exact af.stp.fresh a (sub a z)
  · exact q'.elim

theorem SimN.own {t : MATy} (h : SimN K W b te t) : SimW K W b te (mOwn t) := by
  intro B F σ ρ H Q q x s hh k e
  refine h B F σ ρ H Q _ x s hh (fun p ws ds ρ' F' H' s' hp np r a hn q' => ?_) e
  have c : ∀ a, (B.andS [p]).G0 a ↔ (B.and p).G0 a := fun a => by unfold Bg.andS Bg.and; simp
  refine k _ _ [p] ρ' F' H' (s'.congr c rfl) ?_ (by simp) (fun a z => by rw [List.mem_singleton] at z; subst z; exact hn) a q'
  have r1 := R.mls hp r (.nil (K := K) (G := Gof F' (B.and p)) (H := H'))
  have r2 : R K (Gof F' (B.and p)) H' [.ref p] [.mls ds] [p] := by simpa using r1
  exact r2.conv fun a o _ n z => n (by
    rcases z with z | z
    · exact .inl z
    · exact .inr ((c a).mp z))
/-- a new thing, the slot's own from now on -/
def mSetW (i : Nat) (t : METy) : MSTy := fun E ρ => t ρ (fun d ρ1 => match Nat.blt i ρ1.length with
  | true => E.nx (ρ1.set i (some d))
  | false => False) E.ex
theorem ss_setW {i : Nat} {t : METy} (h : SimW K W b te t) (hi : np i = false := by rfl) : SimS K np W (tAsg te (gName i)) (mSetW i t) := by
  intro B F σ ρ H D E hp s hh k
  refine h B F σ ρ H _ _ E.ex s hh (fun v d S ρ' F' H' s' r ns hS af q' => ?_) (k.ex σ)
  split at q'
  · rename_i hl
    show D.nx (σ.set i (some v)) H'
    have hl' : i < ρ'.length := by simpa [Nat.blt_eq] using hl
    obtain ⟨S2, e2, S1, pm⟩ := s'.env.kill i
    have hnn : (ρ'.set i none)[i]? = some none := by simp [hl']
    obtain ⟨F2, e3, pm3⟩ := e2.put hnn r
    rw [List.set_set] at e3
    have nd := pm.nodup_iff.mp s'.nd
    rw [List.nodup_append] at nd
    have sub : ∀ a ∈ S2, a ∈ F' := fun a z => by
      rw [pm.mem_iff]
      exact List.mem_append_right _ z
    have m2 : ∀ a, a ∈ F2 ↔ (a ∈ S ∨ a ∈ S2) := fun a => by
      rw [pm3.mem_iff]; simp
    refine k.nx _ _ F2 H' ⟨e3.conv fun a o _ n z => n ?_, ?_, fun a z => ?_, fun a z => s'.old a (.inl z), fun q hq => ?_⟩ ⟨fun a o e n => ?_, fun a z => ?_, af.stp.dom⟩ q'
    · rcases z with z | z
      · rcases (m2 a).mp z with z | z
        · exact gofS.mpr (.inr z)
        · exact gofS.mpr (.inl (.inl (sub a z)))
      · exact gofS.mpr (.inl (.inr z))
    · rw [pm3.nodup_iff, List.nodup_append]
      exact ⟨ns, nd.2.1, fun x hx y hy e => s'.ap y (sub y hy) (.inr (e ▸ hx))⟩
    · rcases (m2 a).mp z with z | z
      · intro q
        obtain ⟨o, e⟩ := mut_ne (s.old a q)
        rw [hS a z] at e; cases e
      · exact fun q => s'.ap a (sub a z) (.inl q)
    · rw [List.getElem?_set_ne (Ne.symm (np_ne hp hi q hq))]
      exact s'.pin q hq
    · exact af.stp.keep a o e n
    · rcases (m2 a).mp z with z | z
      · exact .inr (hS a z)
      · exact af.stp.fresh a (sub a z)
  · exact q'.elim

/-! ### own lists changed -/
/-- the list of slot i becomes another one: what the rules of append, x[k] = e .. share -/
theorem Sta.change {B : Bg} {F : List Addr} {σ : L2.St} {ρ : Env} {H : Hp} {i : Nat} {ds : List D} (s : Sta K B F σ ρ H) (h : ρ[i]? = some (some (.mls ds))) :
    ∃ p ws S1, σ[i]? = some (some (.ref p)) ∧ H p = some (.lst ws) ∧ R K (Gof F B) H ws ds S1 ∧
      ∀ ws' ds' S2, R K (Gof F B) H ws' ds' S2 → (∀ a ∈ S2, a ∈ S1) → S2.Nodup → ∃ F', Sta K B F' σ (ρ.set i (some (.mls ds'))) (upd H p (.lst ws')) ∧ Stp F H F' (upd H p (.lst ws')) := by
  obtain ⟨v, S0, F1, h1, h2, h3, pm⟩ := s.env.take h
  cases h2 with
  | «at» z _ => cases z
  | @mls p ws es _ _ S1 T q1 q2 q3 =>
    cases q3
    rw [List.append_nil] at pm
    have nd := pm.nodup_iff.mp s.nd
    rw [List.nodup_append] at nd
    obtain ⟨nd1, nd2, nd3⟩ := nd
    have pF : p ∈ F := by rw [pm.mem_iff]; simp
    refine ⟨p, ws, S1, h1, q1, q2, fun ws' ds' S2 r2 sub n2 => ?_⟩
    have pS1 : p ∉ S1 := (List.nodup_cons.mp nd1).1
    have pF1 : p ∉ F1 := fun z => nd3 p (by simp) p z rfl
    have keep : ∀ a o, H a = some o → ¬ (a = p) → upd H p (.lst ws') a = some o := fun a o e n => by rw [upd_ne n]; exact e
    have hC : ∀ a, a = p → Gof F B a ∧ Mut (H a) := fun a e => by subst e; exact ⟨.inl pF, by rw [q1]; trivial⟩
    have e4 : E K (Gof F B) (upd H p (.lst ws')) σ (ρ.set i none) F1 := h3.mono (C := fun a => a = p) keep hC (fun _ _ _ n => n) fun a z e => pF1 (e ▸ z)
    have r4 : R K (Gof F B) (upd H p (.lst ws')) ws' ds' S2 := r2.mono (C := fun a => a = p) keep hC (fun _ _ _ n => n) fun a z e => pS1 (e ▸ sub a z)
    have hl : i < ρ.length := (List.getElem?_eq_some_iff.mp h).1
    have hnn : (ρ.set i none)[i]? = some none := by simp [hl]
    have rp : R K (Gof F B) (upd H p (.lst ws')) [.ref p] [.mls ds'] (p :: S2) := by
      have := R.mls (upd_same (H := H) (a := p) (o := .lst ws')) r4 .nil
      simpa using this
    obtain ⟨F2, e5, pm5⟩ := e4.put hnn rp
    rw [List.set_set] at e5
    have es : σ.set i (some (.ref p)) = σ := by
      apply List.ext_getElem?
      intro j
      by_cases hj : j = i
      · subst hj
        have : j < σ.length := (List.getElem?_eq_some_iff.mp h1).1
        rw [h1]
        simp [this]
      · rw [List.getElem?_set_ne (Ne.symm hj)]
    rw [es] at e5
    have m5 : ∀ a, a ∈ F2 ↔ (a = p ∨ a ∈ S2 ∨ a ∈ F1) := fun a => by rw [pm5.mem_iff]; simp
    have sub2 : ∀ a ∈ F2, a ∈ F := fun a z => by
      rcases (m5 a).mp z with z | z | z
      · subst z; exact pF
      · rw [pm.mem_iff]; simp [sub a z]
      · rw [pm.mem_iff]; simp [z]
    refine ⟨F2, ⟨e5.conv fun a o _ n z => n ?_, ?_, fun a z => s.ap a (sub2 a z), fun a z => ?_, s.pin⟩, ⟨fun a o e n => ?_, fun a z => .inl (sub2 a z), fun a o e => ?_⟩⟩
    · rcases z with z | z
      · exact .inl (sub2 a z)
      · exact .inr z
    · rw [pm5.nodup_iff]
      show (p :: (S2 ++ F1)).Nodup
      refine List.nodup_cons.mpr ⟨fun z => ?_, List.nodup_append.mpr ⟨n2, nd2, fun x hx y hy e => nd3 x (by simp [sub x hx]) y hy e⟩⟩
      rcases List.mem_append.mp z with z | z
      · exact pS1 (sub p z)
      · exact pF1 z
    · by_cases e : a = p
      · subst e; rw [upd_same]; trivial
      · rw [upd_ne e]; exact s.old a z
    · rw [upd_ne (fun z => n (by rw [z]; exact pF))]
      exact e
    · by_cases e2 : a = p
      · subst e2; exact ⟨_, upd_same⟩
      · exact ⟨o, by rw [upd_ne e2]; exact e⟩
theorem R.nd1 {G : Addr → Prop} {H : Hp} {vs ds S} (_ : R K G H vs ds S) (h : S.Nodup) : S.Nodup := h
theorem Sta.nodup_sub {B : Bg} {F : List Addr} {σ : L2.St} {ρ : Env} {H : Hp} {i : Nat} {ds : List D} (s : Sta K B F σ ρ H) (h : ρ[i]? = some (some (.mls ds))) : ∀ {p ws S1}, σ[i]? = some (some (.ref p)) → H p = some (.lst ws) → R K (Gof F B) H ws ds S1 → S1.Nodup := by
  intro p ws S1 h1 h2 r
  obtain ⟨v, S0, F1, k1, k2, k3, pm⟩ := s.env.take h
  rw [h1] at k1; cases k1
  have nd := pm.nodup_iff.mp s.nd
  rw [List.nodup_append] at nd
  cases k2 with
  | «at» z _ => cases z
  | @mls p ws' es _ _ S1' T q1 q2 q3 =>
    rw [h2] at q1; cases q1
    cases q3
    rw [List.append_nil] at nd
    have : ∀ {vs : List V} {ds : List D} {S S' : List Addr}, R K (Gof F B) H vs ds S → R K (Gof F B) H vs ds S' → S = S' := by
      intro vs ds S S' r
      induction r generalizing S' with
      | nil => intro q; cases q; rfl
      | «at» z _ ih =>
        intro q
        cases q with
        | «at» _ q => exact ih q
        | tup _ _ _ => cases z
        | lst _ _ _ _ => cases z
        | rol _ _ _ => cases z
        | mls _ _ _ => cases z
        | fdc _ _ _ _ _ => cases z
        | mdc _ _ _ _ => cases z
        | exc _ _ _ _ _ _ => cases z
        | ins _ _ _ _ _ => cases z
      | tup _ _ _ _ ih =>
        intro q
        cases q with
        | «at» z q => cases z
        | tup _ _ q => exact ih q
      | lst _ _ _ _ _ ih =>
        intro q
        cases q with
        | «at» z q => cases z
        | lst _ _ _ q => exact ih q
      | rol _ _ _ _ ih =>
        intro q
        cases q with
        | «at» z q => cases z
        | rol _ _ q => exact ih q
      | mls h _ _ ih1 ih2 =>
        intro q
        cases q with
        | «at» z q => cases z
        | mls h' q1 q2 =>
          rw [h] at h'; cases h'
          rw [ih1 q1, ih2 q2]
      | fdc _ _ _ _ _ _ ih =>
        intro q
        cases q with
        | «at» z q => cases z
        | fdc _ _ _ _ q => exact ih q
      | mdc h hk _ _ ih1 ih2 =>
        intro q
        cases q with
        | «at» z q => cases z
        | mdc h' hk' q1 q2 =>
          rw [h] at h'; cases h'
          rw [ih1 q1, ih2 q2]
      | exc _ hd h hk _ _ ih1 ih =>
        intro q
        obtain ⟨T1, T2, e, r1, r2⟩ := q.cut _ _ _ _ rfl rfl
        have := r1.fz0 rfl
        subst this
        rw [e, List.nil_append]
        exact ih r2
      | ins h g hk _ _ ih1 ih2 =>
        intro q
        cases q with
        | «at» z q => cases z
        | ins h' g' hk' q1 q2 =>
          rw [h] at h'; cases h'
          rw [ih1 q1, ih2 q2]
    rw [this r q2]
    exact (List.nodup_cons.mp nd.1).2
theorem Sta.own {B : Bg} {F : List Addr} {σ : L2.St} {ρ : Env} {H : Hp} {i : Nat} {ds : List D} (s : Sta K B F σ ρ H) (h : ρ[i]? = some (some (.mls ds))) : ∃ p ws, σ[i]? = some (some (.ref p)) ∧ H p = some (.lst ws) := by
  obtain ⟨v, S1, h1, h2, _⟩ := s.env.get h
  obtain ⟨a, ws, _, rfl, h3, _⟩ := h2.mlsE
  exact ⟨a, ws, h1, h3⟩
/-- x.append(e) -/
def mAppend (i : Nat) (ma : METy) : MSTy := fun E ρ => match ρ[i]? with
  | some (some (.mls _)) => ma ρ (fun d ρ1 => match ρ1[i]? with
    | some (some (.mls ds)) => ds.length < 16777216 ∧ E.nx (ρ1.set i (some (.mls (ds ++ [d]))))
    | _ => False) E.ex
  | _ => False
theorem ss_append {i : Nat} (ha : Sim K W false b1 ta ma) : SimS K np W (tDrop (tBM K "list" rAppend (tVar i) (tCons ta tNil))) (mAppend i ma) := by
  intro B F σ ρ H D E hp s h k
  unfold mAppend at h
  split at h
  · rename_i ds0 e0
    obtain ⟨p, ws0, h1, h2⟩ := s.own e0
    refine ⟨.ref p, h1, .inl ⟨rfl, ws0, SqL.of h2⟩, ?_⟩
    refine ha B F σ ρ H _ _ E.ex s h (fun v1 d1 ρ1 F1 H1 S1 s1 r1 m1 z1 a1 p1 => ?_) (k.ex σ)
    have := z1 rfl; subst this
    split at p1
    · rename_i ds e1
      obtain ⟨p', ws, S2, g1, g2, g3, ch⟩ := s1.change e1
      rw [h1] at g1; cases g1
      have nd := s1.nodup_sub e1 h1 g2 g3
      obtain ⟨F2, s2, st2⟩ := ch (ws ++ [v1]) (ds ++ [d1]) S2 (by have := g3.app r1; rwa [List.append_nil] at this) (fun a z => z) nd
      exact ⟨p, ws, v1, rfl, rfl, g2, by rw [g3.length, line_eq]; exact p1.1, k.nx σ _ F2 _ s2 (a1.stp.trans st2) p1.2⟩
    · exact p1.elim
  · exact h.elim
theorem R.set0 {G : Addr → Prop} {H : Hp} : ∀ {vs ds S}, R K G H vs ds S → ∀ (j : Nat) {v : V} {d : D}, R K G H [v] [d] [] → ∃ S', R K G H (vs.set j v) (ds.set j d) S' ∧ (∀ a ∈ S', a ∈ S) ∧ (S.Nodup → S'.Nodup) := by
  intro vs
  induction vs with
  | nil => intro ds S r j v d _; cases r; exact ⟨[], .nil, fun _ z => z, fun z => z⟩
  | cons w ws ih =>
    intro ds S r j v d q
    cases ds with
    | nil => cases r
    | cons e es =>
      obtain ⟨S1, S2, rfl, r1, r2⟩ := r.uncons
      cases j with
      | zero => exact ⟨S2, q.cons r2, fun a z => List.mem_append_right _ z, fun n => (List.nodup_append.mp n).2.1⟩
      | succ j =>
        obtain ⟨S', h1, h2, h3⟩ := ih r2 j q
        refine ⟨S1 ++ S', r1.cons h1, fun a z => ?_, fun n => ?_⟩
        · rcases List.mem_append.mp z with z | z
          · exact List.mem_append_left _ z
          · exact List.mem_append_right _ (h2 a z)
        · obtain ⟨n1, n2, n3⟩ := List.nodup_append.mp n
          exact List.nodup_append.mpr ⟨n1, h3 n2, fun x hx y hy e => n3 x hx y (h2 y hy) e⟩
/-- x[k] = e -/
def mSetIx (i : Nat) (ma mk : METy) : MSTy := fun E ρ => ma ρ (fun d ρ1 => match ρ1[i]? with
  | some (some (.mls _)) => mk ρ1 (fun j ρ2 => match ρ2[i]? with
    | some (some (.mls ds)) => (match j with
      | .int jj => ∃ n, ixN ds.length jj = some n ∧ E.nx (ρ2.set i (some (.mls (ds.set n d))))
      | _ => False)
    | _ => False) E.ex
  | _ => False) E.ex
theorem ss_setIx {i : Nat} {tk : TE} {mk : METy} (ha : Sim K W false b1 ta ma) (hk : Sim K W false b2 tk mk) : SimS K np W (tAsg ta (gSub (tVar i) tk rSetL)) (mSetIx i ma mk) := by
  intro B F σ ρ H D E hp s h k
  refine ha B F σ ρ H _ _ E.ex s h (fun v1 d1 ρ1 F1 H1 S1 s1 r1 m1 z1 a1 p1 => ?_) (k.ex σ)
  have := z1 rfl; subst this
  split at p1
  · rename_i ds0 e0
    obtain ⟨p, ws0, h1, h2⟩ := s1.own e0
    refine ⟨.ref p, h1, ?_⟩
    refine hk B F1 σ ρ1 H1 _ _ E.ex s1 p1 (fun v2 d2 ρ2 F2 H2 S2 s2 r2 m2 z2 a2 p2 => ?_) ((k.ex σ).aft a1.stp)
    have r1' := r1.aftσ s1 a2.stp
    split at p2
    · rename_i ds e1
      split at p2
      · rename_i jj
        obtain ⟨n, hn, p3⟩ := p2
        have := r2.int; subst this
        obtain ⟨p', ws, S3, g1, g2, g3, ch⟩ := s2.change e1
        rw [h1] at g1; cases g1
        have nd := s2.nodup_sub e1 h1 g2 g3
        obtain ⟨S4, r4, sub4, nd4⟩ := g3.set0 n r1'
        obtain ⟨F3, s3, st3⟩ := ch _ _ S4 r4 sub4 (nd4 nd)
        exact ⟨p, ws, jj, n, rfl, rfl, g2, by rw [g3.length]; exact hn, k.nx σ _ F3 _ s3 ((a1.stp.trans a2.stp).trans st3) p3⟩
      · exact p2.elim
    · exact p2.elim
  · exact p1.elim
/-! ### comprehensions -/
def wipeE : Env → List Nat → Env
  | ρ, [] => ρ
  | ρ, i :: is => (wipeE ρ is).set i none
/-- behind a comprehension: its own names are what they were, if that was frozen -/
def back (ρ ρ0 : Env) : List Nat → Env
  | [] => ρ
  | i :: is => (back ρ ρ0 is).set i (match ρ0[i]? with
    | some (some d) => (match d.fz with
      | true => some d
      | false => none)
    | _ => none)
def mtYes : MTTy := fun ρ q _ => q true ρ
theorem simt_yes : SimT K W true tYes mtYes := fun B F σ ρ H Q q x s h k _ => k true ρ F H s .refl h
def mLc (mi : MITy) (mg : MGTy) (mt : MTTy) (me : METy) (vs : List Nat) : MATy := fun ρ q x => mi ρ (fun ds ρ1 => ∃ I : Nat → List D → Env → Prop, I 0 [] ρ1 ∧
  (∀ (k : Nat) d acc ρ, ds[k]? = some d → I k acc ρ → mg d (wipeE ρ vs) (fun ρ2 => mt ρ2 (fun c ρ3 => (c = true → me ρ3 (fun e ρ4 => I (k + 1) (acc ++ [e]) (back ρ4 ρ vs)) (fun _ _ => False)) ∧ (c = false → I (k + 1) acc (back ρ3 ρ vs))) (fun _ _ => False))) ∧
  ds.length < 16777216 ∧ ∀ acc ρ', I ds.length acc ρ' → q acc ρ') x

theorem wipe_at : ∀ (vs : List Nat) (σ : L2.St) (j : Nat), j ∉ vs → (wipe σ vs)[j]? = σ[j]?
  | [], _, _, _ => rfl
  | v :: vs, σ, j, h => by
    unfold wipe
    rw [List.getElem?_set_ne (fun z => h (by rw [z]; exact List.mem_cons_self))]
    exact wipe_at vs σ j fun z => h (List.mem_cons_of_mem _ z)
theorem wipe_in : ∀ (vs : List Nat) (σ : L2.St) (j : Nat), j ∈ vs → (wipe σ vs)[j]? = if j < σ.length then some none else none
  | [], _, _, h => by simp at h
  | v :: vs, σ, j, h => by
    unfold wipe
    rw [List.getElem?_set, wipe_length]
    by_cases e : v = j
    · subst e
      rw [if_pos rfl]
    · rw [if_neg e]
      rcases List.mem_cons.mp h with z | z
      · exact absurd z.symm e
      · exact wipe_in vs σ j z
theorem wipe_but {vs : List Nat} {σ σ' : L2.St} (h : But vs (wipe σ vs) σ') : wipe σ' vs = wipe σ vs := by
  apply List.ext_getElem?
  intro j
  have hl : σ'.length = σ.length := by rw [h.len, wipe_length]
  by_cases e : j ∈ vs
  · rw [wipe_in vs σ' j e, wipe_in vs σ j e, hl]
  · rw [wipe_at vs σ' j e, wipe_at vs σ j e, h.sl j e, wipe_at vs σ j e]
theorem E.wipe {G : Addr → Prop} {H : Hp} : ∀ (vs : List Nat) {σ ρ F}, E K G H σ ρ F → ∃ F', E K G H (L2.wipe σ vs) (wipeE ρ vs) F' ∧ ∃ T, F.Perm (T ++ F')
  | [], _, _, F, e => ⟨F, e, [], List.Perm.refl _⟩
  | v :: vs, σ, ρ, F, e => by
    obtain ⟨F1, e1, T, pm⟩ := E.wipe vs e
    obtain ⟨F2, e2, T2, pm2⟩ := e1.kill v
    refine ⟨F2, ?_, T ++ T2, ?_⟩
    · unfold L2.wipe wipeE
      by_cases hl : v < (wipeE ρ vs).length
      · exact e2.setV (by simp [hl])
      · have hl2 : (L2.wipe σ vs).length ≤ v := by rw [e1.length]; omega
        rw [List.set_eq_of_length_le hl2]
        exact e2
    · refine pm.trans ?_
      rw [List.append_assoc]
      exact List.Perm.append_left T pm2
/-- the outer slots come back -/
def outer (σ' σ : L2.St) : List Nat → L2.St
  | [] => σ'
  | i :: is => (outer σ' σ is).set i (σ.getD i none)
theorem outer_len (σ' σ : L2.St) : ∀ vs, (outer σ' σ vs).length = σ'.length
  | [] => rfl
  | i :: is => by unfold outer; rw [List.length_set, outer_len σ' σ is]
theorem outer_at (σ' σ : L2.St) (hl : σ'.length = σ.length) : ∀ (vs : List Nat) (j : Nat), (outer σ' σ vs)[j]? = if j ∈ vs then σ[j]? else σ'[j]?
  | [], j => by simp [outer]
  | i :: is, j => by
    unfold outer
    rw [List.getElem?_set, outer_len, outer_at σ' σ hl is j]
    by_cases e : i = j
    · subst e
      rw [if_pos rfl, if_pos (List.mem_cons_self)]
      by_cases h : i < σ.length
      · rw [if_pos (by omega), List.getD_eq_getElem?_getD, List.getElem?_eq_getElem h] <;> rfl
      · rw [if_neg (by omega), List.getElem?_eq_none (by omega)]
    · rw [if_neg e]
      by_cases h : j ∈ is
      · rw [if_pos h, if_pos (List.mem_cons_of_mem _ h)]
      · rw [if_neg h, if_neg (fun z => by rcases List.mem_cons.mp z with z | z; exact e z.symm; exact h z)]
theorem outer_eq {σ' σ : L2.St} {vs : List Nat} (h : But vs (L2.wipe σ vs) σ') : outer σ' σ vs = σ := by
  apply List.ext_getElem?
  intro j
  rw [outer_at σ' σ (by rw [h.len, wipe_length])]
  by_cases e : j ∈ vs
  · rw [if_pos e]
  · rw [if_neg e, h.sl j e, wipe_at vs σ j e]
theorem back_len (ρ ρ0 : Env) : ∀ vs, (back ρ ρ0 vs).length = ρ.length
  | [] => rfl
  | i :: is => by unfold back; rw [List.length_set, back_len ρ ρ0 is]
theorem E.back {G : Addr → Prop} {H : Hp} {σ' σ : L2.St} {ρ ρ0 : Env} (hl : σ'.length = σ.length) (hf : ∀ (i : Nat) d, ρ0[i]? = some (some d) → d.fz = true → ∃ v, σ[i]? = some (some v) ∧ R K G H [v] [d] []) :
    ∀ (vs : List Nat) {F}, E K G H σ' ρ F → ∃ F', E K G H (outer σ' σ vs) (Mi.back ρ ρ0 vs) F' ∧ ∃ T, F.Perm (T ++ F')
  | [], F, e => ⟨F, e, [], List.Perm.refl _⟩
  | i :: is, F, e => by
    obtain ⟨F1, e1, T, pm⟩ := E.back hl hf is e
    obtain ⟨F2, e2, T2, pm2⟩ := e1.kill i
    have pmT : F.Perm ((T ++ T2) ++ F2) := by
      refine pm.trans ?_
      rw [List.append_assoc]
      exact List.Perm.append_left T pm2
    by_cases hi : i < (Mi.back ρ ρ0 is).length
    · have hn : ((Mi.back ρ ρ0 is).set i none)[i]? = some none := by simp [hi]
      have dead : ∃ F', E K G H (outer σ' σ (i :: is)) ((Mi.back ρ ρ0 is).set i none) F' ∧ ∃ T, F.Perm (T ++ F') := ⟨F2, by unfold outer; exact e2.setV hn, _, pmT⟩
      unfold Mi.back
      split
      · rename_i d ed
        split
        · rename_i fz
          obtain ⟨v, hv, rv⟩ := hf i d ed fz
          obtain ⟨F3, e3, pm3⟩ := e2.put hn rv
          rw [List.set_set] at e3
          refine ⟨F3, ?_, T ++ T2, ?_⟩
          · unfold outer
            rw [List.getD_eq_getElem?_getD, hv]
            exact e3
          · rw [List.nil_append] at pm3
            exact pmT.trans (List.Perm.append_left _ pm3.symm)
        · exact dead
      · exact dead
    · have hi2 : (outer σ' σ is).length ≤ i := by rw [e1.length]; omega
      unfold outer Mi.back
      rw [List.set_eq_of_length_le hi2, List.set_eq_of_length_le (by omega)]
      exact ⟨F1, e1, T, pm⟩
def WF : WX := fun _ _ _ _ => False
theorem simn_lc {wi : TI} {mi : MITy} {g : TG} {mg : MGTy} {vs : List Nat} (hi : SimI K W b1 wi mi) (hg : SimG K (fun _ => false) vs g mg) (ht : SimT K WF b2 tt mt) (he : Sim K WF false b3 te t) : SimN K W false (tLc wi g tt te vs) (mLc mi mg mt t vs) := by
  intro B F σ ρ H Q q x s h k e
  refine hi B F σ ρ H _ _ x s h (fun J ds ρ1 F1 H1 s1 wk a1 p1 => ?_) e
  obtain ⟨I, i0, turn, hlen, fin⟩ := p1
  obtain ⟨Gd, Y, w, cy⟩ := wk
  intro D hD
  have hDH : H D = none := by
    cases e0 : H D with
    | none => rfl
    | some o =>
      obtain ⟨o', e1⟩ := a1.stp.dom D o e0
      rw [hD] at e1; cases e1
  have nBD : ¬ B.G0 D := fun z => s1.dom.new hD (.inr z)
  refine L2.lc_it w (fun i H' => ∃ acc ws ρ' F', Sta K (B.and D) F' σ ρ' H' ∧ H' D = some (.lst ws) ∧ R K (Gof F' (B.and D)) H' ws acc [] ∧ acc.length ≤ i ∧ i ≤ ds.length ∧ Stp F1 H1 F' H' ∧ I i acc ρ')
    ⟨[], [], ρ1, F1, s1.lay hD trivial, upd_same, .nil, Nat.le_refl _, Nat.zero_le _, .same (same_upd hD), i0⟩ ?_ ?_ ?_
  · rintro i H' _ ⟨acc, ws, ρ', F', s', _, _, _, _, x', _⟩
    exact (cy F' H' (Gof F' B) x' (gof_stp x') s'.drop.dom).1
  · rintro i v H' H'' hil ⟨acc, ws, ρ', F', s', hDw, ra, hal, _, x', ii⟩ y
    have hGG : ∀ a o, H1 a = some o → ¬ Gof F1 B a → ¬ Gof F' (B.and D) a := fun a o e1 n z => by
      rcases gof_and.mp z with z | z
      · exact gof_stp x' a o e1 n z
      · exact ne_of_none e1 hD z
    obtain ⟨sm, d, hd, rd⟩ := (cy F' H' (Gof F' (B.and D)) x' hGG s'.dom).2 i v H'' hil y
    have s2 := s'.ext sm
    have ra2 := ra.same sm
    have hDw2 := sm D _ hDw
    -- the inner state
    obtain ⟨Fw, ew, T, pmw⟩ := E.wipe vs s2.env
    have ndw := pmw.nodup_iff.mp s2.nd
    rw [List.nodup_append] at ndw
    have subw : ∀ a ∈ Fw, a ∈ F' := fun a z => by rw [pmw.mem_iff]; exact List.mem_append_right _ z
    have cvw : ∀ a o, H'' a = some o → ¬ Gof F' (B.and D) a → ¬ Gof Fw ⟨(B.and D).G0, []⟩ a := fun a o _ n z => by
      rcases z with z | z
      · exact n (.inl (subw a z))
      · exact n (.inr z)
    have sw : Sta K ⟨(B.and D).G0, []⟩ Fw (L2.wipe σ vs) (wipeE ρ' vs) H'' := ⟨ew.conv cvw, ndw.2.1, fun a z => s2.ap a (subw a z), s2.old, fun _ z => absurd z (by simp)⟩
    have tn := turn i d acc ρ' hd ii
    have rdw := rd.conv cvw
    refine hg ⟨(B.and D).G0, []⟩ Fw _ _ H'' v d _ _ (fun _ z => absurd z (by simp)) sw rdw tn fun σ2 ρ2 F2 s3 st2 bu q2 => ?_
    refine ⟨wipe_but bu, ?_⟩
    -- the end of a turn
    have ending : ∀ (ρ4 : Env) (F4 : List Addr) (H4 : Hp) (acc' : List Mi.D), Sta K ⟨(B.and D).G0, []⟩ F4 σ2 ρ4 H4 → Stp F2 H'' F4 H4 → acc'.length ≤ i + 1 → I (i + 1) acc' (Mi.back ρ4 ρ' vs) →
        ∃ ws4 F5, H4 D = some (.lst ws4) ∧ R K (Gof F4 ⟨(B.and D).G0, []⟩) H4 ws4 acc [] ∧ Sta K (B.and D) F5 σ (Mi.back ρ4 ρ' vs) H4 ∧ (∀ a ∈ F5, a ∈ F4) ∧ Stp F1 H1 F5 H4 := fun ρ4 F4 H4 acc' s4 st4 hl4 i4 => by
      have stw : Stp F' H'' Fw H'' := ⟨fun a o e1 _ => e1, fun a z => .inl (subw a z), fun a o e1 => ⟨o, e1⟩⟩
      have stA : Stp F' H'' F4 H4 := stw.trans (st2.trans st4)
      have hD4 : H4 D = some (.lst ws) := by
        refine stA.keep D _ hDw2 fun z => ?_
        exact s2.ap D z (.inr rfl)
      have cv4 : ∀ a o, H'' a = some o → ¬ Gof F' (B.and D) a → ¬ Gof F4 ⟨(B.and D).G0, []⟩ a := fun a o e1 n z => by
        rcases z with z | z
        · rcases stA.fresh a z with q | q
          · exact n (.inl q)
          · rw [e1] at q; cases q
        · exact n (.inr z)
      have carry : ∀ {vs' : List V} {ds' : List Mi.D}, R K (Gof F' (B.and D)) H'' vs' ds' [] → R K (Gof F4 ⟨(B.and D).G0, []⟩) H4 vs' ds' [] := fun {vs' ds'} r =>
        r.mono (C := fun a => a ∈ F') (fun a o e1 n => stA.keep a o e1 n) (fun a z => ⟨.inl z, s2.memF z⟩) cv4 (fun _ z => absurd z (by simp))
      have hl2 : σ2.length = σ.length := by rw [bu.len, wipe_length]
      obtain ⟨F5, e5, T5, pm5⟩ := E.back (K := K) (σ := σ) (ρ0 := ρ') hl2 (fun j d0 ed fz => by
        obtain ⟨v0, S0, g1, g2, _⟩ := s2.env.get ed
        have := g2.fz0 fz; subst this
        exact ⟨v0, g1, carry g2⟩) vs s4.env
      rw [outer_eq bu] at e5
      have nd5 := pm5.nodup_iff.mp s4.nd
      rw [List.nodup_append] at nd5
      have sub5 : ∀ a ∈ F5, a ∈ F4 := fun a z => by rw [pm5.mem_iff]; exact List.mem_append_right _ z
      refine ⟨ws, F5, hD4, carry ra2, ⟨e5.conv fun a o _ n z => n ?_, nd5.2.1, fun a z => s4.ap a (sub5 a z), s4.old, s2.pin⟩, sub5, ?_⟩
      · rcases z with z | z
        · exact .inl (sub5 a z)
        · exact .inr z
      · have := (x'.trans (.same sm)).trans stA
        exact ⟨this.keep, fun a z => this.fresh a (sub5 a z), this.dom⟩
    refine ht ⟨(B.and D).G0, []⟩ F2 σ2 ρ2 H'' _ _ _ s3 q2 (fun c ρ3 F3 H3 s4 a3 p3 => ?_) (fun _ _ _ _ _ _ _ _ _ z => z.elim)
    cases c with
    | true =>
      rw [if_pos rfl]
      refine he ⟨(B.and D).G0, []⟩ F3 σ2 ρ3 H3 _ _ _ s4 (p3.1 rfl) (fun v4 d4 ρ4 F4 H4 S4 s5 r5 m5 z5 a5 q5 => ?_) (fun _ _ _ _ _ _ _ _ _ z => z.elim)
      have := z5 rfl; subst this
      obtain ⟨ws4, F5, h1, h2, h3, h4, h5⟩ := ending ρ4 F4 H4 (acc ++ [d4]) s5 (a3.stp.trans a5.stp) (by rw [List.length_append]; simpa using hal) q5
      have cv5 : ∀ a o, H4 a = some o → ¬ Gof F4 ⟨(B.and D).G0, []⟩ a → ¬ Gof F5 (B.and D) a := fun a o _ n z => by
        rcases z with z | z
        · exact n (.inl (h4 a z))
        · exact n (.inr z)
      have r6 : R K (Gof F5 (B.and D)) H4 (ws4 ++ [v4]) (acc ++ [d4]) [] := by
        have := (h2.app r5).conv cv5
        simpa using this
      have nDF : D ∉ F5 := fun z => h3.ap D z (.inr rfl)
      have keep : ∀ a o, H4 a = some o → ¬ (a = D) → upd H4 D (.lst (ws4 ++ [v4])) a = some o := fun a o e1 n => by rw [upd_ne n]; exact e1
      have hC : ∀ a, a = D → Gof F5 (B.and D) a ∧ Mut (H4 a) := fun a e1 => by subst e1; exact ⟨.inr (.inr rfl), by rw [h1]; trivial⟩
      refine ⟨ws4, h1, by rw [h2.length, line_eq]; omega, acc ++ [d4], ws4 ++ [v4], _, F5, ⟨h3.env.mono (C := fun a => a = D) keep hC (fun _ _ _ n => n) (fun a z e1 => nDF (e1 ▸ z)), h3.nd, h3.ap, fun a z => ?_, h3.pin⟩, upd_same,
        r6.mono (C := fun a => a = D) keep hC (fun _ _ _ n => n) (fun _ z => absurd z (by simp)), by rw [List.length_append]; simpa using hal, hil, ⟨fun a o e1 n => ?_, h5.fresh, fun a o e1 => ?_⟩, q5⟩
      · by_cases e1 : a = D
        · subst e1; rw [upd_same]; trivial
        · rw [upd_ne e1]; exact h3.old a z
      · rw [upd_ne (ne_of_none e1 hD)]
        exact h5.keep a o e1 n
      · rw [upd_ne (ne_of_none e1 hD)]
        exact h5.dom a o e1
    | false =>
      rw [if_neg (by decide)]
      obtain ⟨ws4, F5, h1, h2, h3, h4, h5⟩ := ending ρ3 F3 H3 acc s4 a3.stp (by omega) (p3.2 rfl)
      refine ⟨acc, ws4, _, F5, h3, h1, h2.conv fun a o _ n z => n ?_, by omega, hil, h5, p3.2 rfl⟩
      rcases z with z | z
      · exact .inl (h4 a z)
      · exact .inr z
  · rintro H' ⟨acc, ws, ρ', F', s', hDw, ra, hal, _, x', ii⟩
    exact k D ws acc ρ' F' H' s' hDw nBD ra ⟨a1.stp.trans x', fun z => nomatch z⟩ hDH (fin acc ρ' ii)
end
end Mi
end

-- text MG
section
set_option Elab.async false
set_option linter.all false
set_option maxRecDepth 100000
set_option maxHeartbeats 4000000
/-! MG: defs of the text, the law's end. -/
namespace Mi
open PySem PySem.Spec PyProof.Rows L2
/-- the def x of the text stands -/
def Tx (K : Frg) (mg : Str → Option Value) (x : Str) (st : Stmt) (ps : List Str) : Prop :=
  ∃ f fd, mg x = some (.ref f) ∧ Fun K x x st f fd ∧ ∀ us : List Value, us.length = ps.length → bindArgs fd ⟨us, []⟩ = pure (ps.zip us)
/-- and it keeps its promise -/
def Ok (P : Program) (w : World) (K : Frg) (mg : Str → Option Value) (base : Heap) (x : Str) (st : Stmt) (ps : List Str) (ms : List Bool) (k : Nat) (sp : FS) : Prop :=
  ∃ f fd, mg x = some (.ref f) ∧ PySem.W.keepIn K (.ref f) = true ∧ Binds K fd ps [] ∧ (∀ us : List Value, us.length = ps.length → bindArgs fd ⟨us, []⟩ = pure (ps.zip us)) ∧ FnOk P w K mg base (L2N.CX P w) k f fd ps (spOf K ms sp)
theorem ok_of {P : Program} {w : World} {K : Frg} {mg : Str → Option Value} {base : Heap} {x : Str} {st : Stmt} {ps : List Str} {ms : List Bool} {k : Nat} {sp : FS} (t : Tx K mg x st ps)
    (h : ∀ f fd, Fun K x x st f fd → FnOk P w K mg base (L2N.CX P w) k f fd ps (spOf K ms sp)) : Ok P w K mg base x st ps ms k sp := by
  obtain ⟨f, fd, g, F, b⟩ := t
  exact ⟨f, fd, g, F.kp, .all b, b, h f fd F⟩
theorem Ok.mono {P : Program} {w : World} {K : Frg} {mg : Str → Option Value} {base : Heap} {x : Str} {st : Stmt} {ps : List Str} {ms : List Bool} {k k' : Nat} {sp : FS} (h : Ok P w K mg base x st ps ms k sp) (hk : k ≤ k') : Ok P w K mg base x st ps ms k' sp := by
  obtain ⟨f, fd, g, kp, b, b2, F⟩ := h
  exact ⟨f, fd, g, kp, b, b2, F.mono hk⟩
theorem tx_mk {K : Frg} {mg : Str → Option Value} {h : Heap} (X : K.In h) (G : h.Ns mainGlobals mg) {x : Str} {st : Stmt} {ps : List Str} {f : Addr} {od an : Option Addr} {sl : Array (Option Value)} {oc kV dc pm cd ct : Value}
    (hb : ∀ us : List Value, us.length = ps.length → bindArgs (PySem.W.fnOf x x (defArgs st) (defBody st) (defScope st) .none kV dc pm an cd ct) ⟨us, []⟩ = pure (ps.zip us))
    (a : PySem.W.nsIn K mainGlobals x = some (some (.ref f))) (l : K.lookup f = some ⟨oc, od, .func (PySem.W.fnOf x x (defArgs st) (defBody st) (defScope st) .none kV dc pm an cd ct), sl⟩) (c : PySem.W.codeIn K cd x = true) (k : PySem.W.keepIn K (.ref f) = true) :
    Tx K mg x st ps := ⟨f, _, PySem.W.mg_of X G a, fun_mk l c k, hb⟩
/-- the law's promise: True, whatever the script -/
def spLaw : FS := fun ds q _ => ∃ ns : List Int, ds = [.rol (ns.map D.int)] ∧ ns.length ≤ 63 ∧ q (.bl true) ds
theorem R.ofInts {K : Frg} {G : Addr → Prop} {H : Hp} : ∀ ns : List Int, R K G H (ns.map V.int) (ns.map D.int) []
  | [] => .nil
  | _ :: ns => .at .int (R.ofInts ns)
theorem law_sp {K : Frg} {H : Hp} {a : Addr} {ns : List Int} (hl : ns.length ≤ 63) (ho : Only H) (hs : SqL K H a (ns.map V.int)) : spOf K [false] spLaw [.ref a] H (fun v _ => v = .bl true) fun _ _ _ => False := by
  refine ⟨fun _ => False, [], [.rol (ns.map D.int)], fun d _ => d = .bl true, fun _ _ => False, ⟨.val (.rol ?_ (R.ofInts ns) .nil) .nil, by simp, fun _ z => absurd z (by simp), fun _ z => z.elim⟩, ⟨ns, rfl, hl, rfl⟩, fun d ds' v S H' F' _ r _ _ _ e => ?_, fun _ _ _ _ _ _ _ _ _ z => z.elim⟩
  · rcases hs with (hs | ⟨o, hs⟩) | hs
    · rcases ho a with e | ⟨o, xs, e⟩
      · rw [hs] at e; cases e
      · rw [hs] at e; cases e
    · exact .inr ⟨o, hs⟩
    · exact .inl fun _ => .inr hs
  · subst e
    exact r.bl
theorem law_F {l : PySem.W.OpenLaw} {w : World} {K : Frg} {mg : Str → Option Value} {fa : Addr} {x : Str} {st : Stmt} {k : Nat} (hmg : mg x = some (.ref fa)) (t : Tx K mg x st ["script"])
    (h : ∀ base f fd, Fun K x x st f fd → FnOk l.prog w K mg base (L2N.CX l.prog w) k f fd ["script"] (spOf K [false] spLaw)) :
    ∃ fd : FuncData, (∀ (s : Shared) (u : Value), BindsTo s fd ⟨[u], []⟩ [("script", u)]) ∧ ∀ base : Heap, K.In base → base.Ns mainGlobals mg → FnOk l.prog w K mg base (L2N.CX l.prog w) k fa fd ["script"] (spOf K [false] spLaw) := by
  obtain ⟨f, fd, g, F, b⟩ := t
  rw [g] at hmg; cases hmg
  exact ⟨fd, fun s u => .of_eq (b [u] rfl), fun base _ _ => h base _ fd F⟩
end Mi
namespace Mi
open PySem PySem.Spec PyProof.Rows L2
theorem cx_no {P : Program} {w : World} {H : Hp} {s : Shared} {e : Value} {s' : Shared} (h : L2N.CX P w [] H s (fun _ _ _ => False) e s') : False := by
  obtain ⟨_, _, _, _, _, _, _, _, _, _, _, _, z⟩ := h
  exact z.elim
/-- a mirror keeps its promise: ms tells the parameters that may change, n the further names -/
def WpOk (ms : List Bool) (n : Nat) (sp : FS) (m : MSTy) : Prop := ∀ ds q x, ds.length = ms.length → sp ds q x → m (endsOf ms ds q x) (ds.map some ++ List.replicate n none)
end Mi
namespace Mi
open PySem PySem.Spec PyProof.Rows L2
theorem bd_mk {X : Cx} {body : List Stmt} {K : Frg} {np : Nat → Bool} {W : WX} {ts : TS} {t : MSTy} {C : MSTy → Prop} (h1 : PSs X body ts) (h2 : SimS K np W ts t) (h3 : C t) : ∃ ts t, PSs X body ts ∧ SimS K np W ts t ∧ C t := ⟨ts, t, h1, h2, h3⟩
end Mi
end

-- text MH
section
set_option Elab.async false
set_option linter.all false
set_option maxRecDepth 100000
set_option maxHeartbeats 4000000
/-! MH: further operators: -x, chains, in, [::-1], join. -/
namespace Mi
open PySem PySem.Spec PyProof.Rows L2
section
variable {K : Frg} {np : Nat → Bool} {W : WX} {vw vw1 vw2 vw3 b b1 b2 b3 : Bool} {te ta tb tc : TE} {t ma mb mc : METy} {ts tu : TS} {s u : MSTy} {tt : TT} {mt : MTTy} {tr : TA} {mr : MATy}
def fNeg : D → (D → Prop) → Prop := fun x q => match x with
  | .int i => q (.int (-i))
  | _ => False
theorem us_neg : USim K (rU fun i => .int (-i)) fNeg := by
  intro G H v1 d1 S1 Q q dm r1 h k
  unfold fNeg at h
  split at h
  · have := r1.int; subst this
    exact ⟨_, rfl, k _ _ H (Same.refl _) .int1 h⟩
  · exact h.elim
def fIpAdd : F2 := fI0 fun i j => .int (i + j)
theorem rs_ipadd : RSim K (ipI fun i j => i + j) fIpAdd := rs_I0 (g := fun i j => .int (i + j)) fun _ _ => .int
theorem rs_ipsub : RSim K (ipI fun i j => i - j) fSub := rs_I0 (g := fun i j => .int (i - j)) fun _ _ => .int
theorem sim_chain {r r' : R2} {f g : F2} (hr : RSim K r f) (hr' : RSim K r' g) (ha : Sim K W false b1 ta ma) (hb : Sim K W false b2 tb mb) (hc : Sim K W false b3 tc mc) : Sim K W false (b1 && (b2 && b3)) (tChain r r' ta tb tc) (mChain f g ma mb mc) := by
  intro B F σ ρ H Q q x s h k e
  refine ha B F σ ρ H _ _ x s h (fun v1 d1 ρ1 F1 H1 S1 s1 r1 m1 z1 a1 h1 => ?_) e
  refine hb B F1 σ ρ1 H1 _ _ x s1 h1 (fun v2 d2 ρ2 F2 H2 S2 s2 r2 m2 z2 a2 h2 => ?_) (e.aft a1.stp)
  have := z1 rfl; have := z2 rfl; subst_vars
  refine hr (Gof F2 B) H2 v1 v2 d1 d2 [] [] _ _ s2.dom (r1.aftV s1 a2 (.inl rfl)) r2 h2 fun v d H' sm rv p => ?_
  split at p
  · rename_i c
    have := rv.bl; subst this
    refine ⟨c, rfl, ?_⟩
    cases c with
    | true =>
      rw [if_pos rfl]
      have s3 := s2.ext sm
      have r2' := r2.same sm
      refine hc B F2 σ ρ2 H' _ _ x s3 (p.1 rfl) (fun v3 d3 ρ3 F3 H3 S3 s4 r3 m3 z3 a3 h3 => ?_) (e.aft ((a1.trans a2).ext sm).stp)
      have := z3 rfl; subst this
      refine hr' (Gof F3 B) H3 v2 v3 d2 d3 [] [] _ _ s4.dom (r2'.aftV s3 a3 (.inl rfl)) r3 h3 fun v d H'' sm' r p => ?_
      have aa := (((a1.trans a2).ext sm).trans a3).ext sm'
      exact k v d ρ3 F3 H'' [] (s4.ext sm') r (by simp) (fun _ => rfl) (aa.weak fun z => by rw [Bool.and_assoc]; exact z) p
    | false =>
      rw [if_neg (by decide)]
      refine k _ _ ρ2 F2 H' [] (s2.ext sm) .bl1 (by simp) (fun _ => rfl) (((a1.trans a2).ext sm).weak fun z => ?_) (p.2 rfl)
      simp only [Bool.and_eq_true] at z ⊢
      exact ⟨z.1, z.2.1⟩
  · exact p.elim

/-! ### in -/
/-- a stands in c -/
def isIn (a c : List Nat) : Bool := (List.range (c.length + 1)).any fun i => decide ((c.drop i).take a.length = a)
theorem pre_iff (a l : List Nat) : TL.pre a l = true ↔ l.take a.length = a := by
  unfold TL.pre
  rw [beq_iff_eq]
theorem at_in (x y : List Nat) (hy : y ≠ []) (i : Nat) : StrLaws.At (⟨x.toArray⟩ : Str) ⟨y.toArray⟩ (⟨x.toArray⟩ : Str).length i ↔ (x.drop i).take y.length = y := by
  have tx : TL.tl (⟨x.toArray⟩ : Str) = x := by simp
  have ty : TL.tl (⟨y.toArray⟩ : Str) = y := by simp
  rw [TL.at_iff (by rw [ty]; exact hy), tx, ty, pre_iff]
theorem isIn_iff (a c : List Nat) : isIn a c = true ↔ ∃ i, i ≤ c.length ∧ (c.drop i).take a.length = a := by
  unfold isIn
  rw [List.any_eq_true]
  constructor
  · rintro ⟨i, hi, h⟩
    exact ⟨i, by rw [List.mem_range] at hi; omega, of_decide_eq_true h⟩
  · rintro ⟨i, hi, h⟩
    exact ⟨i, by rw [List.mem_range]; omega, decide_eq_true h⟩
theorem occ_in (x y : List Nat) (hy : y ≠ []) : (!(Builtin.Str.occurrences (⟨x.toArray⟩ : Str) ⟨y.toArray⟩ 0 (⟨x.toArray⟩ : Str).length 1).isEmpty) = isIn y x := by
  have lx : (⟨x.toArray⟩ : Str).length = x.length := str_len x
  rw [StrLaws.occ_eq, Bool.eq_iff_iff, isIn_iff]
  have key := StrLaws.occ_first (⟨x.toArray⟩ : Str) ⟨y.toArray⟩ (⟨x.toArray⟩ : Str).length 1 (Nat.le_refl 1) (List.range' 0 ((⟨x.toArray⟩ : Str).length + 1 - 0)) 0 (fun i hi' => (List.mem_range'_1.mp hi').1)
  rcases key with ⟨h0, hn⟩ | ⟨pr, a, post, e, ha, hat, he⟩
  · rw [h0]
    simp only [List.isEmpty_nil, Bool.not_true, Bool.false_eq_true, false_iff]
    rintro ⟨i, hi, h2⟩
    exact hn i (by rw [List.mem_range'_1, lx]; omega) ((at_in x y hy i).mpr h2)
  · have hm : a ∈ List.range' 0 ((⟨x.toArray⟩ : Str).length + 1 - 0) := by rw [e]; simp
    rw [List.mem_range'_1, lx] at hm
    constructor
    · intro _
      exact ⟨a, by omega, (at_in x y hy a).mp hat⟩
    · intro _
      generalize (forIn (List.range' 0 ((⟨x.toArray⟩ : Str).length + 1 - 0)) ((#[] : Array Nat), 0) (StrLaws.occBody ⟨x.toArray⟩ ⟨y.toArray⟩ (⟨x.toArray⟩ : Str).length 1)).run.fst = A at ha
      cases hA : A.toList with
      | nil =>
        have : A = #[] := by simpa using hA
        subst this
        simp at ha
      | cons p q => rfl
/-- a text in a text -/
def fIn : F2 := fun x y q => match x, y with
  | .str a, .str c => a ≠ [] ∧ q (.bl (isIn a c))
  | _, _ => False
def fNotIn : F2 := fun x y q => match x, y with
  | .str a, .str c => a ≠ [] ∧ q (.bl (!isIn a c))
  | _, _ => False
abbrev rInS : R2 := fun x y H Q => ∃ i j, x = .str i ∧ y = .str j ∧ Q (.bl (!(Builtin.Str.occurrences j i 0 j.length 1).isEmpty)) H
abbrev rNotInS : R2 := fun x y H Q => ∃ i j, x = .str i ∧ y = .str j ∧ Q (.bl (!(!(Builtin.Str.occurrences j i 0 j.length 1).isEmpty))) H
theorem op_inA {X : Cx} : OpR X (compareOp .In) rInS := op_in_str
theorem op_notInA {X : Cx} : OpR X (compareOp .NotIn) rNotInS := op_notin_str
theorem rs_in : RSim K rInS fIn := by
  intro G H v1 v2 d1 d2 S1 S2 Q q dm r1 r2 h k
  unfold fIn at h
  split at h
  · obtain ⟨rfl, e1⟩ := r1.str
    obtain ⟨rfl, e2⟩ := r2.str
    refine ⟨_, _, rfl, rfl, ?_⟩
    rw [occ_in _ _ h.1]
    exact k _ _ H (Same.refl _) .bl1 h.2
  · exact h.elim
theorem rs_notin : RSim K rNotInS fNotIn := by
  intro G H v1 v2 d1 d2 S1 S2 Q q dm r1 r2 h k
  unfold fNotIn at h
  split at h
  · obtain ⟨rfl, e1⟩ := r1.str
    obtain ⟨rfl, e2⟩ := r2.str
    refine ⟨_, _, rfl, rfl, ?_⟩
    rw [occ_in _ _ h.1]
    exact k _ _ H (Same.refl _) .bl1 h.2
  · exact h.elim

/-! ### x[::-1] -/
def tRevA (K : Frg) (te : TE) : TE := fun σ H Q => te σ H fun x H1 => (∃ a xs, x = .ref a ∧ SqL K H1 a xs ∧ ∀ p, H1 p = none → Q (.ref p) (upd H1 p (.lst xs.reverse))) ∨ ∃ z, x = .str z ∧ z.length ≤ sizeLine ∧ Q (.str ⟨z.cps.toList.reverse.toArray⟩) H1
theorem rev_pick (z : Str) : (⟨((Builtin.Str.strSliceIndices none none (-1) z.length).filterMap (z.cps[·]?)).toArray⟩ : Str) = ⟨z.cps.toList.reverse.toArray⟩ := by
  have e : Builtin.Str.strSliceIndices none none (-1) z.length = (List.range z.length).map fun k => z.length - 1 - k := by
    unfold Builtin.Str.strSliceIndices
    exact PySem.W.krv_sliceRange z.length
  rw [e, PySem.W.krv_range, List.filterMap_reverse]
  have := PySem.W.krv_all z.cps
  show (⟨((List.range z.cps.size).filterMap (z.cps[·]?)).reverse.toArray⟩ : Str) = _
  rw [this]
theorem pe_rev {X : Cx} {e : Expr} {te : TE} {k : Nat} {p1 p2 p3 pos : Pos} (he : PE X e te) : PE X (.Subscript e (.Slice none none (some (.UnaryOp .USub (.Constant (.int 1) k p1) p2)) p3) pos) (tRevA X.K te) := by
  refine ⟨fun pins s σ H Q I h => ?_⟩
  refine Subscript_ (thn (he.run pins s σ H _ I h) fun v s1 ⟨x, H1, I1, r1, q1⟩ => ?_)
  have hst : PO X (some (.UnaryOp .USub (.Constant (.int 1) k p1) p2)) (tPart (tUn (rU fun i => .int (-i)) (tC (.int 1)))) := po_some (pe_un un_neg pe_int)
  refine wpAny_Slice (thn (po_none.run pins s1 σ H1 (fun o H2 => o = none ∧ H2 = H1) I1 ⟨rfl, rfl⟩) fun vl s2 ⟨l, H2, I2, pl, el, e2⟩ => ?_)
  subst el e2
  refine thn (po_none.run pins s2 σ H2 (fun o H3 => o = none ∧ H3 = H2) I2 ⟨rfl, rfl⟩) fun vu s3 ⟨u, H3, I3, pu, eu, e3⟩ => ?_
  subst eu e3
  refine thn (hst.run pins s3 σ H3 (fun o H4 => o = some (-1) ∧ H4 = H3) I3 ⟨1, rfl, -1, rfl, rfl, rfl⟩) fun vs s4 ⟨o, H4, I4, ps, eo, e4⟩ => ?_
  subst eo e4
  have I5 : Inv X pins σ H4 { s4 with heap := s4.heap.push { cls := .type "slice", data := .fields #[vl, vu, vs] } } := I4.kept (t' := s4.toks) fun b ob q => Heap.get?_push_of_some _ q
  rcases q1 with ⟨a, xs, ex, hx, q⟩ | ⟨z, ex, hz, q⟩
  · subst ex
    cases r1
    obtain ⟨its, r, ht, hz⟩ := I5.list hx
    have hlen := r.length
    show wpAny (model X.prog X.w) X.A (subscriptTail e (.Slice none none (some (.UnaryOp .USub (.Constant (.int 1) k p1) p2)) p3) (.ref a) (.ref s4.heap.objs.size)) (EP X pins σ Q) X.xe { s4 with heap := s4.heap.push { cls := .type "slice", data := .fields #[vl, vu, vs] } }
    refine tail_any (ops := [.ref a, .ref s4.heap.objs.size]) ht.isList.typeIs (PySem.slot_list_getitem.lookup) ?_ (by with_unfolding_all rfl)
    refine wpAny_getItem_list_slice ht.isList (Heap.IsSliceOf.new _ vl vu vs) pl pu ps (by decide) ?_ (by rw [List.size_toArray]; omega)
    rw [PySem.W.krv_pick]
    refine ⟨.ref _, _, I5.laid (t' := s4.toks) (o := .lst xs.reverse) (fun b ob q => Heap.get?_push_of_some _ q) (Nat.le_refl _) ?_, rfl, q _ (I5.hok.fresh (Nat.le_refl _))⟩
    exact ⟨by rw [List.length_reverse]; exact hz, _, 0, r.reverse, Heap.get?_push_size _ rfl⟩
  · subst ex
    obtain ⟨t, rfl⟩ := r1
    show wpAny (model X.prog X.w) X.A (subscriptTail e (.Slice none none (some (.UnaryOp .USub (.Constant (.int 1) k p1) p2)) p3) (.str z t) (.ref s4.heap.objs.size)) (EP X pins σ Q) X.xe { s4 with heap := s4.heap.push { cls := .type "slice", data := .fields #[vl, vu, vs] } }
    refine tail_any (ops := [.ref s4.heap.objs.size, .str z t]) (typeIs_str _ _ _) (F.slot_str_getitem.lookup) ?_ (by with_unfolding_all rfl)
    obtain ⟨os, hos, hcs, hds⟩ := Heap.IsSliceOf.new s4.heap vl vu vs
    obtain ⟨l, rfl, hl⟩ := IsPart.raw pl
    obtain ⟨u, rfl, hu⟩ := IsPart.raw pu
    obtain ⟨st, rfl, hs⟩ := IsPart.raw ps
    cases l with
    | some _ => cases hl
    | none =>
      cases u with
      | some _ => cases hu
      | none =>
        cases st with
        | none => cases hs
        | some st =>
          obtain ⟨j, tj⟩ := st
          have hj : j = -1 := by
            first
              | (cases hs; rfl)
              | (have := Option.some.inj hs; simpa using this)
          subst hj
          refine wpAny_getItem_str_slice (l := none) (u := none) (st := some (-1, tj)) ⟨os, hos, hcs, hds⟩ rfl ?_
          show Made.post (Made.str ⟨((Builtin.Str.strSliceIndices none none (-1) z.length).filterMap (z.cps[·]?)).toArray⟩) (EP X pins σ Q) _
          rw [rev_pick]
          exact ⟨by show (z.cps.toList.reverse.toArray).size ≤ sizeLine; rw [List.size_toArray, List.length_reverse, Array.length_toList]; exact hz, .str _, H4, I5.tok _, ⟨_, rfl⟩, q⟩
def mRev (ma : METy) : METy := fun ρ q x => ma ρ (fun d ρ1 => match d with
  | .str a => q (.str a.reverse) ρ1
  | .lst ds => q (.lst ds.reverse) ρ1
  | _ => False) x
theorem R.rev {G : Addr → Prop} {H : Hp} : ∀ {ws : List V} {es : List D}, R K G H ws es [] → R K G H ws.reverse es.reverse []
  | [], [], _ => .nil
  | [], _ :: _, r => by cases r
  | _ :: _, [], r => by cases r
  | w :: ws, e :: es, r => by
    obtain ⟨S1, S2, z, r1, r2⟩ := r.uncons
    obtain ⟨z1, z2⟩ := List.append_eq_nil_iff.mp z.symm
    subst z1 z2
    rw [List.reverse_cons, List.reverse_cons]
    exact (R.rev r2).app r1
theorem sim_rev (ha : Sim K W vw1 b1 ta ma) : Sim K W false b1 (tRevA K ta) (mRev ma) := by
  intro B F σ ρ H Q q x s h k e
  refine ha B F σ ρ H _ _ x s h (fun v1 d1 ρ1 F1 H1 S1 s1 r1 m1 z1 a1 h1 => ?_) e
  split at h1
  · obtain ⟨rfl, hl⟩ := r1.str
    refine .inr ⟨_, rfl, by rw [str_len]; exact hl, ?_⟩
    simp only [List.toList_toArray]
    exact k _ _ ρ1 F1 H1 [] s1 (.str1 (by rw [List.length_reverse]; exact hl)) (by simp) (fun _ => rfl) a1 h1
  · obtain ⟨a, ws, rfl, hs, rr⟩ := r1.lstE
    exact .inl ⟨a, ws, rfl, SqL.of hs, fun p hp => k _ _ ρ1 F1 _ [] (s1.ext (same_upd hp)) (.newL s1.dom hp rr.rev) (by simp) (fun _ => rfl) (a1.ext (same_upd hp)) h1⟩
  · exact h1.elim

/-! ### sep.join(xs) -/
def mJoin (mo ma : METy) : METy := fun ρ q x => mo ρ (fun d0 ρ1 => match d0 with
  | .str a => ma ρ1 (fun d ρ2 => ∃ xs : List (List Nat), sq d = some (xs.map D.str) ∧ (xs.map List.length).sum + xs.length * a.length ≤ 16777216 ∧ q (.str (TL.joinL a xs)) ρ2) x
  | _ => False) x
theorem txt_join (a : List Nat) (xs : List (List Nat)) : Txt.join (⟨a.toArray⟩ : Str) (xs.map fun x => (⟨x.toArray⟩ : Str)) = ⟨(TL.joinL a xs).toArray⟩ := by
  have fold : ∀ (ys : List (List Nat)) (c : List Nat), (List.foldl (fun acc (p : Str) => acc ++ (⟨a.toArray⟩ : Str).cps ++ p.cps) c.toArray (ys.map fun x => (⟨x.toArray⟩ : Str))) = (c ++ (ys.map fun y => a ++ y).flatten).toArray := by
    intro ys
    induction ys with
    | nil => intro c; simp
    | cons y ys ih =>
      intro c
      rw [List.map_cons, List.foldl_cons]
      have : c.toArray ++ (⟨a.toArray⟩ : Str).cps ++ (⟨y.toArray⟩ : Str).cps = (c ++ (a ++ y)).toArray := by simp
      rw [this, ih]
      simp
  have jl : ∀ (y : List Nat) (ys : List (List Nat)), TL.joinL a (y :: ys) = y ++ (ys.map fun y => a ++ y).flatten := by
    intro y ys
    induction ys generalizing y with
    | nil => simp [TL.joinL]
    | cons z zs ih =>
      show y ++ (a ++ TL.joinL a (z :: zs)) = _
      rw [ih z]
      simp
  cases xs with
  | nil => rfl
  | cons y ys =>
    rw [jl]
    show (⟨_⟩ : Str) = _
    have := fold ys y
    simp only [List.map_cons, List.headD_cons, List.drop_succ_cons, List.drop_zero]
    rw [this]
theorem R.strs {G : Addr → Prop} {H : Hp} : ∀ {ws : List V} {xs : List (List Nat)} {S}, R K G H ws (xs.map D.str) S → ws = (xs.map fun x => (⟨x.toArray⟩ : Str)).map V.str
  | [], [], _, _ => rfl
  | [], _ :: _, _, r => by cases r
  | _ :: _, [], _, r => by cases r
  | w :: ws, x :: xs, _, r => by
    obtain ⟨S1, S2, z, r1, r2⟩ := r.uncons
    obtain ⟨rfl, _⟩ := r1.str
    rw [R.strs r2]
    rfl
theorem joinL_len (a : List Nat) : ∀ xs : List (List Nat), (TL.joinL a xs).length ≤ (xs.map List.length).sum + xs.length * a.length
  | [] => by simp [TL.joinL]
  | [x] => by simp [TL.joinL]
  | x :: y :: r => by
    have ih := joinL_len a (y :: r)
    show (x ++ (a ++ TL.joinL a (y :: r))).length ≤ _
    rw [List.length_append, List.length_append, List.map_cons, List.sum_cons, List.length_cons, Nat.succ_mul]
    omega
theorem sim_join {to : TE} {mo : METy} (ho : Sim K W vw1 b1 to mo) (ha : Sim K W vw2 b2 ta ma) : Sim K W false (b1 && b2) (tM1 (fun x xs H Q => ∃ a p ys, x = .str a ∧ xs = [.ref p] ∧ (SqL K H p (ys.map V.str) ∨ SqT K H p (ys.map V.str)) ∧
    (ys.map (·.length)).sum + ys.length * a.length ≤ 16777216 ∧ Q (.str (Txt.join a ys)) H) to ta) (mJoin mo ma) := by
  intro B F σ ρ H Q q x s h k e
  refine ho B F σ ρ H _ _ x s h (fun v1 d1 ρ1 F1 H1 S1 s1 r1 m1 z1 a1 h1 => ?_) e
  split at h1
  · rename_i a
    obtain ⟨rfl, hl⟩ := r1.str
    refine ⟨⟨_, rfl⟩, ?_⟩
    refine ha B F1 σ ρ1 H1 _ _ x s1 h1 (fun v2 d2 ρ2 F2 H2 S2 s2 r2 m2 z2 a2 h2 => ?_) (e.aft a1.stp)
    obtain ⟨xs, hd, hsz, hq⟩ := h2
    obtain ⟨p, ws, S3, rfl, hs, rr, _⟩ := r2.sqE hd
    have ew := rr.strs
    subst ew
    refine ⟨_, p, _, rfl, rfl, hs, ?_, ?_⟩
    · rw [List.map_map]
      have : ((fun x : Str => x.length) ∘ fun x : List Nat => (⟨x.toArray⟩ : Str)) = List.length := by
        funext x
        exact str_len x
      rw [this, List.length_map, str_len]
      exact hsz
    · rw [txt_join]
      exact k _ _ ρ2 F2 H2 [] s2 (.str1 (Nat.le_trans (joinL_len a xs) (by rw [line_eq]; exact hsz))) (by simp) (fun _ => rfl) (a1.trans a2) hq
  · exact h1.elim
/-! ### a call without arguments -/
theorem pe_callS0 {X : Cx} {CX : CXT} {k : Nat} {f : Addr} {fd : FuncData} {ps : List Str} {sp : Sp} {E : L2.St → XK} {x : Str} {p pos : Pos} (F : FnOk X.prog X.w X.K X.mg X.base CX k f fd ps sp) (hr : Room k X.A) (hg : Gl X x) (hm : X.mg x = some (.ref f)) (hk : PySem.W.keepIn X.K (.ref f) = true) (hb : Binds X.K fd ps []) (hx : ∀ σ, PassesAt CX X σ (E σ))
    (hdb : (x == ("__debug__" : Str)) = false := by decide) : PE X (.Call (.Name x p) [] [] pos) (tCallS sp E tNil) := by
  refine ⟨fun pins s σ H Q I h => ?_⟩
  refine wpAny_Call_Name_kw (ld_glob I hg hm ?_ hdb)
  exact PySem.W.callWith_K0 I.kIn hk (run_fnS (us := []) F hr hb (hx σ) I .nil h)
end
end Mi
end

-- text MI
section
set_option Elab.async false
set_option linter.all false
set_option maxRecDepth 100000
set_option maxHeartbeats 4000000
/-! MI: enumerate of a list, a tuple, a text. -/
namespace PySem
open Sem (wp)
set_option maxHeartbeats 4000000 in
theorem meets_enumerate_newB1 {v : Value} {o : Obj} {H : Heap → Prop} (B : Begins v o H) :
    Meets (Builtin.«enumerate.__new__» ⟨[.type "enumerate", v], []⟩) (fun _ R s => H s.heap ∧
      R (.ok (.ret (.ref (s.heap.push o).objs.size))) { s with heap := (s.heap.push o).push { cls := .type "enumerate", data := .fields #[.none, .bool false, .ref s.heap.objs.size, rawInt 0, .none, .none] } }) :=
  .of_wp fun prog w A R s h => by
    obtain ⟨hp, g, d, tk, os⟩ := s; obtain ⟨h1, h⟩ := h
    have hsub := sub_enumerate
    have q1 : ∀ {A' : Around} {E : Value → Shared → Prop} {Q : Value → Shared → Prop}, Q (.ref hp.objs.size) ⟨hp.push o, g, d, tk, os⟩ → wpAny (model prog w) A' (pyIter v) Q E ⟨hp, g, d, tk, os⟩ :=
      fun q => B.iter prog w _ _ ⟨hp, g, d, tk, os⟩ _ h1 q
    wp_walk using q1
    refine wpAny_stack_any fun st => wpAny_pure ?_
    split
    · rename_i c _ _ _ _ _
      cases (c == Value.type "enumerate")
      · wp_walk using q1
        exact ⟨_, rfl, h⟩
      · wp_walk using q1
        exact ⟨_, rfl, h⟩
    · wp_walk using q1
      exact ⟨_, rfl, h⟩
section
variable {prog : Program} {w : World} {A : Around} {E : Value → Shared → Prop} {s : Shared}
theorem enum_begins1 {v : Value} {o : Obj} {H : Heap → Prop} {Q : Value → Shared → Prop} (B : Begins v o H) (h1 : H s.heap)
    (h : ∀ h', IsEnum h' (s.heap.objs.size + 1) s.heap.objs.size 0 .none → h'.get? s.heap.objs.size = some o → h'.objs.size = s.heap.objs.size + 2 →
      (∀ b o, s.heap.get? b = some o → h'.get? b = some o) → Q (.ref (s.heap.objs.size + 1)) { s with heap := h' }) :
    wpAny (model prog w) A (call (.type "enumerate") [v]) Q E s := by
  refine callType_new F.called_enumerate (by decide) (F.typeCall_enumerate_1 _) (F.newCall_enumerate_1 _) (fun obj => F.args_object_init_2 obj _) F.entry_enumerate_new
    (meets_enumerate_newB1 B) ⟨h1, ?_⟩
  have hz : (s.heap.push o).objs.size = s.heap.objs.size + 1 := Heap.size_push ..
  show _ ∧ _
  rw [hz]
  have he : IsEnum ((s.heap.push o).push { cls := .type "enumerate", data := .fields #[.none, .bool false, .ref s.heap.objs.size, rawInt 0, .none, .none] }) (s.heap.objs.size + 1) s.heap.objs.size 0 .none := by
    have := Heap.get?_push_size (s.heap.push o) (o := { cls := .type "enumerate", data := .fields #[.none, .bool false, .ref s.heap.objs.size, rawInt 0, .none, .none] }) rfl
    rw [hz] at this; exact this
  refine ⟨⟨_, he, rfl⟩, h _ he (Heap.get?_push_of_some _ (Heap.get?_push_size _ B.free)) (by rw [Heap.size_push, hz]) fun b o x => Heap.get?_push_of_some _ (Heap.get?_push_of_some _ x)⟩
end
end PySem
namespace Mi
open PySem PySem.Spec PyProof.Rows L2
/-- what an inner iterator is: St i of the heap (its own record alone), Sr of the abstract heap (what it draws from), ok: the items -/
structure Inner (P : Program) (w : World) (K : Frg) (it : Addr) (n : Nat) (Sr : Hp → Prop) (Y : Nat → V → Prop) (St : Nat → Heap → Prop) : Prop where
  obj : ∀ i h, St i h → ∃ o, h.get? it = some o ∧ ∀ v, o.data ≠ .cell v
  keep : ∀ i h h', St i h → (∀ o, h.get? it = some o → h'.get? it = some o) → St i h'
  draws : ∀ (X : Cx) (pins : List (Addr × Obj)) (s : Shared) (σ : L2.St) (H : Hp), X.prog = P → X.w = w → X.K = K → X.calm = true → Inv X pins σ H s → Sr H → H it = none → (∃ i, St i s.heap) →
    ∃ (fp : List Addr) (Pv : Nat → Value → Prop) (St' : Nat → Heap → Prop), Draws P w X.A.in1 it fp n Pv St' ∧ (∀ b ∈ fp, b = it ∨ ∃ o, s.heap.get? b = some o ∧ ∀ vs, o.data ≠ .fields vs) ∧ (∀ i, St i s.heap → St' i s.heap) ∧
      (∀ i h, St' i h → St i h) ∧ ∀ i v, i < n → Pv i v → ∃ x, RelV x v ∧ Y i x
def ItE (n : Nat) (Sr : Hp → Prop) (Y : Nat → V → Prop) : It :=
  ⟨fun i H => i < n ∧ Sr H, fun i H v H' => ∃ T x, v = .ref T ∧ H T = none ∧ H' = upd H T (.tup [.int (i : Nat), x]) ∧ Y i x, fun i H => i = n ∧ Sr H⟩
theorem turn_enumA {P : Program} {w : World} {K : Frg} {elts : List Expr} {kk : Nat} {tpos : Pos} {n : Nat} {Sr : Hp → Prop} {Y : Nat → V → Prop} {St : Nat → Heap → Prop} (e it : Addr) (D : Inner P w K it n Sr Y St) :
    Turn P w K (.Tuple elts kk tpos) (ItE n Sr Y) [e, it] e (fun i h => (∃ old, IsEnum h e it ((i : Nat) : Int) old) ∧ St i h ∧ e ≠ it) where
  mem := by simp
  obj := fun i h st b hb => by
    obtain ⟨⟨old, he⟩, hs, _⟩ := st
    have e' : b = e ∨ b = it := by simpa using hb
    rcases e' with z | z
    · rw [z]; exact ⟨_, he, fun v q => nomatch q⟩
    · rw [z]; exact D.obj i h hs
  keep := fun i h h' st k => let ⟨⟨old, he⟩, hi, hne⟩ := st; ⟨⟨old, k e (by simp) _ he⟩, D.keep i h h' hi fun o q => k it (by simp) o q, hne⟩
  item := by
    intro X hP hw hK hc i pins s σ H E I hf st hg
    subst hP hw hK
    obtain ⟨⟨old, he⟩, hit, hne⟩ := st
    obtain ⟨hin, hsr⟩ := hg
    obtain ⟨fp, Pv, St', Dr, hfp, t1, t2, hy⟩ := D.draws X pins s σ H rfl rfl rfl hc I hsr (hf it (by simp)).1 ⟨i, hit⟩
    have hel : e < s.heap.objs.size := Heap.lt_size he
    have hil : it < s.heap.objs.size := by obtain ⟨o, q, _⟩ := D.obj i _ hit; exact Heap.lt_size q
    have hef : e ∉ fp := fun z => by
      rcases hfp e z with q | ⟨o, q, nf⟩
      · exact hne q
      · rw [he] at q; cases q; exact nf _ rfl
    refine wpAny_pyNext_enum_itemD Dr he (t1 i hit) hin hne hef fun x h' tk hx ho hst' hT hsz hk => ?_
    obtain ⟨xv, ru, hyx⟩ := hy i x hin hx
    refine ⟨_, rfl, wpAny_letOwnedTupleGo_enum (s := { s with heap := h', toks := tk + 1 }) ho fun h'' he' sb => ?_⟩
    have hT2 : h''.get? s.heap.objs.size = some { cls := .type "tuple", data := .seq #[.int i tk, x] } := (sb.2 _ (Nat.ne_of_gt hel)).trans hT
    have new : ObjOk X.prog X.w (upd H s.heap.objs.size (.tup [.int (i : Nat), xv])) h'' s.heap.objs.size (.tup [.int (i : Nat), xv]) :=
      ⟨by show 2 ≤ sizeLine; decide, [.int i tk, x], .cons ⟨_, rfl⟩ (.cons ru .nil), ⟨_, hT2, rfl, _, rfl⟩⟩
    have I1 : Inv X pins σ (upd H s.heap.objs.size (.tup [.int (i : Nat), xv])) { s with heap := h'', toks := tk + 1 } :=
      I.turnedNew (ch := [e, it]) (fun b ob hb q => (sb.2 b (fun z => hb (by simp [z]))).trans (hk b ob (fun z => hb (by simp [z])) (fun z => hb (by simp [z])) q)) hf (Nat.le_refl _) new
    refine ⟨.ref s.heap.objs.size, _, I1, rfl, ⟨_, xv, rfl, I.hok.fresh (Nat.le_refl _), rfl, hyx⟩, ⟨⟨x, ?_⟩, D.keep _ _ _ (t2 _ _ hst') fun o q => (sb.2 it (Ne.symm hne)).trans q, hne⟩, fun b hb => ?_⟩
    · have e1 : ((i + 1 : Nat) : Int) = (i : Int) + 1 := by omega
      rw [e1]; exact he'
    · have hb' : b < s.heap.objs.size := by
        have e' : b = e ∨ b = it := by simpa using hb
        rcases e' with z | z
        · rw [z]; exact hel
        · rw [z]; exact hil
      rw [upd_ne (Nat.ne_of_lt hb')]
      exact (hf b hb).1
  done := by
    intro X hP hw hK hc i pins s σ H E I hf st hg
    subst hP hw hK
    obtain ⟨⟨old, he⟩, hit, hne⟩ := st
    obtain ⟨rfl, hsr⟩ := hg
    obtain ⟨fp, Pv, St', Dr, hfp, t1, t2, hy⟩ := D.draws X pins s σ H rfl rfl rfl hc I hsr (hf it (by simp)).1 ⟨_, hit⟩
    obtain ⟨f0, f1, f2, f3, f4, f5⟩ := hf it (by simp)
    exact wpAny_pyNext_enum_endD Dr he (t1 _ hit) fun h' eb => ⟨rfl, I.turned (t' := s.toks) (fun b o hb q => eb b o hb q) f0 f1 f3 f4 f5⟩
  self := fun A i s Q E st h => let ⟨⟨_, he⟩, _⟩ := st; wpAny_pyIter_enum he h
theorem inner_list {P : Program} {w : World} {K : Frg} {it a : Addr} {ws : List V} : Inner P w K it ws.length (fun H => SqL K H a ws) (fun i x => ws[i]? = some x) (fun i h => h.IsListIter it a i) where
  obj := fun i h st => let ⟨o, ho, hc, hd⟩ := st; ⟨o, ho, fun v q => by rw [hd] at q; cases q⟩
  keep := fun i h h' st k => st.at fun o q => k o q
  draws := by
    intro X pins s σ H hP hw hK hc I hs hn ⟨j, hj⟩
    subst hP hw hK
    obtain ⟨its, rv, p, hz⟩ := I.list hs
    obtain ⟨oi, hoi, _, hdi⟩ := hj
    obtain ⟨oa, ha, _, na, hda⟩ := p.isList
    have hne : a ≠ it := fun z => by
      subst z
      rw [ha] at hoi; cases hoi
      rw [hda] at hdi; cases hdi
    have hl : its.toArray.size = ws.length := by rw [List.size_toArray]; exact rv.length.symm
    refine ⟨[it, a], fun i v => its.toArray[i]? = some v, fun i h => h.IsListIter it a i ∧ h.IsList a its.toArray, hl ▸ Draws.list (show X.A.in1.handled = none from I.ok.hd hc) it a hne its.toArray, fun b hb => ?_, fun i h => ⟨h, p.isList⟩, fun i h x => x.1, fun i v hi hv => ?_⟩
    · rcases List.mem_cons.mp hb with z | z
      · exact .inl z
      · rw [List.mem_singleton] at z
        subst z
        exact .inr ⟨oa, ha, fun vs q => by rw [hda] at q; cases q⟩
    · have hx : ws[i]? = some ws[i] := List.getElem?_eq_getElem hi
      obtain ⟨u, hu, ru⟩ := rv.get hx
      have hv' : its[i]? = some v := by simpa using hv
      rw [hv'] at hu; cases hu
      exact ⟨_, ru, hx⟩
theorem inner_tuple {P : Program} {w : World} {K : Frg} {it a : Addr} {ws : List V} : Inner P w K it ws.length (fun H => SqT K H a ws) (fun i x => ws[i]? = some x) (fun i h => h.IsTupleIter it a i) where
  obj := fun i h st => let ⟨o, ho, hc, hd⟩ := st; ⟨o, ho, fun v q => by rw [hd] at q; cases q⟩
  keep := fun i h h' st k => st.at fun o q => k o q
  draws := by
    intro X pins s σ H hP hw hK hc I hs hn ⟨j, hj⟩
    subst hP hw hK
    obtain ⟨its, rv, p, hz⟩ := I.tuple hs
    obtain ⟨oi, hoi, _, hdi⟩ := hj
    obtain ⟨oa, ha, hca, na, hda⟩ := id p
    have hne : a ≠ it := fun z => by
      subst z
      rw [ha] at hoi; cases hoi
      rw [hda] at hdi; cases hdi
    have hl : its.toArray.size = ws.length := by rw [List.size_toArray]; exact rv.length.symm
    refine ⟨[it, a], fun i v => its.toArray[i]? = some v, fun i h => h.IsTupleIter it a i ∧ h.IsTuple a its.toArray, hl ▸ Draws.tuple (show X.A.in1.handled = none from I.ok.hd hc) it a hne its.toArray, fun b hb => ?_, fun i h => ⟨h, p⟩, fun i h x => x.1, fun i v hi hv => ?_⟩
    · rcases List.mem_cons.mp hb with z | z
      · exact .inl z
      · rw [List.mem_singleton] at z
        subst z
        exact .inr ⟨oa, ha, fun vs q => by rw [hda] at q; cases q⟩
    · have hx : ws[i]? = some ws[i] := List.getElem?_eq_getElem hi
      obtain ⟨u, hu, ru⟩ := rv.get hx
      have hv' : its[i]? = some v := by simpa using hv
      rw [hv'] at hu; cases hu
      exact ⟨_, ru, hx⟩
theorem inner_text {P : Program} {w : World} {K : Frg} {it : Addr} {x : Str} {t : Tok} : Inner P w K it x.cps.size (fun _ => True) (fun i v => ∃ c, x.cps[i]? = some c ∧ v = .str ⟨#[c]⟩) (fun i h => h.IsStrIter it (strIterType x) x t i) where
  obj := fun i h st => let ⟨o, ho, hc, hd⟩ := st; ⟨o, ho, fun v q => by rw [hd] at q; cases q⟩
  keep := fun i h h' st k => by
    obtain ⟨o, ho, hc, hd⟩ := st
    exact ⟨o, k o ho, hc, hd⟩
  draws := by
    intro X pins s σ H hP hw hK hc I hs hn _
    subst hP hw hK
    refine ⟨[it], _, _, Draws.text (show X.A.in1.handled = none from I.ok.hd hc) it x t, fun b hb => .inl (by simpa using hb), fun i h => h, fun i h x => x, fun i v hi hv => ?_⟩
    obtain ⟨c, u, h1, rfl⟩ := hv
    exact ⟨.str ⟨#[c]⟩, ⟨u, rfl⟩, c, h1, rfl⟩
theorem walk_enumA {n : Nat} {Sr : Hp → Prop} {Y : Nat → V → Prop} : L2.Walk (ItE n Sr Y) n Sr (fun i H v H' => ∃ T x, v = .ref T ∧ H T = none ∧ H' = upd H T (.tup [.int (i : Nat), x]) ∧ Y i x) :=
  ⟨fun i H hi h => ⟨hi, h⟩, fun H h => ⟨rfl, h⟩, fun i H x H' _ _ y => y⟩
def wEnum (K : Frg) (R : It → Hp → Prop) (v : V) (H1 : Hp) : Prop := (∃ a ws, v = .ref a ∧ SqL K H1 a ws ∧ R (ItE ws.length (fun H => SqL K H a ws) (fun i x => ws[i]? = some x)) H1) ∨
  (∃ a ws, v = .ref a ∧ SqT K H1 a ws ∧ R (ItE ws.length (fun H => SqT K H a ws) (fun i x => ws[i]? = some x)) H1) ∨ ∃ x, v = .str x ∧ R (ItE x.cps.size (fun _ => True) (fun i v => ∃ c, x.cps[i]? = some c ∧ v = .str ⟨#[c]⟩)) H1
def iEnumA (K : Frg) (ta : TA) : TI := fun σ H R => ta σ H fun vs H1 => ∃ v, vs = [v] ∧ wEnum K R v H1
theorem enum_fin {X : Cx} {pins : List (Addr × Obj)} {σ : L2.St} {H1 : Hp} {s1 : Shared} {R : It → Hp → Prop} {elts : List Expr} {kk : Nat} {tpos : Pos} {n : Nat} {Sr : Hp → Prop} {Y : Nat → V → Prop} {St : Nat → Heap → Prop} {v : Value} {o : Obj} {Hh : Heap → Prop} (I1 : Inv X pins σ H1 s1)
    (B : Begins v o Hh) (h1 : Hh s1.heap) (D : Inner X.prog X.w X.K s1.heap.objs.size n Sr Y St) (hst : ∀ h', h'.get? s1.heap.objs.size = some o → St 0 h') (q : R (ItE n Sr Y) H1) :
    wpAny (model X.prog X.w) X.A (call (.type "enumerate") [v]) (fun u s2 => wpAny (model X.prog X.w) X.A (pyIter u) (PIE X pins σ (.Tuple elts kk tpos) R) X.xe s2) X.xe s1 := by
  refine enum_begins1 B h1 fun h' he ho hsz hk => wpAny_pyIter_enum he ?_
  have I2 : Inv X pins σ H1 { s1 with heap := h' } := I1.kept (t' := s1.toks) hk
  refine ⟨s1.heap.objs.size + 1, [s1.heap.objs.size + 1, s1.heap.objs.size], _, _, H1, rfl, I2, turn_enumA (s1.heap.objs.size + 1) s1.heap.objs.size D, ⟨⟨.none, he⟩, hst h' ho, Nat.succ_ne_self _⟩, fun b hb => ?_, q⟩
  have e' : b = s1.heap.objs.size + 1 ∨ b = s1.heap.objs.size := by simpa using hb
  have hle : s1.heap.objs.size ≤ b := by
    rcases e' with z | z
    · rw [z]; exact Nat.le_add_right _ _
    · rw [z]; exact Nat.le_refl _
  exact I1.fpOk hle (I1.hok.fresh hle)
theorem pi_enumA {X : Cx} {e : Expr} {ta : TA} {p pos tpos : Pos} {elts : List Expr} {kk : Nat} (hg : Gl X "enumerate") (hm : X.mg "enumerate" = none) (ha : PA X [e] ta) (hs : starEach [e] X.env = [(false, eval e X.env)] := by rfl) :
    PI X (.Tuple elts kk tpos) (.Call (.Name "enumerate" p) [e] [] pos) (iEnumA X.K ta) := by
  refine ⟨fun pins s σ H R I h => ?_⟩
  refine Call_ (ld_blt I hg hm boot_enumerate (PyProof.Rows.callWith_type1 (thn (ha.run pos pins s σ H _ I h) fun us s1 ⟨vs, H1, I1, r1, q1⟩ => ?_) hs rfl))
  obtain ⟨v, ex, q⟩ := q1
  subst ex
  cases r1 with
  | cons r rr =>
    cases rr
    rcases q with ⟨a, ws, rfl, hq, q⟩ | ⟨a, ws, rfl, hq, q⟩ | ⟨x, rfl, q⟩
    · cases r
      obtain ⟨its, rv, p', hz⟩ := I1.list hq
      exact enum_fin I1 (begins_list a its.toArray) p'.isList inner_list (fun h' ho => ⟨_, ho, rfl, rfl⟩) q
    · cases r
      obtain ⟨its, rv, p', hz⟩ := I1.tuple hq
      exact enum_fin I1 (begins_tuple a its.toArray) p' inner_tuple (fun h' ho => ⟨_, ho, rfl, rfl⟩) q
    · obtain ⟨t, rfl⟩ := r
      exact enum_fin I1 (begins_text x t) trivial inner_text (fun h' ho => ⟨_, ho, rfl, rfl⟩) q
/-- (0, a), (1, b), .. -/
def enumD (ds : List D) : List D := (List.range ds.length).map fun (i : Nat) => .tup [.int (i : Int), ds.getD i .non]
section
variable {K : Frg} {np : Nat → Bool} {W : WX} {b1 : Bool} {ta : TE} {ma : METy}
def miEnum (ma : METy) : MITy := fun ρ q x => ma ρ (fun d ρ1 => match itemsOf d with
  | some ds => q (enumD ds) ρ1
  | none => False) x
theorem wk_enum {B : Bg} {F : List Addr} {σ : L2.St} {ρ : Env} {H : Hp} (s : Sta K B F σ ρ H) {n : Nat} {Sr : Hp → Prop} {Y : Nat → V → Prop} {ds : List D} (hn : ds.length = n) (g : ∀ F' H', Stp F H F' H' → Sr H')
    (hy : ∀ (i : Nat) x F' H' (G' : Addr → Prop), i < n → Y i x → Stp F H F' H' → (∀ a o, H a = some o → ¬ Gof F B a → ¬ G' a) → R K G' H' [x] [ds.getD i .non] []) : Wk K B F H (ItE n Sr Y) (enumD ds) := by
  have hl : (enumD ds).length = n := by simp [enumD, hn]
  refine ⟨Sr, _, by rw [hl]; exact walk_enumA, fun F' H' G' x hG dm => ⟨g F' H' x, fun i v H'' hi y => ?_⟩⟩
  rw [hl] at hi
  obtain ⟨T, xv, rfl, hT, rfl, hyx⟩ := y
  refine ⟨same_upd hT, .tup [.int (i : Nat), ds.getD i .non], ?_, ?_⟩
  · have : i < ds.length := by omega
    simp [enumD, this]
  · have r := hy i xv F' H' G' hi hyx x hG
    exact .newT hT (R.int1.cons0 r)
theorem simi_enum (ha : Sim K W false b1 ta ma) : SimI K W b1 (iEnumA K (tCons ta tNil)) (miEnum ma) := by
  intro B F σ ρ H Q q x s h k e
  refine ha B F σ ρ H _ _ x s h (fun v1 d1 ρ1 F1 H1 S1 s1 r1 m1 z1 a1 h1 => ?_) e
  have := z1 rfl; subst this
  refine ⟨v1, rfl, ?_⟩
  have cy : ∀ {ws : List V} {es : List D}, R K (Gof F1 B) H1 ws es [] → ∀ (i : Nat) x F' H' (G' : Addr → Prop), i < ws.length → ws[i]? = some x → Stp F1 H1 F' H' → (∀ a o, H1 a = some o → ¬ Gof F1 B a → ¬ G' a) → R K G' H' [x] [es.getD i .non] [] := fun {ws es} r i x F' H' G' hi hx st hG => by
    have r' : R K G' H' ws es [] := r.mono (C := fun a => a ∈ F1) (fun a o e n => st.keep a o e n) (fun a z => ⟨.inl z, s1.memF z⟩) hG (fun _ z => absurd z (by simp))
    have hd : es[i]? = some (es.getD i .non) := by
      have : i < es.length := by rw [← r.length]; exact hi
      rw [List.getD_eq_getElem?_getD, List.getElem?_eq_getElem this] <;> rfl
    obtain ⟨v', g1, g2⟩ := r'.get0 hd
    rw [hx] at g1; cases g1
    exact g2
  split at h1
  · rename_i ds hi
    unfold itemsOf at hi
    split at hi
    · cases hi
      obtain ⟨a, ws, rfl, q1, q2⟩ := r1.lstE
      have na : a ∉ F1 := by
        cases r1 with
        | «at» z _ => cases z
        | lst na _ _ _ => exact fun z => na (.inl z)
      exact .inl ⟨a, ws, rfl, SqL.of q1, k _ _ ρ1 F1 H1 s1 (wk_enum s1 q2.length.symm (fun F' H' st => SqL.of (st.keep a _ q1 na)) (cy q2)) a1 h1⟩
    · cases hi
      cases r1 with
      | «at» z _ => cases z
      | @rol a ws es _ _ S q1 q2 q3 =>
        have g : ∀ F' H', Stp F1 H1 F' H' → SqL K H' a ws := fun F' H' x => by
          rcases q1 with q1 | ⟨o, q1⟩
          · exact q1 _
          · refine .inl (.inr ⟨o, x.keep a _ q1 fun z => ?_⟩)
            have := s1.memF z
            rw [q1] at this
            exact this
        exact .inl ⟨a, ws, rfl, g F1 H1 .refl, k _ _ ρ1 F1 H1 s1 (wk_enum s1 q2.length.symm g (cy q2)) a1 h1⟩
    · cases hi
      cases r1 with
      | «at» z _ => cases z
      | @tup a ws es _ _ S q1 q2 q3 =>
        have g : ∀ F' H', Stp F1 H1 F' H' → SqT K H' a ws := fun F' H' x => by
          rcases q1 with (q1 | ⟨o, q1⟩) | q1
          · refine .inl (.inl (x.keep a _ q1 fun z => ?_))
            have := s1.memF z
            rw [q1] at this
            exact this
          · refine .inl (.inr ⟨o, x.keep a _ q1 fun z => ?_⟩)
            have := s1.memF z
            rw [q1] at this
            exact this
          · exact .inr q1
        exact .inr (.inl ⟨a, ws, rfl, g F1 H1 .refl, k _ _ ρ1 F1 H1 s1 (wk_enum s1 q2.length.symm g (cy q2)) a1 h1⟩)
    · rename_i a
      cases hi
      obtain ⟨rfl, hl⟩ := r1.str
      refine .inr (.inr ⟨_, rfl, k _ _ ρ1 F1 H1 s1 (wk_enum s1 (by simp) (fun _ _ _ => trivial) fun i x F' H' G' hi hx st hG => ?_) a1 h1⟩)
      obtain ⟨c, hc, rfl⟩ := hx
      have hc' : a[i]? = some c := by simpa using hc
      have : (a.map fun c => D.str [c]).getD i .non = .str [c] := by
        rw [List.getD_eq_getElem?_getD, List.getElem?_map, hc'] <;> rfl
      rw [this]
      exact .str1 (by rw [line_eq]; exact (by decide : 1 ≤ 16777216))
    · cases hi
  · exact h1.elim
end
end Mi
end

-- text MJ
section
set_option Elab.async false
set_option linter.all false
set_option maxRecDepth 100000
set_option maxHeartbeats 4000000
/-! MJ: words for the plain part: loops and comprehensions over plain data. -/
namespace Mi
open PySem PySem.Spec PyProof.Rows L2
abbrev FE : EK := fun _ _ => False
/-- what a comprehension over ds asks behind its source -/
def LcW (mg : MGTy) (mt : MTTy) (me : METy) (vs : List Nat) (ds : List D) (ρ1 : Env) (q : List D → Env → Prop) : Prop :=
  ∃ I : Nat → List D → Env → Prop, I 0 [] ρ1 ∧
  (∀ (k : Nat) d acc ρ, ds[k]? = some d → I k acc ρ → mg d (wipeE ρ vs) (fun ρ2 => mt ρ2 (fun c ρ3 => (c = true → me ρ3 (fun e ρ4 => I (k + 1) (acc ++ [e]) (back ρ4 ρ vs)) FE) ∧ (c = false → I (k + 1) acc (back ρ3 ρ vs))) FE)) ∧
  ds.length < 16777216 ∧ ∀ acc ρ', I ds.length acc ρ' → q acc ρ'
/-- the slots stand still: a list filtered and mapped -/
theorem lc_pure {mg : MGTy} {mt : MTTy} {me : METy} {vs : List Nat} {ds : List D} {ρ1 : Env} {q : List D → Env → Prop} (g : Nat → Bool) (e : Nat → D)
    (h : ∀ (k : Nat) d, ds[k]? = some d → ∀ (A : D → Env → Prop) (B : Env → Prop), (∀ ρ4, back ρ4 ρ1 vs = ρ1 → g k = true → A (e k) ρ4) → (∀ ρ3, back ρ3 ρ1 vs = ρ1 → g k = false → B ρ3) →
      mg d (wipeE ρ1 vs) (fun ρ2 => mt ρ2 (fun c ρ3 => (c = true → me ρ3 A FE) ∧ (c = false → B ρ3)) FE))
    (hn : ds.length < 16777216) (hq : q (((List.range ds.length).filter g).map e) ρ1) : LcW mg mt me vs ds ρ1 q := by
  refine ⟨fun k acc ρ => ρ = ρ1 ∧ acc = ((List.range k).filter g).map e, ⟨rfl, rfl⟩, ?_, hn, ?_⟩
  · rintro k d acc ρ hd ⟨rfl, rfl⟩
    refine h k d hd _ _ (fun ρ4 hb hg => ⟨hb, ?_⟩) (fun ρ3 hb hg => ⟨hb, ?_⟩)
    · rw [List.range_succ, List.filter_append, List.map_append]
      simp [hg]
    · rw [List.range_succ, List.filter_append, List.map_append]
      simp [hg]
  · rintro acc ρ' ⟨rfl, rfl⟩
    exact hq
theorem lc_rng {mg : MGTy} {mt : MTTy} {me : METy} {vs : List Nat} {lo : Int} {n : Nat} {ρ1 : Env} {q : List D → Env → Prop} (g : Nat → Bool) (e : Nat → D)
    (h : ∀ (k : Nat), k < n → ∀ (A : D → Env → Prop) (B : Env → Prop), (∀ ρ4, back ρ4 ρ1 vs = ρ1 → g k = true → A (e k) ρ4) → (∀ ρ3, back ρ3 ρ1 vs = ρ1 → g k = false → B ρ3) →
      mg (.int (lo + (k : Int))) (wipeE ρ1 vs) (fun ρ2 => mt ρ2 (fun c ρ3 => (c = true → me ρ3 A FE) ∧ (c = false → B ρ3)) FE))
    (hn : n < 16777216) (hq : q (((List.range n).filter g).map e) ρ1) : LcW mg mt me vs (rngI lo n) ρ1 q := by
  have hl : (rngI lo n).length = n := by simp [rngI]
  refine lc_pure g e (fun k d hd A B hA hB => ?_) (by rw [hl]; exact hn) (by rw [hl]; exact hq)
  have hk : k < n := by
    have := (List.getElem?_eq_some_iff.mp hd).1
    omega
  have : d = .int (lo + (k : Int)) := by
    simp [rngI, hk] at hd
    exact hd.symm
  subst this
  exact h k hk A B hA hB
end Mi
namespace Mi
open PySem PySem.Spec PyProof.Rows L2
theorem rng0_get {n k : Nat} {d : D} (h : (rngI 0 n)[k]? = some d) : k < n ∧ d = .int (k : Int) := by
  have hk : k < n := by
    have := (List.getElem?_eq_some_iff.mp h).1
    simpa [rngI] using this
  refine ⟨hk, ?_⟩
  simp [rngI, hk] at h
  exact h.symm
theorem rng_get {lo : Int} {n k : Nat} {d : D} (h : (rngI lo n)[k]? = some d) : k < n ∧ d = .int (lo + (k : Int)) := by
  have hk : k < n := by
    have := (List.getElem?_eq_some_iff.mp h).1
    simpa [rngI] using this
  refine ⟨hk, ?_⟩
  simp [rngI, hk] at h
  exact h.symm
theorem rng_len {lo : Int} {n : Nat} : (rngI lo n).length = n := by simp [rngI]
theorem lc_rng0 {mg : MGTy} {mt : MTTy} {me : METy} {vs : List Nat} {n : Nat} {ρ1 : Env} {q : List D → Env → Prop} (g : Nat → Bool) (e : Nat → D)
    (h : ∀ (k : Nat), k < n → ∀ (A : D → Env → Prop) (B : Env → Prop), (∀ ρ4, back ρ4 ρ1 vs = ρ1 → g k = true → A (e k) ρ4) → (∀ ρ3, back ρ3 ρ1 vs = ρ1 → g k = false → B ρ3) →
      mg (.int (k : Int)) (wipeE ρ1 vs) (fun ρ2 => mt ρ2 (fun c ρ3 => (c = true → me ρ3 A FE) ∧ (c = false → B ρ3)) FE))
    (hn : n < 16777216) (hq : q (((List.range n).filter g).map e) ρ1) : LcW mg mt me vs (rngI 0 n) ρ1 q := by
  refine lc_pure g e (fun k d hd A B hA hB => ?_) (by rw [rng_len]; exact hn) (by rw [rng_len]; exact hq)
  obtain ⟨hk, rfl⟩ := rng0_get hd
  exact h k hk A B hA hB
theorem bd_of {j : Int} (h : -1000000 ≤ j) (h2 : j ≤ 1000000) : Bd j := ⟨by omega, by omega⟩
/-! slices -/
theorem sIx_some {n d : Nat} {i : Int} (h : 0 ≤ i) : HT.sIx n d (some i) = min i.toNat n := by
  show (if i < 0 then (i + n).toNat else min i.toNat n) = _
  rw [if_neg (by omega)]
theorem cutD_int {α : Type} {xs : List α} {i j : Int} (hi : 0 ≤ i) (hj : 0 ≤ j) : cutD xs (some i) (some j) = (xs.take j.toNat).drop i.toNat := by
  unfold cutD
  rw [sIx_some hi, sIx_some hj, List.drop_take]
  by_cases h : i.toNat ≤ xs.length
  · rw [Nat.min_eq_left h]
    by_cases h2 : j.toNat ≤ xs.length
    · rw [Nat.min_eq_left h2]
    · rw [Nat.min_eq_right (by omega), List.take_of_length_le (l := xs.drop i.toNat) (by rw [List.length_drop]; omega), List.take_of_length_le (by rw [List.length_drop]; omega)]
  · rw [show min i.toNat xs.length = xs.length from Nat.min_eq_right (by omega), List.drop_eq_nil_of_le (Nat.le_refl _), List.drop_eq_nil_of_le (i := i.toNat) (by omega)]
    simp
theorem cutD_lo {α : Type} {xs : List α} {i : Int} (hi : 0 ≤ i) : cutD xs (some i) none = xs.drop i.toNat := by
  unfold cutD
  rw [sIx_some hi]
  show (xs.drop (min i.toNat xs.length)).take (xs.length - min i.toNat xs.length) = _
  by_cases h : i.toNat ≤ xs.length
  · rw [Nat.min_eq_left h, List.take_of_length_le (by rw [List.length_drop]; exact Nat.le_refl _)]
  · rw [Nat.min_eq_right (by omega), List.drop_eq_nil_of_le (Nat.le_refl _), List.drop_eq_nil_of_le (by omega)]
    simp
theorem cutD_hi {α : Type} {xs : List α} {j : Int} (hj : 0 ≤ j) : cutD xs none (some j) = xs.take j.toNat := by
  unfold cutD
  rw [sIx_some hj]
  show (xs.drop 0).take (min j.toNat xs.length - 0) = _
  rw [List.drop_zero, Nat.sub_zero]
  by_cases h : j.toNat ≤ xs.length
  · rw [Nat.min_eq_left h]
  · rw [Nat.min_eq_right (by omega), List.take_of_length_le (Nat.le_refl _), List.take_of_length_le (by omega)]
theorem cutD_nn {α : Type} {xs : List α} {i j : Nat} : cutD xs (some (i : Int)) (some (j : Int)) = (xs.take j).drop i := by rw [cutD_int (by omega) (by omega)]; simp
theorem cutD_lon {α : Type} {xs : List α} {i : Nat} : cutD xs (some (i : Int)) none = xs.drop i := by rw [cutD_lo (by omega)]; simp
theorem cutD_hin {α : Type} {xs : List α} {j : Nat} : cutD xs none (some (j : Int)) = xs.take j := by rw [cutD_hi (by omega)]; simp
/-! subscripts -/
theorem atI_nn {α : Type} {xs : List α} {i : Nat} {x : α} (h : xs[i]? = some x) : atI xs (i : Int) = some x := atI_nat h
theorem atI_last' {α : Type} {xs : List α} {x : α} (h : xs.getLast? = some x) : atI xs (-1) = some x := by
  obtain ⟨ys, rfl⟩ : ∃ ys, xs = ys ++ [x] := by
    rw [List.getLast?_eq_some_iff] at h
    exact h
  exact atI_last _ _
end Mi
end

-- text MK
section
set_option Elab.async false
set_option linter.all false
set_option maxRecDepth 100000
set_option maxHeartbeats 4000000
/-! MK: exceptions: raise of an own class, try .. except. -/
namespace Mi
open PySem PySem.Spec PyProof.Rows L2
section
variable {K : Frg} {np : Nat → Bool} {W : WX} {vw vw1 vw2 b b1 b2 b3 : Bool} {te : TE} {ta : TA} {ma : MATy} {me : METy}
/-- a slot is emptied -/
theorem Sta.gone {B : Bg} {F : List Addr} {σ : L2.St} {ρ : Env} {H : Hp} {i : Nat} (s : Sta K B F σ ρ H) (hp : ∀ p ∈ B.pn, p.1 ≠ i) :
    ∃ F', Sta K B F' (σ.set i none) (ρ.set i none) H ∧ Stp F H F' H := by
  obtain ⟨S2, e2, S1, pm⟩ := s.env.kill i
  have e3 : E K (Gof F B) H (σ.set i none) (ρ.set i none) S2 := by
    by_cases hi : i < ρ.length
    · exact e2.setV (by simp [hi])
    · have hs : σ.length ≤ i := by rw [s.len]; omega
      rw [List.set_eq_of_length_le hs]
      exact e2
  have sub : ∀ a ∈ S2, a ∈ F := fun a z => by
    rw [pm.mem_iff]
    exact List.mem_append_right _ z
  have cv : ∀ a o, H a = some o → ¬ Gof F B a → ¬ Gof S2 B a := fun a o _ n z => by
    rcases z with z | z
    · exact n (.inl (sub a z))
    · exact n (.inr z)
  have nd := pm.nodup_iff.mp s.nd
  rw [List.nodup_append] at nd
  refine ⟨S2, ⟨e3.conv cv, nd.2.1, fun a z => s.ap a (sub a z), s.old, fun p hp' => ?_⟩, ⟨fun a o e _ => e, fun a z => .inl (sub a z), fun a o e => ⟨o, e⟩⟩⟩
  rw [List.getElem?_set_ne (Ne.symm (hp p hp'))]
  exact s.pin p hp'

/-- what the text says of a class that a clause names -/
def XCls (K : Frg) (j : Nat) (C : Addr) : Prop := PySem.W.nsIn K mainGlobals (cname j) = some (some (.ref C)) ∧ PySem.W.subIn K (.ref C) (.type "BaseException") = some true ∧ PySem.W.hasDictIn K C = true ∧ PySem.W.typeIn K (.ref C) = some (.type "type") ∧ PySem.W.subIn K (.ref C) (.ref C) = some true
theorem XCls.exm {j k : Nat} {C : Addr} {v : Value} (x : XCls K j C) (g : GoodX K k v) (hj : j < 16) : PySem.W.exmOne K v (.ref C) = some (isSub k j) := by
  obtain ⟨D, rfl, _, _, _, h⟩ := g
  exact PySem.W.exm_ref x.2.1 x.2.2.1 x.2.2.2.1 (h j C hj x.1)
theorem XCls.kit {j k : Nat} {C : Addr} {v : Value} (x : XCls K j C) (g : GoodX K k v) (hj : j < 16) : PySem.W.kitOne K v (.ref C) = some (isSub k j) := by
  have e := x.exm g hj
  unfold PySem.W.exmOne at e
  rw [if_pos (by rw [x.2.1] <;> rfl)] at e
  unfold PySem.W.kitOne
  split
  · rename_i h
    have hv : v = .ref C := by simpa using h
    obtain ⟨D, rfl, g1, _, _, hh⟩ := g
    cases hv
    have e2 := hh j C hj x.1
    unfold PySem.W.kitCls at e
    rw [← e2, x.2.2.2.2]
  · exact e
/-! ### try -/
def mTryAs (j i : Nat) (mb : MSTy) (ms : Xc → MSTy) : MSTy := fun E ρ => mb { E with ex := fun er ρ1 => match isSub er.cls j with
  | true => (match Nat.blt i ρ1.length with
    | true => ∀ c : Xc, ms c { nx := fun ρ2 => E.nx (ρ2.set i none), rt := E.rt, bk := fun ρ2 => E.bk (ρ2.set i none), ct := fun ρ2 => E.ct (ρ2.set i none), ex := fun _ _ => False } (ρ1.set i (some (.exc c er.cls er.fs)))
    | false => False)
  | false => E.ex er ρ1 } ρ
theorem ss_try_as {tb : WX → TS} {ts : Addr → Value → Option Addr → TS} {mb : MSTy} {ms : Xc → MSTy} {C : Addr} {i j : Nat} (hc : XCls K j C) (hb : ∀ W, SimS K np W (tb W) mb) (hs : ∀ c : Xc, SimS K np (fun _ _ _ _ => False) (ts c.a c.v c.d) (ms c))
    (hj : j < 16 := by decide) (hi : np i = false := by rfl) : SimS K np W (fun D σ H => tb (wAs K (.ref C) i ts W D) D σ H) (mTryAs j i mb ms) := by
  intro B F σ ρ H D E hp s h k
  refine hb _ B F σ ρ H D _ hp s h ⟨k.nx, k.rt, k.bk, k.ct, fun σ1 er ρ1 F1 H1 cls dx s1 r1 st hx => ?_⟩
  have pins : ∀ p ∈ B.pn, p.1 ≠ i := fun p z e => by
    have := hp p z
    rw [e, hi] at this
    cases this
  obtain ⟨dd, rfl, g, fv, e1, e2, e3⟩ := r1
  refine ⟨isSub er.cls j, hc.exm g hj, fun e a na => ?_, fun e => ?_⟩
  · have hx : (match isSub er.cls j with
      | true => (match Nat.blt i ρ1.length with
        | true => ∀ c : Xc, ms c { nx := fun ρ2 => E.nx (ρ2.set i none), rt := E.rt, bk := fun ρ2 => E.bk (ρ2.set i none), ct := fun ρ2 => E.ct (ρ2.set i none), ex := fun _ _ => False } (ρ1.set i (some (.exc c er.cls er.fs)))
        | false => False)
      | false => E.ex er ρ1) := hx
    rw [e] at hx
    simp only at hx
    split at hx
    · rename_i hl
      have hl' : i < ρ1.length := Nat.blt_eq.mp hl
      obtain ⟨F2, s2, st2⟩ := s1.store (v := .ref a) (d := .exc ⟨a, some dd, cls⟩ er.cls er.fs) hl' pins (R.exc (c := ⟨a, some dd, cls⟩) g rfl e1 e2 e3 .nil)
      refine hs ⟨a, some dd, cls⟩ B F2 _ _ H1 _ _ hp s2 (hx ⟨a, some dd, cls⟩) ⟨fun σ2 ρ2 F3 H3 s3 st3 e => ?_, fun v d S σ2 ρ2 F3 H3 s3 r3 n3 hS st3 e => ?_, fun σ2 ρ2 F3 H3 s3 st3 e => ?_, fun σ2 ρ2 F3 H3 s3 st3 e => ?_, fun _ _ _ _ _ _ _ _ _ _ z => z.elim⟩
      · obtain ⟨F4, s4, st4⟩ := s3.gone pins
        exact k.nx _ _ F4 H3 s4 ((st.trans st2).trans (st3.trans st4)) e
      · exact k.rt v d S σ2 ρ2 F3 H3 s3 r3 n3 (fun b z => none_back (st.trans st2) (hS b z)) ((st.trans st2).trans st3) e
      · obtain ⟨F4, s4, st4⟩ := s3.gone pins
        exact k.bk _ _ F4 H3 s4 ((st.trans st2).trans (st3.trans st4)) e
      · obtain ⟨F4, s4, st4⟩ := s3.gone pins
        exact k.ct _ _ F4 H3 s4 ((st.trans st2).trans (st3.trans st4)) e
    · exact hx.elim
  · have hx : (match isSub er.cls j with
      | true => (match Nat.blt i ρ1.length with
        | true => ∀ c : Xc, ms c { nx := fun ρ2 => E.nx (ρ2.set i none), rt := E.rt, bk := fun ρ2 => E.bk (ρ2.set i none), ct := fun ρ2 => E.ct (ρ2.set i none), ex := fun _ _ => False } (ρ1.set i (some (.exc c er.cls er.fs)))
        | false => False)
      | false => E.ex er ρ1) := hx
    rw [e] at hx
    exact k.ex σ1 er ρ1 F1 H1 cls (some dd) s1 ⟨dd, rfl, g, fv, e1, e2, e3⟩ st hx
/-- without a name -/
def mTry (j : Nat) (mb ms : MSTy) : MSTy := fun E ρ => mb { E with ex := fun er ρ1 => match isSub er.cls j with
  | true => ms { E with ex := fun _ _ => False } ρ1
  | false => E.ex er ρ1 } ρ
theorem ss_try {tb : WX → TS} {ts : Addr → Value → Option Addr → TS} {mb ms : MSTy} {C : Addr} {j : Nat} (hc : XCls K j C) (hb : ∀ W, SimS K np W (tb W) mb) (hs : ∀ c : Xc, SimS K np (fun _ _ _ _ => False) (ts c.a c.v c.d) ms)
    (hj : j < 16 := by decide) : SimS K np W (fun D σ H => tb (wMany K W D [(.ref C, ts)]) D σ H) (mTry j mb ms) := by
  intro B F σ ρ H D E hp s h k
  refine hb _ B F σ ρ H D _ hp s h ⟨k.nx, k.rt, k.bk, k.ct, fun σ1 er ρ1 F1 H1 cls dx s1 r1 st hx => ?_⟩
  obtain ⟨dd, rfl, g, fv, e1, e2, e3⟩ := r1
  have hx : (match isSub er.cls j with
    | true => ms { E with ex := fun _ _ => False } ρ1
    | false => E.ex er ρ1) := hx
  refine ⟨isSub er.cls j, hc.exm g hj, fun e a na => ?_, fun e => ?_⟩
  · rw [e] at hx
    have k' := k.aft st
    exact hs ⟨a, some dd, cls⟩ B F1 σ1 ρ1 H1 D _ hp s1 hx ⟨k'.nx, k'.rt, k'.bk, k'.ct, fun _ _ _ _ _ _ _ _ _ _ z => z.elim⟩
  · rw [e] at hx
    exact k.ex σ1 er ρ1 F1 H1 cls (some dd) s1 ⟨dd, rfl, g, fv, e1, e2, e3⟩ st hx
/-! ### raise C(e, ..) -/
/-- the promise of an __init__ that stores its parameters -/
def spI2 (K : Frg) (f1 f2 : Str) : Sp := fun vs H Q _ => ∃ (a C : Addr) (x y : V), vs = [.ref a, x, y] ∧ OexC K C ∧ PySem.W.findIn K (.ref C) f1 = some none ∧ PySem.W.findIn K (.ref C) f2 = some none ∧ H a = some (exo a C none) ∧
  ∀ d, H d = none → d ≠ a → Q .non (upd (upd (upd H d (exd d [(f1, x)])) a (exo a C (some d))) d (exd d [(f2, y), (f1, x)]))
def spI1 (K : Frg) (f1 : Str) : Sp := fun vs H Q _ => ∃ (a C : Addr) (x : V), vs = [.ref a, x] ∧ OexC K C ∧ PySem.W.findIn K (.ref C) f1 = some none ∧ H a = some (exo a C none) ∧
  ∀ d, H d = none → d ≠ a → Q .non (upd (upd H d (exd d [(f1, x)])) a (exo a C (some d)))
section
variable {P : Program} {w : World} {mg : Str → Option Value} {base : Heap}
theorem xinit2 {qual n0 f1 f2 : Str} {st : Stmt} {f : Addr} {fd : FuncData} (Fn : Fun K "__init__" qual st f fd) (S : FnScope [n0, f1, f2] [n0, f1, f2] (defScope st))
    (hb : ∀ (cdv : Value) (A : Around) (outer : List PySem.Env) (s : Shared) (H : Hp) (E : XK), PSs (cxOf (L2N.CX P w) P w K mg base [n0, f1, f2] qual (defScope st) f cdv A outer s H E) (defBody st) (tSeq (tOst K f1 (tVar 0) (tVar 1)) (tOst K f2 (tVar 0) (tVar 2)))) :
    FnOk P w K mg base (L2N.CX P w) 1 f fd [n0, f1, f2] (spI2 K f1 f2) := by
  refine okXN Fn S (fun vs H Q E h => ?_) fun cdv A outer s H vs Q E hr hsp => ⟨_, hb cdv A outer s H E, ?_⟩
  · obtain ⟨a, C, x, y, rfl, _⟩ := h
    rfl
  · obtain ⟨a, C, x, y, rfl, T, h1, h2, ea, hq⟩ := hsp
    refine ⟨x, rfl, .ref a, rfl, a, C, rfl, T, h1, .inl ⟨ea, fun d nd da => ?_⟩⟩
    refine ⟨y, rfl, .ref a, rfl, a, C, rfl, T, h2, .inr ⟨d, [(f1, x)], upd_same, ?_, by simp, hq d nd da⟩⟩
    rw [upd_ne da, upd_same]
theorem xinit1 {qual n0 f1 : Str} {st : Stmt} {f : Addr} {fd : FuncData} (Fn : Fun K "__init__" qual st f fd) (S : FnScope [n0, f1] [n0, f1] (defScope st))
    (hb : ∀ (cdv : Value) (A : Around) (outer : List PySem.Env) (s : Shared) (H : Hp) (E : XK), PSs (cxOf (L2N.CX P w) P w K mg base [n0, f1] qual (defScope st) f cdv A outer s H E) (defBody st) (tOst K f1 (tVar 0) (tVar 1))) :
    FnOk P w K mg base (L2N.CX P w) 1 f fd [n0, f1] (spI1 K f1) := by
  refine okXN Fn S (fun vs H Q E h => ?_) fun cdv A outer s H vs Q E hr hsp => ⟨_, hb cdv A outer s H E, ?_⟩
  · obtain ⟨a, C, x, rfl, _⟩ := h
    rfl
  · obtain ⟨a, C, x, rfl, T, h1, ea, hq⟩ := hsp
    exact ⟨x, rfl, .ref a, rfl, a, C, rfl, T, h1, .inl ⟨ea, fun d nd da => hq d nd da⟩⟩
end
def mRaise2 (k f1 f2 : Nat) (ma : MATy) : MSTy := fun E ρ => ma ρ (fun ds ρ1 => match ds with
  | [x, y] => E.ex ⟨k, [(f2, y), (f1, x)]⟩ ρ1
  | _ => False) E.ex
def mRaise1 (k f1 : Nat) (ma : MATy) : MSTy := fun E ρ => ma ρ (fun ds ρ1 => match ds with
  | [x] => E.ex ⟨k, [(f1, x)]⟩ ρ1
  | _ => False) E.ex
theorem ss_raise2 {C : Addr} {k f1 f2 : Nat} (T : OexC K C) (g : GoodX K k (.ref C)) (ha : SimA K W false b1 ta ma) (h1 : f1 < 4 := by decide) (h2 : f2 < 4 := by decide) :
    SimS K np W (fun _ σ H => tMkO C (spI2 K (fname f1) (fname f2)) [] ta σ H fun cls d H' => W cls d σ H') (mRaise2 k f1 f2 ma) := by
  intro B F σ ρ H D E hp s h kk
  refine ha B F σ ρ H _ _ E.ex s h (fun vs ds ρ1 F1 H1 S1 s1 r1 m1 z1 a1 hx => ?_) (kk.ex σ)
  have := z1 rfl; subst this
  split at hx
  · rename_i x y
    have hl := r1.length
    match vs, hl with
    | [vx, vy], _ =>
      have g' := g
      obtain ⟨C', e', _, _, hno, _⟩ := g'
      cases e'
      refine ⟨by simp, fun a na => ⟨a, C, vx, vy, rfl, T, hno f1 h1, hno f2 h2, upd_same, fun d nd da => ⟨rfl, d, [(fname f2, vy), (fname f1, vx)], ?_, upd_same, ?_, ?_⟩⟩⟩
      · rw [upd_ne (Ne.symm da), upd_same]
      · rw [upd_ne da] at nd; exact nd
      · have nd' : H1 d = none := by rw [upd_ne da] at nd; exact nd
        have sm : Same H1 (upd (del (upd (upd (upd (upd H1 a (exo a C none)) d (exd d [(fname f1, vx)])) a (exo a C (some d))) d (exd d [(fname f2, vy), (fname f1, vx)])) a) d (.xd [(fname f2, vy), (fname f1, vx)])) := by
          intro b o e
          have hb : b ≠ d := fun z => by rw [z, nd'] at e; cases e
          have hba : b ≠ a := fun z => by rw [z, na] at e; cases e
          rw [upd_ne hb]
          unfold del
          rw [if_neg hba, upd_ne hb, upd_ne hba, upd_ne hb, upd_ne hba]
          exact e
        obtain ⟨S1', S2', eS, rx, ry⟩ := r1.uncons
        have := List.append_eq_nil_iff.mp eS.symm
        rw [this.1] at rx
        rw [this.2] at ry
        exact kk.ex σ ⟨k, [(f2, y), (f1, x)]⟩ ρ1 F1 _ (.ref C) (some d) (s1.ext sm) ⟨d, rfl, g, [(fname f2, vy), (fname f1, vx)], upd_same, rfl, (ry.same sm).cons0 (rx.same sm)⟩ (a1.stp.trans (.same sm)) hx
  · exact hx.elim
theorem ss_raise1 {C : Addr} {k f1 : Nat} (T : OexC K C) (g : GoodX K k (.ref C)) (ha : SimA K W false b1 ta ma) (h1 : f1 < 4 := by decide) :
    SimS K np W (fun _ σ H => tMkO C (spI1 K (fname f1)) [] ta σ H fun cls d H' => W cls d σ H') (mRaise1 k f1 ma) := by
  intro B F σ ρ H D E hp s h kk
  refine ha B F σ ρ H _ _ E.ex s h (fun vs ds ρ1 F1 H1 S1 s1 r1 m1 z1 a1 hx => ?_) (kk.ex σ)
  have := z1 rfl; subst this
  split at hx
  · rename_i x
    have hl := r1.length
    match vs, hl with
    | [vx], _ =>
      have g' := g
      obtain ⟨C', e', _, _, hno, _⟩ := g'
      cases e'
      refine ⟨by simp, fun a na => ⟨a, C, vx, rfl, T, hno f1 h1, upd_same, fun d nd da => ⟨rfl, d, [(fname f1, vx)], upd_same, ?_, ?_, ?_⟩⟩⟩
      · rw [upd_ne da, upd_same]
      · rw [upd_ne da] at nd; exact nd
      · have nd' : H1 d = none := by rw [upd_ne da] at nd; exact nd
        have sm : Same H1 (upd (del (upd (upd (upd H1 a (exo a C none)) d (exd d [(fname f1, vx)])) a (exo a C (some d))) a) d (.xd [(fname f1, vx)])) := by
          intro b o e
          have hb : b ≠ d := fun z => by rw [z, nd'] at e; cases e
          have hba : b ≠ a := fun z => by rw [z, na] at e; cases e
          rw [upd_ne hb]
          unfold del
          rw [if_neg hba, upd_ne hba, upd_ne hb, upd_ne hba]
          exact e
        exact kk.ex σ ⟨k, [(f1, x)]⟩ ρ1 F1 _ (.ref C) (some d) (s1.ext sm) ⟨d, rfl, g, [(fname f1, vx)], upd_same, rfl, r1.same sm⟩ (a1.stp.trans (.same sm)) hx
  · exact hx.elim
/-! ### in the suite: error.f, isinstance(error, C) -/
def tXfs (a : Addr) (cls : Value) (d : Option Addr) (f : Str) (te : TE) (K : Frg) : TE := fun σ H Q => te σ H fun x H1 => x = .ref a ∧ ∃ (C dd : Addr) (fs : List (Str × V)) (v : V), cls = .ref C ∧ XfC K C ∧ PySem.W.findIn K (.ref C) f = some none ∧ d = some dd ∧ H1 dd = some (.xd fs) ∧ fs.lookup f = some v ∧ Q v H1
theorem pe_xfs {X : Cx} {a : Addr} {oe : Obj} {cls : Value} {d : Option Addr} {pn : List (Addr × Obj)} {e : Expr} {te : TE} {pos : Pos} {n : Str}
    (hz : Zc cls d oe) (hf : ∃ vs, oe.data = .fields vs) (he : PE (X.suite a ((a, oe) :: pn)) e te) (hb : attributeBase e n X.env (eval e X.env) = eval e X.env := by rfl) :
    PE (X.suite a ((a, oe) :: pn)) (.Attribute e n pos) (tXfs a cls d n te X.K) := by
  refine ⟨fun pins s σ H Q I h => ?_⟩
  refine attr_of hb (thn (he.run pins s σ H _ I h) fun u s1 hh => ?_)
  obtain ⟨x, H1, I1, rx, ex, C, dd, fs, v, ec, T, hno, ed, ea, l, q⟩ := hh
  subst ex
  obtain rfl : u = Value.ref a := rx
  subst ec
  subst ed
  obtain ⟨ha, _⟩ := I1.pin (a, oe) (List.mem_append_left _ List.mem_cons_self)
  obtain ⟨vs, hd⟩ := hf
  have hx : ObjOk X.prog X.w H1 s1.heap dd (.xd fs) := I1.hok dd _ ea
  obtain ⟨mA, hns, hr⟩ := hx
  obtain ⟨od, ho, hl⟩ := lookIn_ns hns
  obtain ⟨u, hu, ru⟩ := RelO.some_of (v := v) (o := mA n) (by rw [← l]; exact hr n)
  have J : PySem.W.InstAt s1.heap a oe C (some od) := ⟨ha, hz.1, by unfold PySem.W.notCls; rw [hd] <;> rfl, by rw [hz.2]; exact ho⟩
  exact HandSPX.exc_get I1.kIn J T.ga T.gg T.exC (PySem.W.findObj_own T.hdC hno rfl (by rw [hl, hu])) (handed_of ru) ⟨v, H1, I1.tok _, ru, q⟩
def mXf (c : Xc) (f : Nat) (ma : METy) : METy := fun ρ q x => ma ρ (fun d ρ1 => match d with
  | .exc c' _ fs => c' = c ∧ (match getF fs f with
    | some v => q v ρ1
    | none => False)
  | _ => False) x
theorem getF_zip {fv : List (Str × V)} {fs : List (Nat × D)} {G : Addr → Prop} {H : Hp} (hk : fv.map (·.1) = fs.map (fun p => fname p.1)) (r : R K G H (fv.map (·.2)) (fs.map (·.2)) []) {f : Nat} (hf : f < 24) {d : D} (e : getF fs f = some d) :
    ∃ v, fv.lookup (fname f) = some v ∧ R K G H [v] [d] [] := by
  induction fs generalizing fv with
  | nil => cases e
  | cons p fs ih =>
    match fv, hk with
    | (n, v) :: fv, hk =>
      simp only [List.map_cons, List.cons.injEq] at hk
      obtain ⟨S1, S2, eS, r1, r2⟩ := r.uncons
      have := List.append_eq_nil_iff.mp eS.symm
      rw [this.1] at r1
      rw [this.2] at r2
      unfold getF at e
      split at e
      · rename_i hpf
        cases e
        have hpf := Nat.eq_of_beq_eq_true hpf
        refine ⟨v, ?_, r1⟩
        rw [hk.1, hpf]
        simp [List.lookup]
      · rename_i hpf
        obtain ⟨v', h1, h2⟩ := ih hk.2 r2 e
        refine ⟨v', ?_, h2⟩
        have ne : (fname f == n) = false := by
          rw [hk.1]
          exact fname_inj hf hpf
        simp [List.lookup, ne, h1]
theorem sim_xf {c : Xc} {f : Nat} {ta : TE} {ma : METy} (ha : Sim K W vw1 b1 ta ma) (hf : f < 4 := by decide) : Sim K W false b1 (tXfs c.a c.v c.d (fname f) ta K) (mXf c f ma) := by
  intro B F σ ρ H Q q x s h k e
  refine ha B F σ ρ H _ _ x s h (fun v1 d1 ρ1 F1 H1 S1 s1 r1 m1 z1 a1 h1 => ?_) e
  split at h1
  · rename_i c' k' fs
    obtain ⟨rfl, h1⟩ := h1
    cases r1 with
    | «at» z _ => cases z
    | exc g hd hH hk r2 _ =>
      obtain ⟨C, ev, g1, g2, g3, g4⟩ := g
      split at h1
      · rename_i v hv
        obtain ⟨w, h2, h3⟩ := getF_zip hk r2 (by omega) hv
        exact ⟨rfl, C, _, _, w, ev, g1, g3 f hf, hd, hH, h2, k w v ρ1 F1 H1 [] s1 h3 (by simp) (fun _ => rfl) a1 h1⟩
      · exact h1.elim
  · exact h1.elim
/-- isinstance(e, C) -/
def mIsX (j : Nat) (c : Xc) (ma : METy) : METy := fun ρ q x => ma ρ (fun d ρ1 => match d with
  | .exc c' k _ => c' = c ∧ q (.bl (isSub k j)) ρ1
  | _ => False) x
def rIsXs (K : Frg) (a : Addr) (cls : Value) (d : Option Addr) : List V → Hp → VK → Prop := fun xs H Q => ∃ (C D dd : Addr) (fs : List (Str × V)) (b : Bool), xs = [.ref a, .ref C] ∧ cls = .ref D ∧ ExcC K D ∧ d = some dd ∧ H dd = some (.xd fs) ∧ PySem.W.kitOne K (.ref D) (.ref C) = some b ∧ Q (.bl b) H
theorem call_isXs {X : Cx} {a : Addr} {oe : Obj} {cls : Value} {d : Option Addr} {pn : List (Addr × Obj)} (hz : Zc cls d oe) (hf : ∃ vs, oe.data = .fields vs) : CallR (X.suite a ((a, oe) :: pn)) (.builtin "isinstance") (rIsXs X.K a cls d) := by
  intro pins s σ H xs us Q I r h
  obtain ⟨C, D, dd, fs, b, rfl, ec, T, ed, ea, e, q⟩ := h
  obtain ⟨u1, u2, rfl, r1, r2⟩ := vals2 r
  obtain rfl : u1 = Value.ref a := r1
  obtain rfl : u2 = Value.ref C := r2
  subst ec ed
  obtain ⟨ha, _⟩ := I.pin (a, oe) (List.mem_append.mpr (.inl List.mem_cons_self))
  obtain ⟨vs, hd⟩ := hf
  have hx : ObjOk X.prog X.w H s.heap dd (.xd fs) := I.hok dd _ ea
  obtain ⟨mA, hns, hr⟩ := hx
  obtain ⟨od, ho, hl⟩ := lookIn_ns hns
  have J : PySem.W.InstAt s.heap a oe D (some od) := ⟨ha, hz.1, by unfold PySem.W.notCls; rw [hd] <;> rfl, by rw [hz.2]; exact ho⟩
  have cl : (PySem.W.clsIn X.K D).isSome = true := by
    obtain ⟨cd, hc, _⟩ := PySem.W.any_some T.hd
    rw [hc]; rfl
  exact PySem.W.kia_one (PySem.W.kitx_exc cl T.hg T.hk T.hs T.ha T.hn T.ht T.hm) I.kIn J e (fun z => nomatch z) fun tk => ⟨.bl b, H, I.kept (t' := tk) fun _ _ z => z, rfl, q⟩
theorem sim_isX {j : Nat} {c : Xc} {C : Addr} {ta : TE} {ma : METy} (hc : XCls K j C) (ha : Sim K W vw1 b1 ta ma) (hj : j < 16 := by decide) : Sim K W false b1 (tCB (rIsXs K c.a c.v c.d) (tCons ta (tCons (tC (.ref C)) tNil))) (mIsX j c ma) := by
  intro B F σ ρ H Q q x s h k e
  refine ha B F σ ρ H _ _ x s h (fun v1 d1 ρ1 F1 H1 S1 s1 r1 m1 z1 a1 h1 => ?_) e
  split at h1
  · rename_i c' k' fs
    obtain ⟨rfl, h1⟩ := h1
    cases r1 with
    | «at» z _ => cases z
    | exc g hd hH hk r2 _ =>
      have e2 := hc.kit g hj
      obtain ⟨D, ev, g1, g2, g3, g4⟩ := g
      rw [ev] at e2
      exact ⟨C, D, _, _, _, rfl, ev, g2, hd, hH, e2, k _ _ ρ1 F1 H1 [] s1 .bl1 (by simp) (fun _ => rfl) a1 h1⟩
  · exact h1.elim
/-- a tuple constant of the main: its name -/
theorem glob_tup {X : Cx} : True := trivial
end
end Mi
end

-- text ML
section
set_option Elab.async false
set_option linter.all false
set_option maxRecDepth 100000
set_option maxHeartbeats 4000000
/-! ML: == and != at any depth, in over sequences. -/
namespace Mi
open PySem PySem.Spec PyProof.Rows L2
/-! ### data for == -/
def pyD : D → PyData
  | .non => .none
  | .bl b => .bool b
  | .int i => .int i
  | .str x => .str ⟨x.toArray⟩
  | .tup ds => .tuple (pys ds)
  | .lst ds => .list (pys ds)
  | .rol ds => .list (pys ds)
  | .mls ds => .list (pys ds)
  | _ => .none
where pys : List D → List PyData
  | [] => []
  | d :: ds => pyD d :: pys ds
/-- data of at most n levels of lists and tuples -/
def dat : Nat → D → Bool
  | _, .non => true
  | _, .bl _ => true
  | _, .int _ => true
  | _, .str x => x.all fun c => Nat.blt c 1114112
  | n + 1, .tup ds => dats n ds
  | n + 1, .lst ds => dats n ds
  | n + 1, .rol ds => dats n ds
  | n + 1, .mls ds => dats n ds
  | _, _ => false
where dats : Nat → List D → Bool
  | _, [] => true
  | n, d :: ds => dat n d && dats n ds
def lsD : D → Option (List D)
  | .lst ds => some ds
  | .rol ds => some ds
  | .mls ds => some ds
  | _ => none
def eqD : D → D → Bool
  | .non, e => (match e with
    | .non => true
    | _ => false)
  | .bl a, e => (match e with
    | .bl b => decide (a = b)
    | .int j => decide ((if a then 1 else 0) = j)
    | _ => false)
  | .int i, e => (match e with
    | .bl b => decide (i = if b then 1 else 0)
    | .int j => decide (i = j)
    | _ => false)
  | .str s, e => (match e with
    | .str t => decide (s = t)
    | _ => false)
  | .tup ds, e => (match e with
    | .tup es => eqs ds es
    | _ => false)
  | .lst ds, e => (match lsD e with
    | some es => eqs ds es
    | none => false)
  | .rol ds, e => (match lsD e with
    | some es => eqs ds es
    | none => false)
  | .mls ds, e => (match lsD e with
    | some es => eqs ds es
    | none => false)
  | _, _ => false
where eqs : List D → List D → Bool
  | [], [] => true
  | d :: ds, e :: es => eqD d e && eqs ds es
  | _, _ => false
theorem dats_iff {n : Nat} : ∀ {ds : List D}, dat.dats n ds = true ↔ ∀ d ∈ ds, dat n d = true
  | [] => by simp [dat.dats]
  | d :: ds => by
    have := dats_iff (n := n) (ds := ds)
    simp [dat.dats, this]
theorem pys_map : ∀ ds : List D, pyD.pys ds = ds.map pyD
  | [] => rfl
  | d :: ds => by rw [pyD.pys, pys_map ds, List.map_cons]
theorem dat_mono {n : Nat} : ∀ {d : D}, dat n d = true → dat (n + 1) d = true := by
  induction n with
  | zero =>
    intro d h
    cases d <;> first | (simp only [dat] at h ⊢; done) | (simp only [dat] at h ⊢; exact h) | (simp [dat] at h)
  | succ n ih =>
    intro d h
    cases d <;> first | (simp only [dat] at h ⊢; done) | (simp only [dat] at h ⊢; exact h) | (simp only [dat, dats_iff] at h ⊢; exact fun d hd => ih (h d hd)) | (simp [dat] at h)
section
variable {K : Frg} {np : Nat → Bool} {W : WX} {vw vw1 vw2 b b1 b2 b3 : Bool} {te : TE} {ta : TA} {ma : MATy} {me : METy}
theorem dp_atom {H : Hp} {v : V} {d : D} (z : Atom v d) {n : Nat} (h : dat n d = true) : Dp K H v (pyD d) ∧ (pyD d).canLay0 = true ∧ (pyD d).depth = 0 := by
  cases z with
  | non => exact ⟨.non, by simp only [pyD, PyData.canLay0], by simp only [pyD, PyData.depth]⟩
  | bl => exact ⟨.bl _, by simp only [pyD, PyData.canLay0], by simp only [pyD, PyData.depth]⟩
  | int => exact ⟨.int _, by simp only [pyD, PyData.canLay0], by simp only [pyD, PyData.depth]⟩
  | str hl =>
    refine ⟨.str _, ?_, by simp only [pyD, PyData.depth]⟩
    simp only [pyD, PyData.canLay0, PyData.strOk]
    simp only [dat, List.all_eq_true, Nat.blt_eq] at h
    simpa using h
  | cv => cases n <;> simp [dat] at h
theorem dp_of {G : Addr → Prop} {H : Hp} : ∀ n, (∀ {v d S}, R K G H [v] [d] S → dat n d = true → Dp K H v (pyD d) ∧ (pyD d).canLay0 = true ∧ (pyD d).depth ≤ n) := by
  intro n
  induction n with
  | zero =>
    intro v d S r h
    cases r with
    | «at» z _ =>
      obtain ⟨p1, p2, p3⟩ := dp_atom (K := K) (H := H) z h
      exact ⟨p1, p2, by omega⟩
    | _ => simp [dat] at h
  | succ n ih =>
    have all : ∀ {vs ds S}, R K G H vs ds S → dat.dats n ds = true → DpAll K H vs (pyD.pys ds) ∧ PyData.canLayAll0 (pyD.pys ds) = true ∧ PyData.depthAll (pyD.pys ds) ≤ n := by
      intro vs
      induction vs with
      | nil =>
        intro ds S r h
        cases r
        exact ⟨.nil, rfl, Nat.zero_le _⟩
      | cons v vs ih2 =>
        intro ds S r h
        cases ds with
        | nil => cases r
        | cons d ds =>
          obtain ⟨S1, S2, _, r1, r2⟩ := r.uncons
          simp only [dat.dats, Bool.and_eq_true] at h
          obtain ⟨p1, p2, p3⟩ := ih r1 h.1
          obtain ⟨q1, q2, q3⟩ := ih2 r2 h.2
          refine ⟨.cons p1 q1, ?_, ?_⟩
          · simp only [pyD.pys, PyData.canLayAll0, p2, q2, Bool.and_self]
          · simp only [pyD.pys, PyData.depthAll]; omega
    intro v d S r h
    cases r with
    | «at» z _ =>
      obtain ⟨p1, p2, p3⟩ := dp_atom (K := K) (H := H) z h
      exact ⟨p1, p2, by omega⟩
    | tup z r2 _ =>
      obtain ⟨p1, p2, p3⟩ := all r2 (by simpa only [dat] using h)
      exact ⟨.tup z p1, by simpa only [pyD, PyData.canLay0] using p2, by simp only [pyD, PyData.depth]; omega⟩
    | lst n z r2 _ =>
      obtain ⟨p1, p2, p3⟩ := all r2 (by simpa only [dat] using h)
      exact ⟨.lst (.inl (.inl z)) p1, by simpa only [pyD, PyData.canLay0] using p2, by simp only [pyD, PyData.depth]; omega⟩
    | rol z r2 _ =>
      obtain ⟨p1, p2, p3⟩ := all r2 (by simpa only [dat] using h)
      refine ⟨.lst ?_ p1, by simpa only [pyD, PyData.canLay0] using p2, by simp only [pyD, PyData.depth]; omega⟩
      rcases z with z | z
      · exact z H
      · exact .inl (.inr z)
    | mls z r2 _ =>
      obtain ⟨p1, p2, p3⟩ := all r2 (by simpa only [dat] using h)
      exact ⟨.lst (.inl (.inl z)) p1, by simpa only [pyD, PyData.canLay0] using p2, by simp only [pyD, PyData.depth]; omega⟩
    | _ => simp [dat] at h
theorem eqv_eq : ∀ n, ∀ {d e : D}, dat n d = true → dat n e = true → PyData.eqv (pyD d) (pyD e) = eqD d e := by
  have scal : ∀ {n : Nat} {d e : D}, dat n d = true → dat n e = true → (∀ ds es, (pyD d = .tuple ds ∧ pyD e = .tuple es ∨ pyD d = .list ds ∧ pyD e = .list es) → PyData.eqv (pyD d) (pyD e) = eqD d e) → PyData.eqv (pyD d) (pyD e) = eqD d e := by
    intro n d e h1 h2 hh
    cases d <;> cases e <;> first
      | (simp [dat] at h1; done)
      | (simp [dat] at h2; done)
      | (exact hh _ _ (.inl ⟨rfl, rfl⟩))
      | (exact hh _ _ (.inr ⟨rfl, rfl⟩))
      | (simp only [pyD, PyData.eqv, eqD, lsD]; done)
      | (simp only [pyD, PyData.eqv, eqD, lsD]; rw [Bool.eq_iff_iff]; simp; done)
  intro n
  induction n with
  | zero =>
    intro d e h1 h2
    refine scal h1 h2 fun ds es z => ?_
    rcases z with ⟨z, _⟩ | ⟨z, _⟩ <;> (cases d <;> first | (simp [pyD] at z; done) | (simp [dat] at h1))
  | succ n ih =>
    have all : ∀ {ds es : List D}, dat.dats n ds = true → dat.dats n es = true → PyData.eqvAll (pyD.pys ds) (pyD.pys es) = eqD.eqs ds es := by
      intro ds
      induction ds with
      | nil =>
        intro es _ _
        cases es <;> simp [pyD.pys, PyData.eqvAll, eqD.eqs]
      | cons d ds ih2 =>
        intro es h1 h2
        cases es with
        | nil => simp [pyD.pys, PyData.eqvAll, eqD.eqs]
        | cons e es =>
          simp only [dat.dats, Bool.and_eq_true] at h1 h2
          simp only [pyD.pys, PyData.eqvAll, eqD.eqs, ih h1.1 h2.1, ih2 h1.2 h2.2]
    intro d e h1 h2
    refine scal h1 h2 fun ds es z => ?_
    rcases z with ⟨z1, z2⟩ | ⟨z1, z2⟩
    · cases d <;> first | (simp [pyD] at z1; done) | skip
      cases e <;> first | (simp [pyD] at z2; done) | skip
      simp only [dat] at h1 h2
      simp only [pyD, PyData.eqv, eqD, all h1 h2]
    · cases d <;> first | (simp [pyD] at z1; done) | skip
      all_goals cases e <;> first | (simp [pyD] at z2; done) | skip
      all_goals simp only [dat] at h1 h2
      all_goals simp only [pyD, PyData.eqv, eqD, lsD, all h1 h2]
def fEqA : F2 := fun x y q => match feq x y with
  | some c => q (.bl c)
  | none => dat 60 x = true ∧ dat 60 y = true ∧ q (.bl (eqD x y))
def fNeA : F2 := fun x y q => match feq x y with
  | some c => q (.bl (!c))
  | none => dat 60 x = true ∧ dat 60 y = true ∧ q (.bl (!eqD x y))
theorem shaped_of {d : D} (h2 : (pyD d).canLay0 = true) (h3 : (pyD d).depth ≤ 60) : SeqAt.shaped (pyD d) = true := by
  unfold SeqAt.shaped
  rw [h2]
  simp only [Bool.true_and, decide_eq_true_eq]
  omega
theorem rs_eqA : RSim K (rOr rEq (rEqD K)) fEqA := by
  intro G H v1 v2 d1 d2 S1 S2 Q q dm r1 r2 h k
  unfold fEqA at h
  split at h
  · rename_i c e
    obtain ⟨e1, e2⟩ := feq_ok e
    obtain ⟨z1, z2⟩ := feq_val (atom_of r1 e1) (atom_of r2 e2) e
    refine .inl ⟨z1, ?_⟩
    rw [z2]
    exact k _ _ H (Same.refl _) .bl1 h
  · obtain ⟨h1, h2, h3⟩ := h
    obtain ⟨p1, p2, p3⟩ := dp_of 60 r1 h1
    obtain ⟨q1, q2, q3⟩ := dp_of 60 r2 h2
    refine .inr ⟨_, _, p1, q1, shaped_of p2 p3, shaped_of q2 q3, ?_⟩
    rw [eqv_eq 60 h1 h2]
    exact k _ _ H (Same.refl _) .bl1 h3
theorem rs_neA : RSim K (rOr rNe (rNeD K)) fNeA := by
  intro G H v1 v2 d1 d2 S1 S2 Q q dm r1 r2 h k
  unfold fNeA at h
  split at h
  · rename_i c e
    obtain ⟨e1, e2⟩ := feq_ok e
    obtain ⟨z1, z2⟩ := feq_val (atom_of r1 e1) (atom_of r2 e2) e
    refine .inl ⟨z1, ?_⟩
    rw [z2]
    exact k _ _ H (Same.refl _) .bl1 h
  · obtain ⟨h1, h2, h3⟩ := h
    obtain ⟨p1, p2, p3⟩ := dp_of 60 r1 h1
    obtain ⟨q1, q2, q3⟩ := dp_of 60 r2 h2
    refine .inr ⟨_, _, p1, q1, shaped_of p2 p3, shaped_of q2 q3, ?_⟩
    rw [eqv_eq 60 h1 h2]
    exact k _ _ H (Same.refl _) .bl1 h3
/-! ### x in xs -/
def flD : D → Bool
  | .non => true
  | .bl _ => true
  | .int _ => true
  | .str _ => true
  | _ => false
def flDs : List D → Bool
  | [] => true
  | d :: ds => flD d && flDs ds
def anyE (x : D) : List D → Bool
  | [] => false
  | d :: ds => eqD d x || anyE x ds
def fInA : F2 := fun x y q => match y with
  | .str c => (match x with
    | .str a => a ≠ [] ∧ q (.bl (isIn a c))
    | _ => False)
  | _ => (match sq y with
    | some ds => flD x = true ∧ flDs ds = true ∧ q (.bl (anyE x ds))
    | none => False)
def fNotInA : F2 := fun x y q => match y with
  | .str c => (match x with
    | .str a => a ≠ [] ∧ q (.bl (!isIn a c))
    | _ => False)
  | _ => (match sq y with
    | some ds => flD x = true ∧ flDs ds = true ∧ q (.bl (!anyE x ds))
    | none => False)
theorem flat_atom {G : Addr → Prop} {H : Hp} {v : V} {d : D} {S} (r : R K G H [v] [d] S) (h : flD d = true) : Atom v d ∧ flatV v = true := by
  cases r with
  | «at» z _ => cases z <;> first | (simp [flD] at h; done) | exact ⟨by first | exact .non | exact .bl | exact .int | exact .str (by assumption), rfl⟩
  | _ => simp [flD] at h
theorem eqV_D {v w : V} {d e : D} (z1 : Atom v d) (z2 : Atom w e) (h1 : flD d = true) (h2 : flD e = true) : eqV v w = eqD d e := by
  cases z1 <;> cases z2 <;> first
    | (simp [flD] at h1; done)
    | (simp [flD] at h2; done)
    | (simp only [eqV, eqD]; done)
    | (simp only [eqV, eqD]; rw [Bool.eq_iff_iff]; simp; done)
theorem inV_D {G : Addr → Prop} {H : Hp} {x : V} {d : D} (zx : Atom x d) (hx : flD d = true) : ∀ {ws : List V} {ds : List D} {S}, R K G H ws ds S → flDs ds = true → ws.all flatV = true ∧ inV x ws = anyE d ds := by
  intro ws
  induction ws with
  | nil => intro ds S r _; cases r; exact ⟨rfl, rfl⟩
  | cons w ws ih =>
    intro ds S r h
    cases ds with
    | nil => cases r
    | cons e ds =>
      obtain ⟨S1, S2, _, r1, r2⟩ := r.uncons
      simp only [flDs, Bool.and_eq_true] at h
      obtain ⟨p1, p2⟩ := flat_atom r1 h.1
      obtain ⟨q1, q2⟩ := ih r2 h.2
      refine ⟨by rw [List.all_cons, p2, q1]; rfl, ?_⟩
      show (w :: ws).any _ = _
      rw [List.any_cons, eqV_D p1 zx h.1 hx]
      show (eqD e d || inV x ws) = _
      rw [q2]
      rfl
theorem rs_inA : RSim K (rOr rInS (rIn K false)) fInA := by
  intro G H v1 v2 d1 d2 S1 S2 Q q dm r1 r2 h k
  unfold fInA at h
  split at h
  · split at h
    · obtain ⟨rfl, e1⟩ := r1.str
      obtain ⟨rfl, e2⟩ := r2.str
      refine .inl ⟨_, _, rfl, rfl, ?_⟩
      rw [occ_in _ _ h.1]
      exact k _ _ H (Same.refl _) .bl1 h.2
    · exact h.elim
  · split at h
    · rename_i ds hs
      obtain ⟨h1, h2, h3⟩ := h
      obtain ⟨a, ws, S1, rfl, hq, rr, _⟩ := r2.sqE hs
      obtain ⟨z, fx⟩ := flat_atom r1 h1
      obtain ⟨w1, w2⟩ := inV_D z h1 rr h2
      refine .inr ⟨a, ws, rfl, hq, fx, w1, ?_⟩
      rw [if_neg Bool.false_ne_true, w2]
      exact k _ _ H (Same.refl _) .bl1 h3
    · exact h.elim
theorem rs_notinA : RSim K (rOr rNotInS (rIn K true)) fNotInA := by
  intro G H v1 v2 d1 d2 S1 S2 Q q dm r1 r2 h k
  unfold fNotInA at h
  split at h
  · split at h
    · obtain ⟨rfl, e1⟩ := r1.str
      obtain ⟨rfl, e2⟩ := r2.str
      refine .inl ⟨_, _, rfl, rfl, ?_⟩
      rw [occ_in _ _ h.1]
      exact k _ _ H (Same.refl _) .bl1 h.2
    · exact h.elim
  · split at h
    · rename_i ds hs
      obtain ⟨h1, h2, h3⟩ := h
      obtain ⟨a, ws, S1, rfl, hq, rr, _⟩ := r2.sqE hs
      obtain ⟨z, fx⟩ := flat_atom r1 h1
      obtain ⟨w1, w2⟩ := inV_D z h1 rr h2
      refine .inr ⟨a, ws, rfl, hq, fx, w1, ?_⟩
      rw [if_pos rfl, w2]
      exact k _ _ H (Same.refl _) .bl1 h3
    · exact h.elim
theorem op_eqX {X : Cx} (hu : X.A.units + 64 < cLine) : OpR X (compareOp .Eq) (rOr rEq (rEqD X.K)) := opR_or op_eq (op_eqD hu)
theorem op_neX {X : Cx} (hu : X.A.units + 64 < cLine) : OpR X (compareOp .NotEq) (rOr rNe (rNeD X.K)) := opR_or op_ne (op_neD hu)
theorem op_inX {X : Cx} : OpR X (compareOp .In) (rOr rInS (rIn X.K false)) := opR_or op_in_str op_in_seq
theorem op_notInX {X : Cx} : OpR X (compareOp .NotIn) (rOr rNotInS (rIn X.K true)) := opR_or op_notin_str op_notIn_seq
/-! ### constants of the main: tuples of scalars -/
def kD : Value → Option D
  | .none => some .non
  | .bool b => some (.bl b)
  | .int i _ => some (.int i)
  | .str x _ => some (.str x.cps.toList)
  | _ => none
/-- at a the written part has a tuple of ds -/
def KTup (K : Frg) (a : Addr) (ds : List D) : Prop := ∃ ws, (∀ H, SqT K H a ws) ∧ ∀ G H, R K G H ws ds []
theorem ktup {a : Addr} {dd : Option Addr} {us : Array Value} {n : Nat} {sl : Array (Option Value)} {vs : List V} {ds : List D} (e : K.lookup a = some ⟨.type "tuple", dd, .seq us n, sl⟩) (hs : us.size ≤ 1000) (hv : Vals vs us.toList) (hr : ∀ G H, R K G H vs ds []) : KTup K a ds :=
  ⟨vs, fun H => .inr ⟨_, us, n, e, rfl, rfl, by rw [sizeLine_eq]; omega, hv⟩, hr⟩
theorem sim_glob {a : Addr} {ds : List D} (h : KTup K a ds) : Sim K W false true (tC (.ref a)) (mC (.tup ds)) := by
  intro B F σ ρ H Q q x s hm k e
  obtain ⟨ws, h1, h2⟩ := h
  exact k _ _ ρ F H [] s (.tup (h1 H) (h2 _ H) .nil) (by simp) (fun _ => rfl) .refl hm
end
end Mi
end

-- text MO
section
set_option Elab.async false
set_option linter.all false
set_option maxRecDepth 100000
set_option maxHeartbeats 4000000
/-! MO: the text's classes of exceptions. -/
namespace Mi
open PySem PySem.Spec PyProof.Rows L2
/-- an own exception class whose __init__ stores its parameters; it may be raised -/
def XOk (P : Program) (w : World) (K : Frg) (mg : Str → Option Value) (base : Heap) (k : Nat) (ps : List Str) (sp : Sp) : Prop :=
  ∃ (C fI : Addr) (fd : FuncData), mg (cname k) = some (.ref C) ∧ OexC K C ∧ GoodX K k (.ref C) ∧ PySem.W.findIn K (.ref C) "__init__" = some (some (.ref fI)) ∧ PySem.W.typeIn K (.ref fI) = some (.type "function") ∧
    FnOk P w K mg base (L2N.CX P w) 1 fI fd ps sp ∧ Binds K fd ps []
/-- what the text says of it -/
def XTx (K : Frg) (mg : Str → Option Value) (k : Nat) (qual : Str) (st : Stmt) (ps : List Str) : Prop :=
  ∃ (C fI : Addr) (fd : FuncData), mg (cname k) = some (.ref C) ∧ OexC K C ∧ GoodX K k (.ref C) ∧ PySem.W.findIn K (.ref C) "__init__" = some (some (.ref fI)) ∧ PySem.W.typeIn K (.ref fI) = some (.type "function") ∧
    Fun K "__init__" qual st fI fd ∧ ∀ us : List Value, us.length = ps.length → bindArgs fd ⟨us, []⟩ = pure (ps.zip us)
def XBs (K : Frg) (mg : Str → Option Value) (k : Nat) : Prop := ∃ C : Addr, mg (cname k) = some (.ref C) ∧ XCls K k C
theorem xok_of {P : Program} {w : World} {K : Frg} {mg : Str → Option Value} {base : Heap} {k : Nat} {qual : Str} {st : Stmt} {ps : List Str} {sp : Sp} (t : XTx K mg k qual st ps) (h : ∀ f fd, Fun K "__init__" qual st f fd → FnOk P w K mg base (L2N.CX P w) 1 f fd ps sp) : XOk P w K mg base k ps sp := by
  obtain ⟨C, fI, fd, h1, h2, h3, h4, h5, F, b⟩ := t
  exact ⟨C, fI, fd, h1, h2, h3, h4, h5, h fI fd F, .all b⟩
theorem passF {P : Program} {w : World} {X : Cx} : Passes (L2N.CX P w) X (fun _ _ _ => False) := fun _ _ _ _ _ _ _ ⟨_, _, _, _, _, _, _, _, _, _, _, _, h⟩ => h.elim
/-- what K says of an exception class, fact by fact -/
theorem goodX_mk {K : Frg} {C : Addr} {k : Nat}
    (ga : PySem.W.findIn K (.ref C) "__getattribute__" = some (some (.builtin "BaseException.__getattribute__"))) (gg : PySem.W.findIn K (.ref C) "__getattr__" = some none) (ex : PySem.W.subIn K (.ref C) (.type "BaseException") = some true) (hd : PySem.W.hasDictIn K C = true)
    (hc : PySem.W.findIn K (.ref C) "__class__" = some (some (.builtin "object.__class__"))) (hn : PySem.W.specialIn K (.builtin "object.__class__") "__get__" = some (some (.builtin "getset_descriptor.__get__"))) (ht : PySem.W.takesIn K (.builtin "object.__class__") = some true) (hm : PySem.W.mroIn K C (.type "object") = some true)
    (n0 : PySem.W.findIn K (.ref C) "at" = some none) (n1 : PySem.W.findIn K (.ref C) "word" = some none) (n2 : PySem.W.findIn K (.ref C) "name" = some none) (n3 : PySem.W.findIn K (.ref C) "line" = some none)
    (sub : ∀ j CY, j < 16 → PySem.W.nsIn K mainGlobals (cname j) = some (some (.ref CY)) → PySem.W.subIn K (.ref C) (.ref CY) = some (isSub k j)) : GoodX K k (.ref C) := by
  refine ⟨C, rfl, ⟨ga, gg, ex, hd⟩, ⟨ga, gg, ex, hd, hc, hn, ht, hm⟩, fun f hf => ?_, sub⟩
  match f, hf with
  | 0, _ => exact n0
  | 1, _ => exact n1
  | 2, _ => exact n2
  | 3, _ => exact n3
/-- one class after the other: what is at number j -/
def SubAt (K : Frg) (k j : Nat) (C : Addr) : Prop := ∀ CY, PySem.W.nsIn K mainGlobals (cname j) = some (some (.ref CY)) → PySem.W.subIn K (.ref C) (.ref CY) = some (isSub k j)
theorem sub_no {K : Frg} {k j : Nat} {C : Addr} (h : PySem.W.nsIn K mainGlobals (cname j) = some none) : SubAt K k j C := fun CY e => by rw [h] at e; cases e
theorem sub_at {K : Frg} {k j : Nat} {C D : Addr} (h : PySem.W.nsIn K mainGlobals (cname j) = some (some (.ref D))) (e : PySem.W.subIn K (.ref C) (.ref D) = some (isSub k j)) : SubAt K k j C := fun CY e' => by
  rw [h] at e'; cases e'; exact e
theorem sub_all {K : Frg} {k : Nat} {C : Addr} (h0 : SubAt K k 0 C) (h1 : SubAt K k 1 C) (h2 : SubAt K k 2 C) (h3 : SubAt K k 3 C) (h4 : SubAt K k 4 C) (h5 : SubAt K k 5 C) (h6 : SubAt K k 6 C) (h7 : SubAt K k 7 C) (h8 : SubAt K k 8 C) (h9 : SubAt K k 9 C) (h10 : SubAt K k 10 C) (h11 : SubAt K k 11 C) (h12 : SubAt K k 12 C) (h13 : SubAt K k 13 C) (h14 : SubAt K k 14 C) (h15 : SubAt K k 15 C) :
    ∀ j CY, j < 16 → PySem.W.nsIn K mainGlobals (cname j) = some (some (.ref CY)) → PySem.W.subIn K (.ref C) (.ref CY) = some (isSub k j) := by
  intro j CY hj e
  match j, hj with
  | 0, _ => exact h0 CY e
  | 1, _ => exact h1 CY e
  | 2, _ => exact h2 CY e
  | 3, _ => exact h3 CY e
  | 4, _ => exact h4 CY e
  | 5, _ => exact h5 CY e
  | 6, _ => exact h6 CY e
  | 7, _ => exact h7 CY e
  | 8, _ => exact h8 CY e
  | 9, _ => exact h9 CY e
  | 10, _ => exact h10 CY e
  | 11, _ => exact h11 CY e
  | 12, _ => exact h12 CY e
  | 13, _ => exact h13 CY e
  | 14, _ => exact h14 CY e
  | 15, _ => exact h15 CY e
  | j + 16, h => exact absurd h (by omega)
theorem xbs_mk {K : Frg} {mg : Str → Option Value} {h : Heap} (X : K.In h) (G : h.Ns mainGlobals mg) {k : Nat} {C : Addr} (a : PySem.W.nsIn K mainGlobals (cname k) = some (some (.ref C))) (ex : PySem.W.subIn K (.ref C) (.type "BaseException") = some true) (hd : PySem.W.hasDictIn K C = true)
    (ty : PySem.W.typeIn K (.ref C) = some (.type "type")) (se : PySem.W.subIn K (.ref C) (.ref C) = some true) : XBs K mg k := ⟨C, PySem.W.mg_of X G a, a, ex, hd, ty, se⟩
theorem xtx_mk {K : Frg} {mg : Str → Option Value} {h : Heap} (X : K.In h) (G : h.Ns mainGlobals mg) {k : Nat} {qual : Str} {st : Stmt} {ps : List Str} {C fI : Addr} {od an : Option Addr} {sl : Array (Option Value)} {oc kV dc pm cd ct : Value}
    (hb : ∀ us : List Value, us.length = ps.length → bindArgs (PySem.W.fnOf "__init__" qual (defArgs st) (defBody st) (defScope st) .none kV dc pm an cd ct) ⟨us, []⟩ = pure (ps.zip us))
    (a : PySem.W.nsIn K mainGlobals (cname k) = some (some (.ref C))) (ox : OexC K C) (g : GoodX K k (.ref C)) (i : PySem.W.findIn K (.ref C) "__init__" = some (some (.ref fI))) (ti : PySem.W.typeIn K (.ref fI) = some (.type "function"))
    (l : K.lookup fI = some ⟨oc, od, .func (PySem.W.fnOf "__init__" qual (defArgs st) (defBody st) (defScope st) .none kV dc pm an cd ct), sl⟩) (c : PySem.W.codeIn K cd qual = true) (kp : PySem.W.keepIn K (.ref fI) = true) : XTx K mg k qual st ps :=
  ⟨C, fI, _, PySem.W.mg_of X G a, ox, g, i, ti, fun_mk l c kp, hb⟩
/-- C(e, ..) where nothing is handled -/
theorem pmk_oexN {X : Cx} {CX : CXT} {x : Str} {e : Expr} {es : List Expr} {ta : TA} {p pos : Pos} {C fI : Addr} {k : Nat} {fd : FuncData} {ps : List Str} {sp : Sp} (T : OexC X.K C) (iC : PySem.W.findIn X.K (.ref C) "__init__" = some (some (.ref fI))) (tI : PySem.W.typeIn X.K (.ref fI) = some (.type "function"))
    (F1 : FnOk X.prog X.w X.K X.mg X.base CX k fI fd ps sp) (hr : Room (k + 1) X.A) (hb : Binds X.K fd ps []) (hx : Passes CX X (fun _ _ _ => False)) (hg : Gl X x) (hm : X.mg x = some (.ref C)) (ha : PA X (e :: es) ta)
    (hdb : (x == ("__debug__" : Str)) = false := by decide) (he : starEach (e :: es) X.env = (false, eval e X.env) :: starEach es X.env := by rfl) (hpl : (backTo pos (starEach es X.env)).any (·.1) = false := by rfl) :
    L2N.PMk X (.Call (.Name x p) (e :: es) [] pos) (tMkO C sp [] ta) := by
  intro pins s σ H Q I h
  obtain ⟨nm, q, N, bs, bm, sn, sub, ab, col, dd, k0, k1, k2, k3, k5, hC, hbm⟩ := T.cls
  refine wpAny_Call_Name_kw (ld_glob I hg hm ?_ hdb)
  refine PySem.W.callWith_K (h₀ := X.base) I.ok.mod.kin T.kC (thn (ha.run pos pins s σ H _ I h) fun us s1 ⟨vs, H1, I1, r1, hz, q1⟩ => ⟨I1.kIn, ?_⟩) he hpl
  show wpAny _ _ (call (.ref C) us) _ _ _
  obtain ⟨hp, g, dr, tk, os⟩ := s1
  have hsz : hp.objs.size ≤ hp.objs.size + 1 := Nat.le_succ _
  have hn : H1 (hp.objs.size + 1) = none := I1.hok.fresh hsz
  have hq := q1 (hp.objs.size + 1) hn
  rw [List.append_nil] at hq
  have kk : ∀ b o, hp.get? b = some o → ((hp.push (PySem.W.kdv_tup us)).push (PySem.HandSPX.excO C hp.objs.size)).get? b = some o := fun b o e => Heap.get?_push_of_some _ (Heap.get?_push_of_some _ e)
  have hget : ((hp.push (PySem.W.kdv_tup us)).push (PySem.HandSPX.excO C hp.objs.size)).get? (hp.objs.size + 1) = some (PySem.HandSPX.excO C hp.objs.size) := by heap_get
  have I2 : Inv X pins σ (upd H1 (hp.objs.size + 1) (exo (hp.objs.size + 1) C none)) ⟨(hp.push (PySem.W.kdv_tup us)).push (PySem.HandSPX.excO C hp.objs.size), g, dr, tk, os⟩ :=
    I1.laid (t' := tk) (a := hp.objs.size + 1) (o := exo (hp.objs.size + 1) C none) (h' := (hp.push (PySem.W.kdv_tup us)).push (PySem.HandSPX.excO C hp.objs.size)) kk hsz (exo_ok hget)
  have r2 : Vals (V.ref (hp.objs.size + 1) :: vs) (Value.ref (hp.objs.size + 1) :: us) := .cons rfl r1
  have hl : (Value.ref (hp.objs.size + 1) :: us ++ []).length = ps.length := by
    have e := r2.length
    rw [F1.len _ _ _ _ hq] at e
    rw [List.append_nil]
    exact e.symm
  have hus : us.length ≤ sizeLine := by
    rw [← Paired.length r1, sizeLine_eq]
    omega
  have b2 := hb _ (Value.ref (hp.objs.size + 1) :: us) I2.kIn hl
  rw [List.append_nil] at b2
  refine wpAny_call (PySem.HandSPX.call_own F.excBase_ValueError (fun Y => PySem.HandSPX.refsVE_contains Y bm hbm) (I1.kIn _ _ hC) (PySem.W.looks_findIn I1.kIn iC) (fun self => PySem.W.bind_fn I1.kIn self tI) hus
    (codeAny_mono (F1.run _ X.stack _ _ ⟨Value.ref (hp.objs.size + 1) :: us, []⟩ (Value.ref (hp.objs.size + 1) :: us) _ _ (fun _ _ _ => False) (hr.make C us []) (I2.env0.make C us []) b2 r2 hq) fun r s' hq' => ?_))
  cases r with
  | error er => exact hx pins σ _ _ er s' I2 hq'
  | ok fl =>
    cases fl with
    | ret u =>
      obtain ⟨v, H2, os2, bare2, un2, hok2, rv, ev, d, fs, ea, ed, hd1, q2⟩ := hq'
      subst ev
      obtain ⟨h2, g2, d2, t2, os'⟩ := s'
      obtain ⟨t0, G, J, kG, ge, hoe, na⟩ := mk_end0 (d2 := d2) (t2 := t2) I1 hsz kk un2 hok2 os2 bare2 ea ed hd1
      refine ⟨rv, ⟨hp.objs.size + 1, _, _, ⟨G, g2, d2, t2, os'⟩, _, .ref C, some d, rfl, J, kG, ge, hoe, ⟨rfl, rfl, fun vs hv => ?_⟩, rfl, rfl, na, rfl, bare2, raises_own T.exC T.tyC, q2⟩⟩
      cases hv
      rfl
    | next => exact False.elim hq'
    | brk => exact False.elim hq'
    | cont => exact False.elim hq'
/-! ### within a suite: calls of own defs -/
theorem hotC_suite {X : Cx} {a : Addr} {oe : Obj} {cls : Value} {d : Option Addr} {pn : List (Addr × Obj)} (hz : L2N.Zn cls d oe) (hf : ∃ vs, oe.data = .fields vs) : L2H.HotC (X.suite a ((a, oe) :: pn)) := by
  obtain ⟨vs, hd⟩ := hf
  exact ⟨(a, oe), ⟨rfl, vs, hd, hz.2.2 vs hd⟩, List.mem_cons_self⟩
theorem tk_suite {X : Cx} {a : Addr} {pn : List (Addr × Obj)} : L2N.Takes (X.suite a pn) (fun _ _ _ _ => False) := fun _ _ ⟨_, _, _, _, _, _, _, _, _, _, _, _, _, _, _, _, w⟩ => w.elim
theorem takes0N {X : Cx} : L2N.Takes X (fun _ _ _ _ => False) := fun _ _ ⟨_, _, _, _, _, _, _, _, _, _, _, _, _, _, _, _, w⟩ => w.elim
theorem fn_okH {P : Program} {w : World} {K : Frg} {mg : Str → Option Value} {base : Heap} {x qual : Str} {st : Stmt} {f : Addr} {fd : FuncData} {N ps : List Str} {k : Nat} (ms : List Bool) (spec : FS) (Fn : Fun K x qual st f fd) (S : FnScope N ps (defScope st)) (hms : ms.length = ps.length := by rfl)
    (hb : ∀ (cdv : Value) (A : Around) (outer : List PySem.Env) (s : Shared) (H : Hp) (E : XK) (p : Addr × Obj), L2H.Hot1 A p → L2H.RoomH k (A.deeper (envOfC qual (defScope st) s.heap.objs.size f cdv)) →
      ∃ ts t, PSs (L2H.cxH (L2N.CX P w) P w K mg base N qual (defScope st) f cdv A outer s H E p) (defBody st) ts ∧ SimS K (npOf ms) (fun cls d _ H' => E cls d H') ts t ∧
        ∀ ds q x, ds.length = ms.length → spec ds q x → t (endsOf ms ds q x) (ds.map some ++ List.replicate (N.length - ps.length) none)) :
    L2H.FnH P w K mg base (L2N.CX P w) (k + 1) f fd ps (spOf K ms spec) := by
  obtain ⟨oc, od, kV, doc, pm, an, cdv, ct, osl, rfl, lk, hcd⟩ := Fn.ex
  refine L2H.fn_ofH lk hcd S (spOf_len hms) fun A outer s H vs Q E p hot hr hsp => ?_
  obtain ⟨ts, t, h1, h2, h3⟩ := hb cdv A outer s H E p hot hr
  refine ⟨ts, h1, ?_⟩
  exact body_run hms h2 h3 hsp
theorem hotC_h {CX : CXT} {P : Program} {w : World} {K : Frg} {mg : Str → Option Value} {base : Heap} {N : List Str} {qual : Str} {scope : Scope} {f : Addr} {cd : Value} {A : Around} {outer : List PySem.Env} {s : Shared} {H : Hp} {E : XK} {p : Addr × Obj} (h : L2H.Hot1 A p) :
    L2H.HotC (L2H.cxH CX P w K mg base N qual scope f cd A outer s H E p) := ⟨p, h, List.mem_cons_self⟩
def OkH (P : Program) (w : World) (K : Frg) (mg : Str → Option Value) (base : Heap) (x : Str) (st : Stmt) (ps : List Str) (ms : List Bool) (k : Nat) (sp : FS) : Prop :=
  ∃ f fd, mg x = some (.ref f) ∧ PySem.W.keepIn K (.ref f) = true ∧ Binds K fd ps [] ∧ (∀ us : List Value, us.length = ps.length → bindArgs fd ⟨us, []⟩ = pure (ps.zip us)) ∧ L2H.FnH P w K mg base (L2N.CX P w) k f fd ps (spOf K ms sp)
theorem okh_of {P : Program} {w : World} {K : Frg} {mg : Str → Option Value} {base : Heap} {x : Str} {st : Stmt} {ps : List Str} {ms : List Bool} {k : Nat} {sp : FS} (t : Tx K mg x st ps)
    (h : ∀ f fd, Fun K x x st f fd → L2H.FnH P w K mg base (L2N.CX P w) k f fd ps (spOf K ms sp)) : OkH P w K mg base x st ps ms k sp := by
  obtain ⟨f, fd, g, F, b⟩ := t
  exact ⟨f, fd, g, F.kp, .all b, b, h f fd F⟩
section
variable {K : Frg} {np : Nat → Bool} {W : WX} {vw vw1 b b1 : Bool} {ta : TE} {ma : METy}
/-- list(x), a new list of one's own -/
def mNewL (ma : METy) : MATy := fun ρ q x => ma ρ (fun d ρ1 => match sq d with
  | some ds => fzs ds = true ∧ q ds ρ1
  | none => False) x
theorem simn_listC (ha : Sim K W vw1 b1 ta ma) : SimN K W b1 (tCB (fun xs H Q => ∃ p ys, xs = [.ref p] ∧ (SqL K H p ys ∨ SqT K H p ys) ∧ ∀ l, H l = none → Q (.ref l) (upd H l (.lst ys))) (tCons ta tNil)) (mNewL ma) := by
  intro B F σ ρ H Q q x s h k e
  refine ha B F σ ρ H _ _ x s h (fun v d ρ1 F1 H1 S1 s1 r1 m1 z1 a1 h1 => ?_) e
  split at h1
  · rename_i ds hs
    obtain ⟨a, ws, S2, rfl, hq, rr, _⟩ := r1.sqE hs
    have := rr.fzs0 h1.1; subst this
    refine ⟨a, ws, rfl, hq, fun p hp => ?_⟩
    refine k p ws ds ρ1 F1 _ (s1.lay hp trivial) upd_same (fun z => s1.dom.new hp (.inr z)) (rr.lay hp) (a1.ext (same_upd hp)) ?_ h1.2
    cases e0 : H p with
    | none => rfl
    | some o =>
      obtain ⟨o', e1⟩ := a1.stp.dom p o e0
      rw [hp] at e1; cases e1
  · exact h1.elim
/-- x op e, x a name whose thing is read behind e -/
def mOpL (f : F2) (i : Nat) (mb : METy) : METy := fun ρ q x => match ρ[i]? with
  | some (some _) => mb ρ (fun d2 ρ2 => match ρ2[i]? with
    | some (some d1) => f d1 d2 (fun d => q d ρ2)
    | _ => False) x
  | _ => False
theorem sim_opL {r : R2} {f : F2} {i : Nat} {tb : TE} {mb : METy} (hr : RSim K r f) (hb : Sim K W vw b tb mb) : Sim K W false b (tOp r (tVar i) tb) (mOpL f i mb) := by
  intro B F σ ρ H Q q x s h k e
  unfold mOpL at h
  split at h
  · rename_i d0 e0
    obtain ⟨v, S0, h1, _, _⟩ := s.env.get e0
    refine ⟨v, h1, ?_⟩
    refine hb B F σ ρ H _ _ x s h (fun v2 d2 ρ2 F2 H2 S2 s2 r2 m2 z2 a2 q2 => ?_) e
    split at q2
    · rename_i d1 e1
      obtain ⟨v', S1, h2, r1, _⟩ := s2.env.get e1
      rw [h1] at h2
      cases h2
      exact hr _ _ _ _ _ _ _ _ _ _ s2.dom r1 r2 q2 fun v d H' sm rr qq => k v d ρ2 F2 H' [] (s2.ext sm) rr (by simp) (fun _ => rfl) (a2.ext sm) qq
    · exact q2.elim
  · exact h.elim
end
end Mi
end

-- text MP
section
set_option Elab.async false
set_option linter.all false
set_option maxRecDepth 100000
set_option maxHeartbeats 4000000
/-! MP: a < b < c <= d; more built-ins. -/
namespace Mi
open PySem PySem.Spec PyProof.Rows L2
/-- a op1 b op2 c op3 d -/
def tChain3 (r r' r3 : R2) (ta tb tc td : TE) : TE := fun σ H Q => ta σ H fun x H1 => tb σ H1 fun y H2 => r x y H2 fun z H3 => ∃ k, z = .bl k ∧
  (if k = true then tc σ H3 fun w H4 => r' y w H4 fun z' H5 => ∃ k', z' = .bl k' ∧ (if k' = true then td σ H5 fun u H6 => r3 w u H6 Q else Q (.bl false) H5) else Q (.bl false) H3)
section
variable {X : Cx} {a b c d : Expr} {pos : Pos} {ta tb tc td : TE}
theorem pe_chain3 {op op' op3 : CmpOp} {r r' r3 : R2} (ho : OpR X (compareOp op) r) (ho' : OpR X (compareOp op') r') (ho3 : OpR X (compareOp op3) r3) (ha : PE X a ta) (hb : PE X b tb) (hc : PE X c tc) (hd : PE X d td)
    (hm : lastMarks [op, op', op3] [b, c, d] = false := by with_unfolding_all rfl) : PE X (.Compare a [op, op', op3] [b, c, d] pos) (tChain3 r r' r3 ta tb tc td) := by
  refine ⟨fun pins s σ H Q I h => ?_⟩
  refine Compare_chain (thn (ha.run pins s σ H _ I h) fun v s1 ⟨x, H1, I1, r1, q1⟩ => chain_link (thn (hb.run pins s1 σ H1 _ I1 q1) fun u s2 ⟨y, H2, I2, r2, q2⟩ =>
    thn (ho pins s2 σ H2 x y v u _ I2 r1 r2 q2) fun e0 s3 ⟨z, H3, I3, r3', k, e, q3⟩ => ?_)) hm
  subst e
  cases r3'
  refine wpAny_truthy_bool ?_
  cases k with
  | false => exact ite_ff ⟨.bl false, H3, I3, rfl, q3⟩
  | true =>
    refine ite_tt (chain_link (thn (hc.run pins s3 σ H3 _ I3 q3) fun w' s4 ⟨z', H4, I4, r4, q4⟩ => thn (ho' pins s4 σ H4 y z' u w' _ I4 r2 r4 q4) fun e1 s5 ⟨z5, H5, I5, r5, k', e', q5⟩ => ?_))
    subst e'
    cases r5
    refine wpAny_truthy_bool ?_
    cases k' with
    | false => exact ite_ff ⟨.bl false, H5, I5, rfl, q5⟩
    | true => exact ite_tt (chain_last (thn (hd.run pins s5 σ H5 _ I5 q5) fun w6 s6 ⟨z6, H6, I6, r6, q6⟩ => ho3 pins s6 σ H6 z' z6 w' w6 Q I6 r4 r6 q6))
theorem pt_chain3 {op op' op3 : CmpOp} {r r' r3 : R2} (ho : OpR X (compareOp op) r) (ho' : OpR X (compareOp op') r') (ho3 : OpR X (compareOp op3) r3) (ha : PE X a ta) (hb : PE X b tb) (hc : PE X c tc) (hd : PE X d td)
    (hm : lastMarks [op, op', op3] [b, c, d] = false := by with_unfolding_all rfl) : PT X (.Compare a [op, op', op3] [b, c, d] pos) (tTest (tChain3 r r' r3 ta tb tc td)) := by
  refine ⟨fun pins s σ H Q I h => ?_⟩
  refine isTrue_chain (thn (ha.run pins s σ H _ I h) fun v s1 ⟨x, H1, I1, r1, q1⟩ => test_link (thn (hb.run pins s1 σ H1 _ I1 q1) fun u s2 ⟨y, H2, I2, r2, q2⟩ =>
    thn (ho pins s2 σ H2 x y v u _ I2 r1 r2 q2) fun e0 s3 ⟨z, H3, I3, r3', k, e, q3⟩ => ?_)) hm
  subst e
  cases r3'
  refine wpAny_truthy_bool ?_
  cases k with
  | false =>
    obtain ⟨k', e', q'⟩ := q3
    cases e'
    exact ite_ff ⟨H3, I3, q'⟩
  | true =>
    refine ite_tt (test_link (thn (hc.run pins s3 σ H3 _ I3 q3) fun w' s4 ⟨z', H4, I4, r4, q4⟩ => thn (ho' pins s4 σ H4 y z' u w' _ I4 r2 r4 q4) fun e1 s5 ⟨z5, H5, I5, r5, k', e', q5⟩ => ?_))
    subst e'
    cases r5
    refine wpAny_truthy_bool ?_
    cases k' with
    | false =>
      obtain ⟨k', e', q'⟩ := q5
      cases e'
      exact ite_ff ⟨H5, I5, q'⟩
    | true =>
      refine ite_tt (test_last (thn (hd.run pins s5 σ H5 _ I5 q5) fun w6 s6 ⟨z6, H6, I6, r6, q6⟩ => thn (ho3 pins s6 σ H6 z' z6 w' w6 _ I6 r4 r6 q6) fun e2 s7 ⟨z7, H7, I7, r7, k7, e7, q7⟩ => ?_))
      subst e7
      cases r7
      exact wpAny_truthy_bool ⟨H7, I7, q7⟩
end
section
variable {K : Frg} {np : Nat → Bool} {W : WX} {vw vw1 vw2 b b1 b2 b3 b4 : Bool} {te ta tb tc td : TE} {ma mb mc md : METy}
def mChain3 (f g h : F2) (ma mb mc md : METy) : METy := fun ρ q x => ma ρ (fun d1 ρ1 => mb ρ1 (fun d2 ρ2 => f d1 d2 (fun r => match r with
  | .bl c => (c = true → mc ρ2 (fun d3 ρ3 => g d2 d3 (fun r' => match r' with
    | .bl c' => (c' = true → md ρ3 (fun d4 ρ4 => h d3 d4 (fun d => q d ρ4)) x) ∧ (c' = false → q (.bl false) ρ3)
    | _ => False)) x) ∧ (c = false → q (.bl false) ρ2)
  | _ => False)) x) x
theorem sim_chain3 {r r' r3 : R2} {f g h3 : F2} (hr : RSim K r f) (hr' : RSim K r' g) (hr3 : RSim K r3 h3) (ha : Sim K W false b1 ta ma) (hb : Sim K W false b2 tb mb) (hc : Sim K W false b3 tc mc) (hd : Sim K W false b4 td md) : Sim K W false false (tChain3 r r' r3 ta tb tc td) (mChain3 f g h3 ma mb mc md) := by
  intro B F σ ρ H Q q x s h k e
  refine ha B F σ ρ H _ _ x s h (fun v1 d1 ρ1 F1 H1 S1 s1 r1 m1 z1 a1 h1 => ?_) e
  refine hb B F1 σ ρ1 H1 _ _ x s1 h1 (fun v2 d2 ρ2 F2 H2 S2 s2 r2 m2 z2 a2 h2 => ?_) (e.aft a1.stp)
  have := z1 rfl; have := z2 rfl; subst_vars
  refine hr (Gof F2 B) H2 v1 v2 d1 d2 [] [] _ _ s2.dom (r1.aftV s1 a2 (.inl rfl)) r2 h2 fun v d H' sm rv p => ?_
  have st2 := ((a1.trans a2).ext sm).stp
  split at p
  · rename_i c
    have := rv.bl; subst this
    refine ⟨c, rfl, ?_⟩
    cases c with
    | true =>
      rw [if_pos rfl]
      have s3 := s2.ext sm
      have r2' := r2.same sm
      refine hc B F2 σ ρ2 H' _ _ x s3 (p.1 rfl) (fun v3 d3 ρ3 F3 H3 S3 s4 r3 m3 z3 a3 h3 => ?_) (e.aft st2)
      have := z3 rfl; subst this
      refine hr' (Gof F3 B) H3 v2 v3 d2 d3 [] [] _ _ s4.dom (r2'.aftV s3 a3 (.inl rfl)) r3 h3 fun v d H'' sm' r p => ?_
      have st3 := st2.trans (a3.ext sm').stp
      split at p
      · rename_i c'
        have := r.bl; subst this
        refine ⟨c', rfl, ?_⟩
        cases c' with
        | true =>
          rw [if_pos rfl]
          have s5 := s4.ext sm'
          have r3' := r3.same sm'
          refine hd B F3 σ ρ3 H'' _ _ x s5 (p.1 rfl) (fun v4 d4 ρ4 F4 H4 S4 s6 r4 m4 z4 a4 h4 => ?_) (e.aft st3)
          have := z4 rfl; subst this
          refine hr3 (Gof F4 B) H4 v3 v4 d3 d4 [] [] _ _ s6.dom (r3'.aftV s5 a4 (.inl rfl)) r4 h4 fun v d H5 sm5 r p => ?_
          exact k v d ρ4 F4 H5 [] (s6.ext sm5) r (by simp) (fun _ => rfl) ⟨st3.trans (a4.ext sm5).stp, fun z => nomatch z⟩ p
        | false =>
          rw [if_neg (by decide)]
          exact k _ _ ρ3 F3 H'' [] (s4.ext sm') .bl1 (by simp) (fun _ => rfl) ⟨st3, fun z => nomatch z⟩ (p.2 rfl)
      · exact p.elim
    | false =>
      rw [if_neg (by decide)]
      exact k _ _ ρ2 F2 H' [] (s2.ext sm) .bl1 (by simp) (fun _ => rfl) ⟨st2, fun z => nomatch z⟩ (p.2 rfl)
  · exact p.elim
end
end Mi
end

-- text MQ
section
set_option Elab.async false
set_option linter.all false
set_option maxRecDepth 100000
set_option maxHeartbeats 4000000
/-! MQ: sum, any, all, max, min, sorted of a list. -/
namespace Mi
open PySem PySem.Spec PyProof.Rows L2
section
variable {K : Frg}
def lsq : D → Option (List D)
  | .lst es => some es
  | .rol es => some es
  | .mls es => some es
  | _ => none
theorem R.lsqE {G : Addr → Prop} {H : Hp} {v : V} {d : D} {S} {ds : List D} (r : R K G H [v] [d] S) (h : lsq d = some ds) : ∃ a ws S1, v = .ref a ∧ SqL K H a ws ∧ R K G H ws ds S1 := by
  cases d <;> simp only [lsq] at h <;> cases h
  · obtain ⟨a, ws, rfl, hs, rr⟩ := r.lstE
    exact ⟨a, ws, [], rfl, .inl (.inl hs), rr⟩
  · obtain ⟨a, ws, rfl, hs, rr⟩ := r.rolE
    exact ⟨a, ws, [], rfl, hs, rr⟩
  · obtain ⟨a, ws, S1, rfl, hs, rr⟩ := r.mlsE
    exact ⟨a, ws, S1, rfl, .inl (.inl hs), rr⟩
theorem R.ints {G : Addr → Prop} {H : Hp} : ∀ {ws : List V} {xs : List Int} {S}, R K G H ws (xs.map D.int) S → ws = xs.map V.int
  | [], [], _, _ => rfl
  | [], _ :: _, _, r => by cases r
  | _ :: _, [], _, r => by cases r
  | w :: ws, x :: xs, _, r => by
    obtain ⟨S1, S2, z, r1, r2⟩ := r.uncons
    have := r1.int
    subst this
    rw [R.ints r2]
    rfl
theorem R.bls {G : Addr → Prop} {H : Hp} : ∀ {ws : List V} {xs : List Bool} {S}, R K G H ws (xs.map D.bl) S → ws = xs.map V.bl
  | [], [], _, _ => rfl
  | [], _ :: _, _, r => by cases r
  | _ :: _, [], _, r => by cases r
  | w :: ws, x :: xs, _, r => by
    obtain ⟨S1, S2, z, r1, r2⟩ := r.uncons
    have := r1.bl
    subst this
    rw [R.bls r2]
    rfl
theorem R.ofInts' {G : Addr → Prop} {H : Hp} : ∀ xs : List Int, R K G H (xs.map V.int) (xs.map D.int) []
  | [] => .nil
  | x :: xs => R.cons0 .int1 (R.ofInts' xs)
def fSum : FL := fun ds q => match ds with
  | [d] => ∃ ns : List Int, lsq d = some (ns.map D.int) ∧ q (.int ns.sum)
  | _ => False
theorem cs_sum : CSim K (rSum K) fSum := by
  intro G H vs ds S Q q dm r h k
  unfold fSum at h
  split at h
  · obtain ⟨v, rfl⟩ := len1 r
    obtain ⟨ns, hd, hq⟩ := h
    obtain ⟨a, ws, S1, rfl, hs, rr⟩ := r.lsqE hd
    have := rr.ints; subst this
    exact ⟨a, ns, rfl, hs, k _ _ H (Same.refl _) .int1 hq⟩
  · exact h.elim
def fAny : FL := fun ds q => match ds with
  | [d] => ∃ bs : List Bool, lsq d = some (bs.map D.bl) ∧ q (.bl (bs.any id))
  | _ => False
def fAll : FL := fun ds q => match ds with
  | [d] => ∃ bs : List Bool, lsq d = some (bs.map D.bl) ∧ q (.bl (bs.all id))
  | _ => False
theorem cs_any : CSim K (rAny K) fAny := by
  intro G H vs ds S Q q dm r h k
  unfold fAny at h
  split at h
  · obtain ⟨v, rfl⟩ := len1 r
    obtain ⟨ns, hd, hq⟩ := h
    obtain ⟨a, ws, S1, rfl, hs, rr⟩ := r.lsqE hd
    have := rr.bls; subst this
    exact ⟨a, ns, rfl, hs, k _ _ H (Same.refl _) .bl1 hq⟩
  · exact h.elim
theorem cs_all : CSim K (rAll K) fAll := by
  intro G H vs ds S Q q dm r h k
  unfold fAll at h
  split at h
  · obtain ⟨v, rfl⟩ := len1 r
    obtain ⟨ns, hd, hq⟩ := h
    obtain ⟨a, ws, S1, rfl, hs, rr⟩ := r.lsqE hd
    have := rr.bls; subst this
    exact ⟨a, ns, rfl, hs, k _ _ H (Same.refl _) .bl1 hq⟩
  · exact h.elim
def fMaxL : FL := fun ds q => match ds with
  | [d] => ∃ ns : List Int, lsq d = some (ns.map D.int) ∧ 0 < ns.length ∧ ∀ m, m ∈ ns → (∀ y, y ∈ ns → y ≤ m) → q (.int m)
  | _ => False
def fMinL : FL := fun ds q => match ds with
  | [d] => ∃ ns : List Int, lsq d = some (ns.map D.int) ∧ 0 < ns.length ∧ ∀ m, m ∈ ns → (∀ y, y ∈ ns → m ≤ y) → q (.int m)
  | _ => False
theorem cs_maxL : CSim K (rMax K) fMaxL := by
  intro G H vs ds S Q q dm r h k
  unfold fMaxL at h
  split at h
  · obtain ⟨v, rfl⟩ := len1 r
    obtain ⟨ns, hd, hl, hq⟩ := h
    obtain ⟨a, ws, S1, rfl, hs, rr⟩ := r.lsqE hd
    have := rr.ints; subst this
    exact ⟨a, ns, rfl, hs, hl, fun m h1 h2 => k _ _ H (Same.refl _) .int1 (hq m h1 h2)⟩
  · exact h.elim
theorem cs_minL : CSim K (rMin K) fMinL := by
  intro G H vs ds S Q q dm r h k
  unfold fMinL at h
  split at h
  · obtain ⟨v, rfl⟩ := len1 r
    obtain ⟨ns, hd, hl, hq⟩ := h
    obtain ⟨a, ws, S1, rfl, hs, rr⟩ := r.lsqE hd
    have := rr.ints; subst this
    exact ⟨a, ns, rfl, hs, hl, fun m h1 h2 => k _ _ H (Same.refl _) .int1 (hq m h1 h2)⟩
  · exact h.elim
/-- sorted(xs), ints -/
def fSortI : FL := fun ds q => match ds with
  | [d] => ∃ ns : List Int, lsq d = some (ns.map D.int) ∧ ∀ ns' : List Int, ns'.Perm ns → ns'.Pairwise (· ≤ ·) → q (.lst (ns'.map D.int))
  | _ => False
theorem cs_sortI : CSim K (rSortedI K) fSortI := by
  intro G H vs ds S Q q dm r h k
  unfold fSortI at h
  split at h
  · obtain ⟨v, rfl⟩ := len1 r
    obtain ⟨ns, hd, hq⟩ := h
    obtain ⟨a, ws, S1, rfl, hs, rr⟩ := r.lsqE hd
    have := rr.ints; subst this
    exact ⟨a, ns, rfl, hs, fun ns' p h1 h2 hp => k _ _ _ (same_upd hp) (.newL dm hp (R.ofInts' ns')) (hq ns' h1 h2)⟩
  · exact h.elim
/-! max(xs, default=i) -/
def rMaxDf (K : Frg) : List V → List V → Hp → VK → Prop := fun vs zs H Q => ∃ (a : Addr) (ns : List Int) (i : Int), vs = [V.ref a] ∧ zs = [V.int i] ∧ SqL K H a (ns.map V.int) ∧ (ns = [] → Q (.int i) H) ∧ ∀ m, m ∈ ns → (∀ y, y ∈ ns → y ≤ m) → Q (.int m) H
theorem maxOf_mem (x : Int) : ∀ xs : List Int, PySem.W.maxOf x xs ∈ x :: xs ∧ ∀ y, y ∈ x :: xs → y ≤ PySem.W.maxOf x xs := by
  intro xs
  unfold PySem.W.maxOf
  induction xs generalizing x with
  | nil => simp
  | cons z zs ih =>
    rw [List.foldl_cons]
    have e : (if PySem.W.DatumOrd.lt x z then z else x) = max x z := by
      show (if decide (x < z) = true then z else x) = _
      by_cases h : x < z
      · rw [if_pos (decide_eq_true h)]; omega
      · rw [if_neg (by simpa using h)]; omega
    rw [e]
    obtain ⟨h1, h2⟩ := ih (max x z)
    constructor
    · rcases List.mem_cons.mp h1 with h1 | h1
      · rw [h1]
        by_cases h : x < z
        · rw [show max x z = z by omega]; simp
        · rw [show max x z = x by omega]; simp
      · simp [h1]
    · intro y hy
      have hm := h2 (max x z) List.mem_cons_self
      rcases List.mem_cons.mp hy with rfl | hy
      · omega
      · rcases List.mem_cons.mp hy with rfl | hy
        · omega
        · exact h2 y (List.mem_cons_of_mem _ hy)
theorem cr_maxDf {X : Cx} (hc : X.calm = true) (hu : X.A.units + 64 < cLine) : CallRK X (.builtin "max") [Str.ofString "default"] (rMaxDf X.K) := by
  intro pins s σ H vs zs us ws Q I r rz h
  obtain ⟨a, ns, i, rfl, rfl, hs, q0, q1⟩ := h
  obtain ⟨its, rv, hl, _⟩ := I.list hs
  obtain rfl := Vals.ref1 r
  obtain ⟨w1, rfl, e1⟩ := vals1 rz
  obtain ⟨t, rfl⟩ : ∃ t, w1 = Value.int i t := e1
  have hi := rv.ints
  refine PySem.W.max_list_datum_default (I.ok.hd hc) hl.isList (PySem.W.HoldAll.of_ints hi) (by show X.A.units + 1 + 0 < cLine; omega) (fun e h' tk hk => ?_) fun y ys j v h' tk e hj hv hk => ?_
  · exact ⟨.int i, H, I.kept hk, ⟨_, rfl⟩, q0 e⟩
  · subst e
    obtain ⟨h1, h2⟩ := maxOf_mem y ys
    have hv : ∃ t, v = Value.int (PySem.W.maxOf y ys) t := by
      obtain ⟨as, hv⟩ := hv
      cases hv
      exact ⟨_, rfl⟩
    exact ⟨.int _, H, I.kept hk, hv, q1 _ h1 h2⟩
/-- max(xs, default=i) -/
def mMaxD (ma md : MATy) : METy := fun ρ q x => ma ρ (fun ds ρ1 => md ρ1 (fun es ρ2 => match ds, es with
  | [d], [.int i] => ∃ ns : List Int, lsq d = some (ns.map D.int) ∧ (ns = [] → q (.int i) ρ2) ∧ ∀ m, m ∈ ns → (∀ y, y ∈ ns → y ≤ m) → q (.int m) ρ2
  | _, _ => False) x) x
theorem sim_maxD {W : WX} {b1 b2 : Bool} {ta tk : TA} {ma md : MATy} (ha : SimA K W vw1 b1 ta ma) (hk : SimA K W vw2 b2 tk md) (hv : (!vw1 || b2) = true := by rfl) : Sim K W false (b1 && b2) (tCKw (rMaxDf K) ta tk) (mMaxD ma md) := by
  intro B F σ ρ H Q q x s h k e
  refine ha B F σ ρ H _ _ x s h (fun vs ds ρ1 F1 H1 S1 s1 r1 m1 z1 a1 h1 => ?_) e
  refine hk B F1 σ ρ1 H1 _ _ x s1 h1 (fun zs es ρ2 F2 H2 S2 s2 r2 m2 z2 a2 h2 => ?_) (e.aft a1.stp)
  have hs : S1 = [] ∨ b2 = true := by
    cases vw1 with
    | false => exact .inl (z1 rfl)
    | true => exact .inr (by simpa using hv)
  have r1' := r1.aftV s1 a2 hs
  split at h2
  · rename_i d i
    obtain ⟨ns, hd, q0, q1⟩ := h2
    obtain ⟨v, rfl⟩ := len1 r1'
    obtain ⟨z, rfl⟩ := len1 r2
    have := r2.int; subst this
    obtain ⟨a, ws, S3, rfl, hsq, rr⟩ := r1'.lsqE hd
    have := rr.ints; subst this
    exact ⟨a, ns, i, rfl, rfl, hsq, fun e => k _ _ ρ2 F2 H2 [] s2 .int1 (by simp) (fun _ => rfl) (a1.trans a2) (q0 e), fun m h1 h2 => k _ _ ρ2 F2 H2 [] s2 .int1 (by simp) (fun _ => rfl) (a1.trans a2) (q1 m h1 h2)⟩
  · exact h2.elim
end
end Mi
namespace Mi
open PySem PySem.Spec PyProof.Rows L2
section
variable {K : Frg} {W : WX}
/-- an own list is frozen where it stands -/
theorem Sta.keep {B : Bg} {F : List Addr} {σ : L2.St} {ρ : Env} {H : Hp} {i : Nat} {ds : List D} (s : Sta K B F σ ρ H) (h : ρ[i]? = some (some (.mls ds))) (hf : fzs ds = true) :
    ∃ v F', σ[i]? = some (some v) ∧ Sta K B F' σ (ρ.set i (some (.lst ds))) H ∧ R K (Gof F' B) H [v] [.lst ds] [] ∧ Stp F H F' H := by
  obtain ⟨v, F1, h1, s1, r1, st1⟩ := s.move h hf
  have hi : i < ρ.length := (List.getElem?_eq_some_iff.mp h).1
  obtain ⟨S2, e2, pm⟩ := s1.env.put (i := i) (by simp [hi]) r1
  rw [List.nil_append] at pm
  have eσ : σ.set i (some v) = σ := by
    apply List.ext_getElem?
    intro j
    rw [List.getElem?_set]
    split
    · rename_i e
      subst e
      split
      · exact h1.symm
      · rename_i hn
        rw [List.getElem?_eq_none (by omega)]
    · rfl
  have eρ : (ρ.set i none).set i (some (.lst ds)) = ρ.set i (some (.lst ds)) := by rw [List.set_set]
  rw [eσ, eρ] at e2
  have cv : ∀ a o, H a = some o → ¬ Gof F1 B a → ¬ Gof S2 B a := fun a o _ n z => by
    rcases z with z | z
    · exact n (.inl (pm.mem_iff.mp z))
    · exact n (.inr z)
  exact ⟨v, S2, h1, ⟨e2.conv cv, pm.nodup_iff.mpr s1.nd, fun a z => s1.ap a (pm.mem_iff.mp z), s1.old, s1.pin⟩, r1.conv cv, ⟨fun a o e _ => e, fun a z => st1.fresh a (pm.mem_iff.mp z), fun a o e => ⟨o, e⟩⟩⟩
def mKeep (i : Nat) : METy := fun ρ q _ => match ρ[i]? with
  | some (some (.mls ds)) => (match fzs ds with
    | true => q (.lst ds) (ρ.set i (some (.lst ds)))
    | false => False)
  | some (some d) => (match d.fz with
    | true => q d ρ
    | false => False)
  | _ => False
theorem sim_keep {i : Nat} : Sim K W false false (tVar i) (mKeep i) := by
  intro B F σ ρ H Q q x s h k _
  unfold mKeep at h
  split at h
  · rename_i ds e
    split at h
    · rename_i hf
      obtain ⟨v, F', h1, h2, h3, h4⟩ := s.keep e hf
      exact ⟨v, h1, k v _ _ F' H [] h2 h3 (by simp) (fun _ => rfl) ⟨h4, fun z => nomatch z⟩ h⟩
    · exact h.elim
  · rename_i d _ e
    split at h
    · rename_i hf
      obtain ⟨v, S1, h1, h2, _⟩ := s.env.get e
      have := h2.fz0 hf; subst this
      exact ⟨v, h1, k v d ρ F H [] s h2 (by simp) (fun _ => rfl) .refl h⟩
    · exact h.elim
  · exact h.elim
end
end Mi
namespace Mi
open PySem PySem.Spec PyProof.Rows L2
section
variable {K : Frg}
/-- a written tuple so many times -/
def fMulT : F2 := fun x y q => match x, y with
  | .tup es, .int j => (es ≠ [] ∧ 2 ≤ j ∧ j ≤ 1000 ∧ es.length ≤ 1000) ∧ q (.tup (List.replicate j.toNat es).flatten)
  | _, _ => False
theorem rs_mulT : RSim K (rRepT K) fMulT := by
  intro G H v1 v2 d1 d2 S1 S2 Q q dm r1 r2 h k
  unfold fMulT at h
  split at h
  · rename_i es j
    obtain ⟨⟨h0, h1, h2, h3⟩, hq⟩ := h
    obtain ⟨a, ws, rfl, hs, rr⟩ := r1.tupE
    have := r2.int; subst this
    have hl := rr.length
    refine ⟨a, j, ws, rfl, rfl, hs, fun e => h0 ?_, h1, h2, by omega, fun p hp => k _ _ _ (same_upd hp) (.newT hp (rr.rep _)) hq⟩
    rw [e] at hl
    exact List.length_eq_zero_iff.mp hl.symm
  · exact h.elim
end
end Mi
namespace Mi
open PySem PySem.Spec PyProof.Rows L2
section
variable {K : Frg} {W : WX} {vw1 vw2 b1 b2 : Bool} {ta tb : TE}
/-- a list put together of two, new -/
def mCatN (ma mb : METy) : MATy := fun ρ q x => ma ρ (fun d1 ρ1 => mb ρ1 (fun d2 ρ2 => match d1, d2 with
  | .lst a, .lst c => a.length + c.length ≤ 16777216 ∧ q (a ++ c) ρ2
  | _, _ => False) x) x
theorem simn_cat {ma mb : METy} (ha : Sim K W false b1 ta ma) (hb : Sim K W false b2 tb mb) : SimN K W (b1 && b2) (tOp (rAddA K) ta tb) (mCatN ma mb) := by
  intro B F σ ρ H Q q x s h k e
  refine ha B F σ ρ H _ _ x s h (fun v1 d1 ρ1 F1 H1 S1 s1 r1 m1 z1 a1 h1 => ?_) e
  refine hb B F1 σ ρ1 H1 _ _ x s1 h1 (fun v2 d2 ρ2 F2 H2 S2 s2 r2 m2 z2 a2 h2 => ?_) (e.aft a1.stp)
  have := z1 rfl; subst this
  have := z2 rfl; subst this
  have r1' := r1.aftσ s1 a2.stp
  split at h2
  · rename_i a c
    obtain ⟨hl, hq⟩ := h2
    obtain ⟨x, ws, rfl, hx, rx⟩ := r1'.lstE
    obtain ⟨y, zs, rfl, hy, ry⟩ := r2.lstE
    refine .inr (.inr (.inl ⟨x, y, ws, zs, rfl, rfl, hx, hy, by rw [rx.length, ry.length, line_eq]; exact hl, fun p hp => ?_⟩))
    refine k p _ (a ++ c) ρ2 F2 _ (s2.lay hp trivial) upd_same (fun z => s2.dom.new hp (.inr z)) ((rx.app ry).lay hp) ((a1.trans a2).ext (same_upd hp)) ?_ hq
    cases e0 : H p with
    | none => rfl
    | some o =>
      obtain ⟨o', e1⟩ := (a1.trans a2).stp.dom p o e0
      rw [hp] at e1; cases e1
  · exact h2.elim
end
end Mi
end

-- text MR
section
set_option Elab.async false
set_option linter.all false
set_option maxRecDepth 100000
set_option maxHeartbeats 4000000
/-! MR: a try's suite, statement by statement. -/
namespace Mi
open PySem PySem.Spec PyProof.Rows L2
def Dv (np : Nat → Bool) (X : Cx) (st : Stmt) (m : MSTy) : Prop := ∃ ts : WX → TS, (∀ (W : WX) (pn : List (Addr × Obj)) (xe : Value → Shared → Prop), L2N.Takes (X.tr pn xe) W → PassesOwn (model X.prog X.w) X.A X.env xe → PS (X.tr pn xe) st (ts W)) ∧ ∀ W, SimS X.K np W (ts W) m
def Dvs (np : Nat → Bool) (X : Cx) (st : List Stmt) (m : MSTy) : Prop := ∃ ts : WX → TS, (∀ (W : WX) (pn : List (Addr × Obj)) (xe : Value → Shared → Prop), L2N.Takes (X.tr pn xe) W → PassesOwn (model X.prog X.w) X.A X.env xe → PSs (X.tr pn xe) st (ts W)) ∧ ∀ W, SimS X.K np W (ts W) m
section
variable {np : Nat → Bool} {X : Cx} {st : Stmt} {rest : List Stmt} {m M : MSTy}
theorem dv_cons (h1 : Dv np X st m) (h2 : Dvs np X rest M) : Dvs np X (st :: rest) (mSeq m M) := by
  obtain ⟨t1, p1, s1⟩ := h1
  obtain ⟨t2, p2, s2⟩ := h2
  exact ⟨fun W => tSeq (t1 W) (t2 W), fun W pn xe tk po => pss_cons (p1 W pn xe tk po) (p2 W pn xe tk po), fun W => ss_cons (s1 W) (s2 W)⟩
theorem dv_one (h1 : Dv np X st m) : Dvs np X [st] m := by
  obtain ⟨t1, p1, s1⟩ := h1
  exact ⟨t1, fun W pn xe tk po => pss_one (p1 W pn xe tk po), s1⟩
def T1 (np : Nat → Bool) (W : WX) (X : Cx) (st : Stmt) (m : MSTy) : Prop := ∃ ts : TS, PS X st ts ∧ SimS X.K np W ts m
def T2 (np : Nat → Bool) (W : WX) (X : Cx) (st : List Stmt) (m : MSTy) : Prop := ∃ ts : TS, PSs X st ts ∧ SimS X.K np W ts m
theorem t_cons {W : WX} (h1 : T1 np W X st m) (h2 : T2 np W X rest M) : T2 np W X (st :: rest) (mSeq m M) := by
  obtain ⟨t1, p1, s1⟩ := h1
  obtain ⟨t2, p2, s2⟩ := h2
  exact ⟨_, pss_cons p1 p2, ss_cons s1 s2⟩
theorem t_cut {W : WX} (h1 : T1 np W X st m) (h2 : T2 np W X rest M) : T2 np W X (st :: rest) (mSeqC m M) := by
  obtain ⟨t1, p1, s1⟩ := h1
  obtain ⟨t2, p2, s2⟩ := h2
  exact ⟨_, pss_cons p1 p2, ss_cut s1 s2⟩
theorem t_one {W : WX} (h1 : T1 np W X st m) : T2 np W X [st] m := by
  obtain ⟨t1, p1, s1⟩ := h1
  exact ⟨_, pss_one p1, s1⟩
theorem t1_arg {W : WX} {e : Expr} {b : Bool} {me : METy} (hout : ∀ te : TE, PE X e te → Sim X.K W false b te me → T1 np W X st m) (hin : ∃ te : TE, PE X e te ∧ Sim X.K W false b te me) : T1 np W X st m := by
  obtain ⟨te, p, s⟩ := hin
  exact hout te p s
theorem dv_try_as {n x : Str} {i j : Nat} {C : Addr} {Wout : WX} {body suite : List Stmt} {b₀ : Stmt} {np' pos' pos : Pos} {mb : MSTy} {ms : Xc → MSTy}
    (hs : X.stack = X.env :: X.outer) (hf : X.env.frame = some X.env.locals) (hN : X.N.Nodup) (hi : X.N[i]? = some n) (hln : X.env.kindOf n = some .local) (hc : Names X x (.ref C)) (tk : L2N.Takes X Wout) (hx : XCls X.K j C)
    (hbd : Dvs np X body mb) (hsu : ∃ ts : Addr → Value → Option Addr → TS, (∀ (a : Addr) (oe : Obj) (cls : Value) (d : Option Addr) (pn : List (Addr × Obj)), L2N.Zn cls d oe → (∃ vs, oe.data = .fields vs) → PSs (X.suite a ((a, oe) :: pn)) (b₀ :: suite) (ts a cls d)) ∧ ∀ c : Xc, SimS X.K np (fun _ _ _ _ => False) (ts c.a c.v c.d) (ms c))
    (hj : j < 16 := by decide) (hi2 : np i = false := by rfl) :
    ∃ T, PSs X [.Try body [.ExceptHandler (some (.Name x np')) (some n) (b₀ :: suite) pos'] [] [] pos] T ∧ SimS X.K np Wout T (mTryAs j i mb ms) := by
  obtain ⟨tb, hb1, hb2⟩ := hbd
  obtain ⟨ts, h1, h2⟩ := hsu
  exact ⟨_, pss_one (L2N.ps_try_as hs hf hN hi hln hc tk hb1 h1), ss_try_as hx hb2 h2 hj hi2⟩
end
end Mi
end

-- text SCn
section
set_option Elab.async false
set_option linter.all false
set_option maxRecDepth 100000
set_option maxHeartbeats 4000000
/-! SC: what the laws' helpers share: the well, plain data, _law_same. -/
namespace Lw
open PySem PySem.Spec PyProof.Rows L2 Mi
abbrev Tx := List Nat
theorem ab_tf {P : Prop} (h : true = false) : P := nomatch h
theorem ab_ft {P : Prop} (h : false = true) : P := nomatch h
def nats (l : List Nat) : List D := l.map fun (n : Nat) => D.int (n : Int)
def wellD (a c : Int) : D := .mls [.int a, .int c]
/-- plain data of at most n levels -/
def Cn : Nat → D → Prop
  | 0, _ => False
  | n + 1, d => match d with
    | .non => True
    | .bl _ => True
    | .int _ => True
    | .str _ => True
    | .tup ds => ds.length ≤ 100000 ∧ ∀ x ∈ ds, Cn n x
    | _ => False
/-- alike, types too -/
def sameD : D → D → Bool
  | .non, e => (match e with
    | .non => true
    | _ => false)
  | .bl a, e => (match e with
    | .bl b => decide (a = b)
    | _ => false)
  | .int a, e => (match e with
    | .int b => decide (a = b)
    | _ => false)
  | .str a, e => (match e with
    | .str b => decide (a = b)
    | _ => false)
  | .tup ds, e => (match e with
    | .tup es => sames ds es
    | _ => false)
  | .lst ds, e => (match e with
    | .lst es => sames ds es
    | _ => false)
  | _, _ => false
where sames : List D → List D → Bool
  | [], [] => true
  | d :: ds, e :: es => (match sameD d e with
    | true => sames ds es
    | false => false)
  | _, _ => false
theorem sames_len : ∀ {ds es : List D}, sameD.sames ds es = true → ds.length = es.length
  | [], [], _ => rfl
  | [], _ :: _, h => by simp [sameD.sames] at h
  | _ :: _, [], h => by simp [sameD.sames] at h
  | d :: ds, e :: es, h => by
    simp only [sameD.sames] at h
    split at h
    · rw [List.length_cons, List.length_cons, sames_len h]
    · cases h
theorem same_self : ∀ n, ∀ {d : D}, Cn n d → sameD d d = true := by
  intro n
  induction n with
  | zero => intro d h; exact h.elim
  | succ n ih =>
    have all : ∀ {ds : List D}, (∀ x ∈ ds, Cn n x) → sameD.sames ds ds = true := by
      intro ds
      induction ds with
      | nil => intro _; rfl
      | cons d ds ih2 =>
        intro h
        simp only [sameD.sames, ih (h d List.mem_cons_self)]
        exact ih2 fun x hx => h x (List.mem_cons_of_mem _ hx)
    intro d h
    cases d <;> first | exact h.elim | rfl | (simp [sameD]; done) | exact all h.2
/-- the told ones are the due ones -/
theorem same_eq : ∀ n, ∀ {d e : D}, Cn n e → sameD d e = true → d = e := by
  intro n
  induction n with
  | zero => intro d e h; exact h.elim
  | succ n ih =>
    have all : ∀ {ds es : List D}, (∀ x ∈ es, Cn n x) → sameD.sames ds es = true → ds = es := by
      intro ds
      induction ds with
      | nil => intro es _ h; cases es <;> simp [sameD.sames] at h ⊢
      | cons d ds ih2 =>
        intro es hc h
        cases es with
        | nil => simp [sameD.sames] at h
        | cons e es =>
          simp only [sameD.sames] at h
          split at h
          · rename_i hd
            rw [ih (hc e List.mem_cons_self) hd, ih2 (fun x hx => hc x (List.mem_cons_of_mem _ hx)) h]
          · cases h
    intro d e hc h
    cases d <;> cases e <;> first
      | exact hc.elim
      | rfl
      | (simp [sameD] at h; done)
      | (simp only [sameD, decide_eq_true_eq] at h; rw [h]; done)
      | (simp only [sameD] at h; rw [all hc.2 h])
def spSame (n : Nat) : FS := fun ds q _ => ∃ d e, ds = [d, e] ∧ (∃ m, Cn m d) ∧ Cn n e ∧ q (.bl (sameD d e)) ds
theorem spSame_zero {K : Frg} {ms : List Bool} {vs : List V} {H : Hp} {Q : VK} {E : XK} (h : spOf K ms (spSame 0) vs H Q E) : False := by
  obtain ⟨_, _, _, _, _, _, ⟨_, _, _, _, h, _⟩, _⟩ := h
  exact h
def sp__law_same : FS := spSame 6
theorem cn_up {n : Nat} : ∀ {d : D}, Cn n d → Cn (n + 1) d := by
  induction n with
  | zero => intro d h; exact h.elim
  | succ n ih =>
    intro d h
    cases d <;> first | trivial | exact h.elim | exact ⟨h.1, fun x hx => ih (h.2 x hx)⟩
theorem cn_le {n m : Nat} (h : n ≤ m) {d : D} (hd : Cn n d) : Cn m d := by
  induction h with
  | refl => exact hd
  | step _ ih => exact cn_up ih
theorem cn_fz {d : D} (h : ∃ n, Cn n d) : d.fz = true := by
  obtain ⟨n, h⟩ := h
  cases n with
  | zero => exact h.elim
  | succ n => cases d <;> first | rfl | exact h.elim
end Lw
end

-- text P07n
section
set_option Elab.async false
set_option linter.all false
set_option maxRecDepth 100000
set_option maxHeartbeats 1000000
/-! P07: heard stretches in plain Lean. -/
namespace Lw
inductive Rule where
  | elder (e : Nat) (t : Bool) (m : Int)
  | back (w : Int) (a t : Bool) (m : Int)
def mostR : Rule → Int
  | .elder _ _ m => m
  | .back _ _ _ m => m
def turnR : Rule → Bool
  | .elder _ t _ => t
  | .back _ _ t _ => t
def srcR (es : List Tx) (new : Tx) : Rule → Tx
  | .elder e _ _ => es.getD e []
  | .back _ _ _ _ => new
/-- the place that step s of a stretch of m signs is taken from -/
def plc (t : Bool) (at_ m s : Nat) : Nat := match t with
  | true => at_ + (m - 1 - s)
  | false => at_ + s
def near (i s p : Nat) : Rule → Prop
  | .elder _ _ _ => True
  | .back w a _ _ => p < i + s ∧ ((i + s : Nat) : Int) ≤ p + w ∧ (a = true → p < i)
instance (i s p : Nat) (r : Rule) : Decidable (near i s p r) := by
  cases r <;> (unfold near; infer_instance)
def giv (es : List Tx) (new : Tx) (r : Rule) (i m at_ s : Nat) : Prop :=
  plc (turnR r) at_ m s < (srcR es new r).length ∧ (srcR es new r)[plc (turnR r) at_ m s]? = new[i + s]? ∧ near i s (plc (turnR r) at_ m s) r
instance (es : List Tx) (new : Tx) (r : Rule) (i m at_ s : Nat) : Decidable (giv es new r i m at_ s) := by unfold giv; infer_instance
def givAll (es : List Tx) (new : Tx) (r : Rule) (i m at_ : Nat) : Prop := (m : Int) ≤ mostR r ∧ ∀ s, s < m → giv es new r i m at_ s
instance (es : List Tx) (new : Tx) (r : Rule) (i m at_ : Nat) : Decidable (givAll es new r i m at_) := by unfold givAll; infer_instance
def gives (es : List Tx) (new : Tx) (r : Rule) (i m at_ : Nat) : Bool := decide (givAll es new r i m at_)
def hb (es : List Tx) (new : Tx) (r : Rule) (i m : Nat) : Bool := (List.range (srcR es new r).length).any fun a => gives es new r i m a
def heard (es : List Tx) (rs : List Rule) (new : Tx) (i j : Nat) : Bool := decide (j = i + 1) || rs.any fun r => hb es new r i (j - i)
theorem hb_iff {es : List Tx} {new : Tx} {r : Rule} {i m : Nat} (hm : 0 < m) : hb es new r i m = true ↔ ∃ a, givAll es new r i m a := by
  unfold hb gives
  simp only [List.any_eq_true, List.mem_range, decide_eq_true_eq]
  constructor
  · rintro ⟨a, _, h⟩; exact ⟨a, h⟩
  · rintro ⟨a, h⟩
    refine ⟨a, ?_, h⟩
    have := (h.2 0 hm).1
    have := (h.2 (m - 1) (by omega)).1
    unfold plc at *
    split at * <;> omega
theorem giv_sub {es : List Tx} {new : Tx} {r : Rule} {i m a i' m' : Nat} (h : givAll es new r i m a) (h1 : i ≤ i') (h2 : i' + m' ≤ i + m) (hm : 0 < m') : ∃ a', givAll es new r i' m' a' := by
  cases ht : turnR r with
  | false =>
    refine ⟨a + (i' - i), by have := h.1; omega, fun s hs => ?_⟩
    have g := h.2 (i' - i + s) (by omega)
    unfold giv at g ⊢
    rw [ht] at g ⊢
    unfold plc at g ⊢
    simp only at g ⊢
    have e1 : a + (i' - i) + s = a + (i' - i + s) := by omega
    have e2 : i' + s = i + (i' - i + s) := by omega
    rw [e1, e2]
    refine ⟨g.1, g.2.1, ?_⟩
    have g3 := g.2.2
    cases r with
    | elder e t w => trivial
    | back w b t k =>
      unfold near at g3 ⊢
      rw [e2]
      exact ⟨g3.1, g3.2.1, fun hb => by have := g3.2.2 hb; omega⟩
  | true =>
    refine ⟨a + (m - m' - (i' - i)), by have := h.1; omega, fun s hs => ?_⟩
    have g := h.2 (i' - i + s) (by omega)
    unfold giv at g ⊢
    rw [ht] at g ⊢
    unfold plc at g ⊢
    simp only at g ⊢
    have e1 : a + (m - m' - (i' - i)) + (m' - 1 - s) = a + (m - 1 - (i' - i + s)) := by omega
    have e2 : i' + s = i + (i' - i + s) := by omega
    rw [e1, e2]
    refine ⟨g.1, g.2.1, ?_⟩
    have g3 := g.2.2
    cases r with
    | elder e t w => trivial
    | back w b t k =>
      unfold near at g3 ⊢
      rw [e2]
      exact ⟨g3.1, g3.2.1, fun hb => by have := g3.2.2 hb; omega⟩
theorem heard_sub {es : List Tx} {rs : List Rule} {new : Tx} {i j i' j' : Nat} (h : heard es rs new i j = true) (h1 : i ≤ i') (h2 : i' < j') (h3 : j' ≤ j) : heard es rs new i' j' = true := by
  unfold heard at h ⊢
  simp only [Bool.or_eq_true, decide_eq_true_eq, List.any_eq_true] at h ⊢
  rcases h with h | ⟨r, hr, h⟩
  · left; omega
  · right
    obtain ⟨a, ha⟩ := (hb_iff (by omega)).mp h
    obtain ⟨a', ha'⟩ := giv_sub (i' := i') (m' := j' - i') ha h1 (by omega) (by omega)
    exact ⟨r, hr, (hb_iff (by omega)).mpr ⟨a', ha'⟩⟩
/-! ### how far -/
section
variable (h : Nat → Nat → Bool) (n : Nat)
def IsR (i e : Nat) : Prop := i < e ∧ e ≤ n ∧ h i e = true ∧ (e = n ∨ h i (e + 1) = false)
def rchF (i : Nat) : Nat → Nat
  | 0 => i + 1
  | k + 1 => if rchF i k < n ∧ h i (rchF i k + 1) = true then rchF i k + 1 else rchF i k
def rch (i : Nat) : Nat := rchF h n i n
end
/-- what the law of heard stretches needs of h -/
structure Clo (h : Nat → Nat → Bool) : Prop where
  one : ∀ i, h i (i + 1) = true
  sub : ∀ {i j i' j'}, h i j = true → i ≤ i' → i' < j' → j' ≤ j → h i' j' = true
theorem clo_heard (es : List Tx) (rs : List Rule) (new : Tx) : Clo (heard es rs new) := ⟨fun i => by simp [heard], fun a b c d => heard_sub a b c d⟩
theorem isR_uniq {h : Nat → Nat → Bool} {n i e e' : Nat} (c : Clo h) (x : IsR h n i e) (y : IsR h n i e') : e = e' := by
  have key : ∀ {e e'}, IsR h n i e → IsR h n i e' → e ≤ e' := by
    intro e e' x y
    obtain ⟨x1, x2, x3, x4⟩ := x
    obtain ⟨y1, y2, y3, y4⟩ := y
    by_cases z : e ≤ e'
    · exact z
    · rcases y4 with y4 | y4
      · omega
      · have := c.sub (i' := i) (j' := e' + 1) x3 (Nat.le_refl _) (by omega) (by omega)
        rw [this] at y4
        cases y4
  exact Nat.le_antisymm (key x y) (key y x)
theorem rchF_ok {h : Nat → Nat → Bool} {n i : Nat} (c : Clo h) (hi : i < n) : ∀ k, i < rchF h n i k ∧ rchF h n i k ≤ n ∧ h i (rchF h n i k) = true ∧ ((rchF h n i k = n ∨ h i (rchF h n i k + 1) = false) ∨ i + 1 + k ≤ rchF h n i k)
  | 0 => ⟨by simp [rchF], by simp only [rchF]; omega, by simp only [rchF]; exact c.one i, .inr (by simp [rchF])⟩
  | k + 1 => by
    obtain ⟨h1, h2, h3, h4⟩ := rchF_ok c hi k
    unfold rchF
    split
    · rename_i z
      refine ⟨by omega, by omega, z.2, ?_⟩
      rcases h4 with h4 | h4
      · rcases h4 with h4 | h4
        · omega
        · rw [z.2] at h4; cases h4
      · right; omega
    · rename_i z
      refine ⟨h1, h2, h3, .inl ?_⟩
      rcases h4 with h4 | h4
      · exact h4
      · by_cases y : rchF h n i k < n
        · right
          cases q : h i (rchF h n i k + 1) with
          | false => rfl
          | true => exact absurd ⟨y, q⟩ z
        · left; omega
theorem rch_ok {h : Nat → Nat → Bool} {n i : Nat} (c : Clo h) (hi : i < n) : IsR h n i (rch h n i) := by
  obtain ⟨h1, h2, h3, h4⟩ := rchF_ok c hi n
  refine ⟨h1, h2, h3, ?_⟩
  rcases h4 with h4 | h4
  · exact h4
  · unfold rch at *
    omega
theorem rch_eq {h : Nat → Nat → Bool} {n i e : Nat} (c : Clo h) (x : IsR h n i e) : rch h n i = e := isR_uniq c (rch_ok c (by have := x.1; have := x.2.1; omega)) x
theorem heard_rch {h : Nat → Nat → Bool} {n i j : Nat} (c : Clo h) (hi : i < j) (hj : j ≤ n) : h i j = decide (j ≤ rch h n i) := by
  obtain ⟨h1, h2, h3, h4⟩ := rch_ok (n := n) c (i := i) (by omega)
  by_cases z : j ≤ rch h n i
  · rw [decide_eq_true z]
    exact c.sub h3 (Nat.le_refl _) hi z
  · rw [decide_eq_false z]
    cases q : h i j with
    | false => rfl
    | true =>
      rcases h4 with h4 | h4
      · omega
      · have := c.sub (i' := i) (j' := rch h n i + 1) q (Nat.le_refl _) (by omega) (by omega)
        rw [this] at h4
        cases h4
/-- the least unheard stretches -/
def isRow (h : Nat → Nat → Bool) (n i : Nat) : Bool := decide (rch h n i < n) && decide (rch h n i < rch h n (i + 1))
def rows (h : Nat → Nat → Bool) (n : Nat) : List (Nat × Nat) := ((List.range n).filter (isRow h n)).map fun i => (i, rch h n i + 1)
theorem row_iff {h : Nat → Nat → Bool} {n i j : Nat} (c : Clo h) (hi : i < j) (hj : j ≤ n) : (i, j) ∈ rows h n ↔ (j ≠ i + 1 ∧ h i j = false ∧ h (i + 1) j = true ∧ h i (j - 1) = true) := by
  unfold rows
  simp only [List.mem_map, List.mem_filter, List.mem_range, Prod.mk.injEq]
  constructor
  · rintro ⟨k, ⟨hk, hr⟩, rfl, rfl⟩
    unfold isRow at hr
    simp only [Bool.and_eq_true, decide_eq_true_eq] at hr
    obtain ⟨r1, r2, r3, r4⟩ := rch_ok (n := n) c hk
    refine ⟨by omega, ?_, ?_, ?_⟩
    · rcases r4 with r4 | r4
      · omega
      · exact r4
    · rw [heard_rch c (n := n) (by omega) (by omega)]
      exact decide_eq_true (by omega)
    · simpa using r3
  · rintro ⟨h0, h1, h2, h3⟩
    rw [heard_rch c (n := n) hi hj, decide_eq_false_iff_not] at h1
    rw [heard_rch c (n := n) (by omega) hj, decide_eq_true_eq] at h2
    rw [heard_rch c (n := n) (by omega) (by omega), decide_eq_true_eq] at h3
    refine ⟨i, ⟨by omega, ?_⟩, rfl, by omega⟩
    unfold isRow
    simp only [Bool.and_eq_true, decide_eq_true_eq]
    omega
end Lw
end

-- text Sp_k36
section
set_option Elab.async false
set_option linter.all false
set_option maxRecDepth 100000
set_option maxHeartbeats 4000000
namespace Lw
open PySem PySem.Spec PyProof.Rows L2 Mi
abbrev BACK : Tx := [98, 97, 99, 107]
abbrev ELDER : Tx := [101, 108, 100, 101, 114]
abbrev LONG : Tx := [108, 111, 110, 103]
abbrev MANY : Tx := [109, 97, 110, 121]
abbrev TOLD : Tx := [116, 111, 108, 100]
abbrev BADC : Tx := [66, 97, 100, 67, 97, 108, 108]
abbrev NOSU : Tx := [78, 111, 83, 117, 99, 104]
abbrev WRULE : Tx := [114, 117, 108, 101]
abbrev WWITHOUT : Tx := [119, 105, 116, 104, 111, 117, 116]
abbrev WAPP : Tx := [97, 112, 112, 101, 110, 100, 101, 100]
abbrev WEDIT : Tx := [101, 100, 105, 116, 101, 100]
abbrev STRETCH : Tx := [115, 116, 114, 101, 116, 99, 104]
def rD : Rule → D
  | .elder e t m => .tup [.str ELDER, .int (e : Int), .bl t, .int m]
  | .back w a t m => .tup [.str BACK, .int w, .bl a, .bl t, .int m]
def caseD (es : List Tx) (rs : List Rule) (new : Tx) : D := .tup [.tup (es.map D.str), .tup (rs.map rD), .str new]
def RuleOk (n : Nat) : Rule → Prop
  | .elder e _ _ => e < n
  | .back w _ _ _ => 0 ≤ w ∧ w ≤ 1000
structure CaseOk (es : List Tx) (rs : List Rule) (new : Tx) : Prop where
  he : es.length ≤ 1000
  hr : rs.length ≤ 1000
  hn : new.length ≤ 1000
  hel : ∀ e ∈ es, e.length ≤ 1000
  hru : ∀ r ∈ rs, RuleOk es.length r
abbrev reach (es : List Tx) (rs : List Rule) (new : Tx) : Nat → Nat := rch (heard es rs new) new.length
def stD (p : Nat × Nat) : D := .tup [.int (p.1 : Int), .int (p.2 : Int)]
def strOf (n : Nat) (d : D) : Option (Nat × Nat) := match d with
  | .tup [.int a, .int b] => (match decide (0 ≤ a ∧ a < b ∧ b ≤ (n : Int)) with
    | true => some (a.toNat, b.toNat)
    | false => none)
  | _ => none
def isNum : D → Bool
  | .int _ => true
  | _ => false
def sp_is_number : FS := fun ds q _ => ∃ d, ds = [d] ∧ (∃ n, Cn n d) ∧ q (.bl (isNum d)) ds
def sp_check_stretch : FS := fun ds q x => ∃ (t : Tx) (d : D), ds = [.str t, d] ∧ (∃ n, Cn n d) ∧ match strOf t.length d with
  | some (i, j) => q (.int ((j : Int) - (i : Int))) ds
  | none => x ⟨12, [(2, d), (1, .str STRETCH)]⟩ ds
def sp_is_turning : FS := fun ds q _ => ∃ r, ds = [rD r] ∧ q (.bl (turnR r)) ds
def sp__heard_by : FS := fun ds q _ => ∃ es rs new, ∃ (k i m : Nat) (r : Rule), ds = [caseD es rs new, .int (k : Int), .int (i : Int), .int (m : Int)] ∧ CaseOk es rs new ∧ rs[k]? = some r ∧ 0 < m ∧ i + m ≤ new.length ∧ q (.bl (hb es new r i m)) ds
def sp_is_heard : FS := fun ds q _ => ∃ es rs new, ∃ (i j : Nat), ds = [caseD es rs new, stD (i, j)] ∧ CaseOk es rs new ∧ i < j ∧ j ≤ new.length ∧ q (.bl (heard es rs new i j)) ds
def sp_reach_table : FS := fun ds q _ => ∃ es rs new, ds = [caseD es rs new] ∧ CaseOk es rs new ∧ q (.tup (nats ((List.range new.length).map (reach es rs new)))) ds
/-! k36 -/
def numOf (n : Nat) (d : D) : Option Nat := match d with
  | .int a => (match decide (0 ≤ a ∧ a < (n : Int)) with
    | true => some a.toNat
    | false => none)
  | _ => none
def gr (f : Nat → Nat) (n : Nat) : Nat → Nat → List Nat
  | 0, _ => []
  | k + 1, at_ => match decide (at_ < n) && decide (f at_ < n) with
    | true => f at_ :: gr f n k (f at_)
    | false => []
def st (f : Nat → Nat) (n : Nat) : Nat → Nat → Nat
  | 0, _ => 0
  | k + 1, at_ => match decide (at_ < n) with
    | true => st f n k (f at_) + 1
    | false => 0
def pcs (es : List Tx) (rs : List Rule) (new : Tx) : Nat := st (reach es rs new) new.length new.length 0
def putIn (t : Tx) (i j : Nat) (p : Tx) : Tx := t.take i ++ p ++ t.drop j
def isEl : Rule → Bool
  | .elder _ _ _ => true
  | .back _ _ _ _ => false
def wo (k : Nat) : Rule → List Rule
  | .elder e t m => (match decide (e < k) with
    | true => [.elder e t m]
    | false => (match decide (k < e) with
      | true => [.elder (e - 1) t m]
      | false => []))
  | .back w a t m => [.back w a t m]
def woD (es : List Tx) (rs : List Rule) (new : Tx) (k : Nat) : D := caseD (es.take k ++ es.drop (k + 1)) (rs.flatMap (wo k)) new
def backD (es : List Tx) (new : Tx) (k : Nat) : D := caseD [new] [.elder 0 false 300, .elder 0 true 300] (es.getD k [])
def erC (w : Tx) : Er := ⟨13, [(1, .str w)]⟩
def erN (d : D) : Er := ⟨12, [(2, d), (1, .str ELDER)]⟩
def sp_spliced : FS := fun ds q x => ∃ (t : Tx) (i j : Nat) (p : Tx), ds = [.str t, stD (i, j), .str p] ∧ t.length ≤ 1000 ∧ p.length ≤ 1000 ∧ i < j ∧ j ≤ t.length ∧ match decide (300 < (putIn t i j p).length) with
  | true => x (erC LONG) ds
  | false => q (.str (putIn t i j p)) ds
def sp_greedy_cuts : FS := fun ds q _ => ∃ es rs new, ds = [caseD es rs new] ∧ CaseOk es rs new ∧ q (.tup (nats (gr (reach es rs new) new.length new.length 0))) ds
def sp_fewest_count : FS := fun ds q _ => ∃ es rs new, ds = [caseD es rs new] ∧ CaseOk es rs new ∧ q (.int ((gr (reach es rs new) new.length new.length 0).length : Int)) ds
def sp_piece_count : FS := fun ds q _ => ∃ es rs new, ds = [caseD es rs new] ∧ CaseOk es rs new ∧ q (.int (pcs es rs new : Int)) ds
def sp_with_new : FS := fun ds q _ => ∃ es rs new t, ds = [caseD es rs new, .str t] ∧ q (caseD es rs t) ds
def sp_with_rule : FS := fun ds q x => ∃ (es : List Tx) (rs : List Rule) (new : Tx) (r : Rule), ds = [caseD es rs new, rD r] ∧ rs.length ≤ 1000 ∧ match decide (rs.length = 8) with
  | true => x (erC MANY) ds
  | false => q (caseD es (rs ++ [r]) new) ds
def sp_with_elder : FS := fun ds q x => ∃ (es : List Tx) (rs : List Rule) (new t : Tx) (b : Bool) (m : Int), ds = [caseD es rs new, .str t, .bl b, .int m] ∧ es.length ≤ 1000 ∧ rs.length ≤ 1000 ∧ match decide (es.length = 6) || decide (rs.length = 8) with
  | true => x (erC MANY) ds
  | false => q (caseD (es ++ [t]) (rs ++ [.elder es.length b m]) new) ds
def sp_without_elder : FS := fun ds q x => ∃ es rs new d, ds = [caseD es rs new, d] ∧ es.length ≤ 1000 ∧ rs.length ≤ 1000 ∧ (∃ n, Cn n d) ∧ match numOf es.length d with
  | some k => q (woD es rs new k) ds
  | none => x (erN d) ds
def sp_turned_case : FS := fun ds q _ => ∃ es rs new, ds = [caseD es rs new] ∧ es.length ≤ 1000 ∧ rs.length ≤ 1000 ∧ q (caseD (es.map List.reverse) (rs.filter isEl) new.reverse) ds
def sp_elder_case : FS := fun ds q _ => ∃ es rs new, ds = [caseD es rs new] ∧ rs.length ≤ 1000 ∧ q (caseD es (rs.filter isEl) new) ds
def sp_part_case : FS := fun ds q _ => ∃ es rs new, ∃ i j : Nat, ds = [caseD es rs new, stD (i, j)] ∧ rs.length ≤ 1000 ∧ q (caseD es (rs.filter isEl) (cutD new (some (i : Int)) (some (j : Int)))) ds
def sp_appended_case : FS := fun ds q x => ∃ es rs new t, ds = [caseD es rs new, .str t] ∧ new.length ≤ 1000 ∧ t.length ≤ 1000 ∧ match decide (300 < (new ++ t).length) with
  | true => x (erC LONG) ds
  | false => q (caseD es rs (new ++ t)) ds
def sp_edited_case : FS := fun ds q x => ∃ es rs new, ∃ i j : Nat, ∃ p, ds = [caseD es rs new, stD (i, j), .str p] ∧ new.length ≤ 1000 ∧ p.length ≤ 1000 ∧ i < j ∧ j ≤ new.length ∧ match decide (300 < (putIn new i j p).length) with
  | true => x (erC LONG) ds
  | false => q (caseD es rs (putIn new i j p)) ds
def sp_edit_effect : FS := fun ds q _ => ∃ es rs new, ∃ i j : Nat, ∃ p, ds = [caseD es rs new, stD (i, j), .str p] ∧ CaseOk es rs new ∧ p.length ≤ 1000 ∧ i < j ∧ j ≤ new.length ∧ (putIn new i j p).length ≤ 300 ∧ q (.int ((pcs es rs (putIn new i j p) : Int) - (pcs es rs new : Int))) ds
def sp_append_effect : FS := fun ds q _ => ∃ es rs new t, ds = [caseD es rs new, .str t] ∧ CaseOk es rs new ∧ t.length ≤ 1000 ∧ (new ++ t).length ≤ 300 ∧ q (.int ((pcs es rs (new ++ t) : Int) - (pcs es rs new : Int))) ds
def sp_back_case : FS := fun ds q x => ∃ es rs new d, ds = [caseD es rs new, d] ∧ es.length ≤ 1000 ∧ (∃ n, Cn n d) ∧ match numOf es.length d with
  | some k => q (backD es new k) ds
  | none => x (erN d) ds
/-- the tub: n more turns -/
def Tub (n : Nat) (d : D) : Prop := ∃ (t o p : Int) (fs : List Int), d = .mls (.int t :: .int o :: .int p :: fs.map D.int) ∧ 0 ≤ t ∧ t + n ≤ 1000000 ∧ 0 ≤ o ∧ o < 1000003 ∧ 0 ≤ p ∧ p < 999983 ∧ 0 < fs.length ∧ fs.length ≤ 1000 ∧ ∀ f ∈ fs, 0 ≤ f ∧ f < 8707
def sp__law_tub : FS := fun ds q _ => ∃ ns : List Int, ds = [.rol (ns.map D.int)] ∧ ∀ d, Tub 1000000 d → q d ds
def sp__law_dip : FS := fun ds q _ => ∃ (d : D) (n : Nat) (m : Int), ds = [d, .int m] ∧ Tub (n + 1) d ∧ 0 < m ∧ m < 2 ^ 62 ∧ ∀ v d', 0 ≤ v → v < m → Tub n d' → q (.int v) [d', .int m]
def SigOk (s : Tx) : Prop := 0 < s.length ∧ s.length ≤ 10
def sp__law_signs : FS := fun ds q _ => ∃ (d : D) (n : Nat), ds = [d] ∧ Tub (n + 10) d ∧ ∀ s d', SigOk s → Tub n d' → q (.str s) [d']
def sp__law_text : FS := fun ds q _ => ∃ (d : D) (n m : Nat) (s : Tx), ds = [d, .str s, .int (m : Int)] ∧ Tub (n + 50) d ∧ m ≤ 10 ∧ 0 < m ∧ SigOk s ∧ ∀ (t : Tx) (d' : D), t.length ≤ 10 → Tub n d' → q (.str t) [d', .str s, .int (m : Int)]
def sp__law_most : FS := fun ds q _ => ∃ (d : D) (n : Nat), ds = [d] ∧ Tub (n + 2) d ∧ ∀ v d', Tub n d' → q (.int v) [d']
def sp__law_rules : FS := fun ds q _ => ∃ (d : D) (n k e : Nat), ds = [d, .int (k : Int), .int (e : Int)] ∧ Tub (n + 100) d ∧ k ≤ 10 ∧ e ≤ 100 ∧ ∀ (rs : List Rule) (d' : D), rs.length = k → (∀ r ∈ rs, RuleOk e r) → Tub n d' → q (.tup (rs.map rD)) [d', .int (k : Int), .int (e : Int)]
def sp__law_is_source : FS := fun ds q _ => ∃ es rs new, ∃ (i j k a : Nat) (r : Rule), ds = [caseD es rs new, .int (i : Int), .int (j : Int), .int (k : Int), .int (a : Int)] ∧ CaseOk es rs new ∧ rs[k]? = some r ∧ i < j ∧ j ≤ new.length ∧ q (.bl (gives es new r i (j - i) a)) ds
def anyHb (es : List Tx) (rs : List Rule) (new : Tx) (i j : Nat) : Bool := rs.any fun r => hb es new r i (j - i)
def sp__law_source : FS := fun ds q _ => ∃ es rs new, ∃ (i j : Nat), ds = [caseD es rs new, .int (i : Int), .int (j : Int)] ∧ CaseOk es rs new ∧ i < j ∧ j ≤ new.length ∧ (anyHb es rs new i j = true → ∀ a b : Nat, q (stD (a, b)) ds) ∧ (anyHb es rs new i j = false → q .non ds)
def sp__law_reach : FS := fun ds q _ => ∃ es rs new, ds = [caseD es rs new] ∧ CaseOk es rs new ∧ q (.lst (nats ((List.range new.length).map (reach es rs new)))) ds
def sp__law_pieces : FS := sp_piece_count
def tellD (d : D) : D := .tup [.str TOLD, d]
def badD (w : Tx) : D := .tup [.str BADC, .str w]
def noD (d : D) : D := .tup [.str NOSU, .str ELDER, d]
/-- what _law_told tells -/
inductive Tells (es : List Tx) (rs : List Rule) (new : Tx) : Tx → List D → D → Prop where
  | rule (r) : Tells es rs new WRULE [rD r] (match decide (rs.length = 8) with
    | true => badD MANY
    | false => tellD (caseD es (rs ++ [r]) new))
  | elder (t b m) : Tells es rs new ELDER [.str t, .bl b, .int m] (match decide (es.length = 6) || decide (rs.length = 8) with
    | true => badD MANY
    | false => tellD (caseD (es ++ [t]) (rs ++ [.elder es.length b m]) new))
  | without (d) : Cn 3 d → Tells es rs new WWITHOUT [d] (match numOf es.length d with
    | some k => tellD (woD es rs new k)
    | none => noD d)
  | back (d) : Cn 3 d → Tells es rs new BACK [d] (match numOf es.length d with
    | some k => tellD (backD es new k)
    | none => noD d)
  | app (t) : t.length ≤ 1000 → Tells es rs new WAPP [.str t] (match decide (300 < (new ++ t).length) with
    | true => badD LONG
    | false => tellD (caseD es rs (new ++ t)))
  | edit (i j p) : p.length ≤ 1000 → i < j → j ≤ new.length → Tells es rs new WEDIT [stD (i, j), .str p] (match decide (300 < (putIn new i j p).length) with
    | true => badD LONG
    | false => tellD (caseD es rs (putIn new i j p)))
def sp__law_told : FS := fun ds q _ => ∃ es rs new w xs d, ds = [.str w, caseD es rs new, .tup xs] ∧ CaseOk es rs new ∧ Tells es rs new w xs d ∧ q d ds
def sp__law_without : FS := fun ds q _ => ∃ es rs new, ∃ k : Nat, ds = [caseD es rs new, .int (k : Int)] ∧ es.length ≤ 1000 ∧ rs.length ≤ 1000 ∧ q (woD es rs new k) ds
def sp__law_elder_rules : FS := fun ds q _ => ∃ es rs new, ds = [caseD es rs new] ∧ rs.length ≤ 1000 ∧ q (.tup ((rs.filter isEl).map rD)) ds
def sp__law_numbers_right : FS := fun ds q _ => ∃ es rs new d n, ds = [d, caseD es rs new] ∧ CaseOk es rs new ∧ Tub (n + 2) d ∧ ∀ d', Tub n d' → q (.bl true) [d', caseD es rs new]
def sp__law_more_right : FS := fun ds q _ => ∃ es rs new d n s, ds = [d, caseD es rs new, .str s] ∧ CaseOk es rs new ∧ SigOk s ∧ es.length ≤ 100 ∧ Tub (n + 200) d ∧ ∀ d', Tub n d' → q (.bl true) [d', caseD es rs new, .str s]
def sp__law_forms_right : FS := fun ds q _ => ∃ es rs new d n, ds = [d, caseD es rs new] ∧ CaseOk es rs new ∧ Tub (n + 2) d ∧ ∀ d', Tub n d' → q (.bl true) [d', caseD es rs new]
def sp__law_edits_right : FS := fun ds q _ => ∃ es rs new d n s b, ds = [d, caseD es rs new, .str s, .bl b] ∧ CaseOk es rs new ∧ SigOk s ∧ (b = true → new.length ≤ 100) ∧ Tub (n + 100) d ∧ ∀ d', Tub n d' → q (.bl true) [d', caseD es rs new, .str s, .bl b]
def sp_law : FS := spLaw
end Lw
end

-- text Mir_k36
section
set_option Elab.async false
set_option linter.all false
set_option maxRecDepth 100000
set_option maxHeartbeats 4000000
namespace Lw
open PySem PySem.Spec PyProof.Rows L2 Mi
def m_is_number : MSTy := (mRet (mAndV (mIsi .int (mVarF 0)) (mNotV (mIsi .bool (mVarF 0)))))
def m_check_stretch : MSTy := (mSeq (mIf (mOr (mNot (mB (mIsi .tup (mVarF 1)))) (mB (mOp fNeA (mCB fLen (mCons (mVarF 1) mNil)) (mC (.int 2))))) (mRaise2 12 1 2 (mCons (mC (.str [115, 116, 114, 101, 116, 99, 104])) (mCons (mVarF 1) mNil))) mNext) (mSeq (mIf (mOr (mNot (mB (mCall0 sp_is_number 1 (mCons (mOp fIx (mVarF 1) (mC (.int 0))) mNil)))) (mNot (mB (mCall0 sp_is_number 1 (mCons (mOp fIx (mVarF 1) (mC (.int 1))) mNil))))) (mRaise2 12 1 2 (mCons (mC (.str [115, 116, 114, 101, 116, 99, 104])) (mCons (mVarF 1) mNil))) mNext) (mSeq (mIf (mNot (mB (mChain3 fLe fLt fLe (mC (.int 0)) (mOp fIx (mVarF 1) (mC (.int 0))) (mOp fIx (mVarF 1) (mC (.int 1))) (mCB fLen (mCons (mVarF 0) mNil))))) (mRaise2 12 1 2 (mCons (mC (.str [115, 116, 114, 101, 116, 99, 104])) (mCons (mVarF 1) mNil))) mNext) (mRet (mOp fSub (mOp fIx (mVarF 1) (mC (.int 1))) (mOp fIx (mVarF 1) (mC (.int 0))))))))
def m_spliced : MSTy := (mSeq (mExpr (mCall0 sp_check_stretch 2 (mCons (mVarF 0) (mCons (mVarF 1) mNil)))) (mSeq (mAsg (mOp fAdd (mOp fAdd (mSl (mVarF 0) mNo (mPart (mOp fIx (mVarF 1) (mC (.int 0))))) (mVarF 2)) (mSl (mVarF 0) (mPart (mOp fIx (mVarF 1) (mC (.int 1)))) mNo)) (mgName 3)) (mSeq (mIf (mB (mOp fGt (mCB fLen (mCons (mVarF 3) mNil)) (mC (.int 300)))) (mRaise1 13 1 (mCons (mC (.str [108, 111, 110, 103])) mNil)) mNext) (mRet (mVarF 3)))))
def m_is_turning : MSTy := (mRet (mOp fIx (mVarF 0) (mUn fNeg (mC (.int 2)))))
def m__heard_by_11 : MSTy := (mRet (mC (.bl false)))
def m__heard_by_10 : MSTy := (mSeq (mFor (miRng2 (mCB fMax (mCons (mC (.int 0)) (mCons (mVarF 9) mNil))) (mOp fAdd (mVarF 10) (mC (.int 1)))) (mgName 11) (mIf (mB (mOp fEqA (mSl (mVarF 6) (mPart (mVarF 11)) (mPart (mOp fAdd (mVarF 11) (mVarF 3)))) (mVarF 8))) (mRet (mC (.bl true))) mNext)) m__heard_by_11)
def m__heard_by_9 : MSTy := (mSeqC (mIf (mOr (mB (mCall0 sp_is_turning 1 (mCons (mVarF 7) mNil))) (mB (mOp fIx (mVarF 7) (mC (.int 2))))) (mAsg (mOp fSub (mVarF 2) (mVarF 3)) (mgName 10)) mNext) m__heard_by_10)
def m__heard_by_5 : MSTy := (mSeq (mIf (mB (mOp fEqA (mOp fIx (mVarF 7) (mC (.int 0))) (mC (.str [101, 108, 100, 101, 114])))) (mRet (mOp fInA (mVarF 8) (mOp fIx (mVarF 4) (mOp fIx (mVarF 7) (mC (.int 1)))))) mNext) (mSeq (mAsg (mOp fSub (mVarF 2) (mOp fIx (mVarF 7) (mC (.int 1)))) (mgName 9)) (mSeq (mAsg (mOp fSub (mVarF 2) (mC (.int 1))) (mgName 10)) (mSeqC (mIf (mB (mCall0 sp_is_turning 1 (mCons (mVarF 7) mNil))) (mAsg (mOp fSub (mOp fAdd (mVarF 9) (mVarF 3)) (mC (.int 1))) (mgName 9)) mNext) m__heard_by_9))))
def m__heard_by : MSTy := (mSeq (mAsg (mVarF 0) (mgTup [4, 5, 6])) (mSeq (mAsg (mOp fIx (mVarF 5) (mVarF 1)) (mgName 7)) (mSeq (mIf (mB (mOp fGt (mVarF 3) (mOp fIx (mVarF 7) (mUn fNeg (mC (.int 1)))))) (mRet (mC (.bl false))) mNext) (mSeq (mAsg (mSl (mVarF 6) (mPart (mVarF 2)) (mPart (mOp fAdd (mVarF 2) (mVarF 3)))) (mgName 8)) (mSeqC (mIf (mB (mCall0 sp_is_turning 1 (mCons (mVarF 7) mNil))) (mAsg (mRev (mVarF 8)) (mgName 8)) mNext) m__heard_by_5)))))
def m_is_heard : MSTy := (mSeq (mAsg (mCall0 sp_check_stretch 2 (mCons (mOp fIx (mVarF 0) (mC (.int 2))) (mCons (mVarF 1) mNil))) (mgName 2)) (mSeq (mIf (mB (mOp fEqA (mVarF 2) (mC (.int 1)))) (mRet (mC (.bl true))) mNext) (mSeq (mFor (miRng1 (mCB fLen (mCons (mOp fIx (mVarF 0) (mC (.int 1))) mNil))) (mgName 3) (mIf (mB (mCall0 sp__heard_by 4 (mCons (mVarF 0) (mCons (mVarF 3) (mCons (mOp fIx (mVarF 1) (mC (.int 0))) (mCons (mVarF 2) mNil)))))) (mRet (mC (.bl true))) mNext)) (mRet (mC (.bl false))))))
def m_reach_table : MSTy := (mSeq (mAsg (mOp fIx (mVarF 0) (mC (.int 2))) (mgName 1)) (mSeq (mSetM 2 (mNew 0 mNil)) (mSeq (mAsg (mC (.int 0)) (mgName 3)) (mSeq (mFor (miRng1 (mCB fLen (mCons (mVarF 1) mNil))) (mgName 4) (mSeq (mAsg (mCB fMax (mCons (mVarF 3) (mCons (mOp fAdd (mVarF 4) (mC (.int 1))) mNil))) (mgName 3)) (mSeq (mWhile (mAnd (mB (mOp fLt (mVarF 3) (mCB fLen (mCons (mVarF 1) mNil)))) (mB (mCall0 sp_is_heard 2 (mCons (mVarF 0) (mCons (mTup 2 (mCons (mVarF 4) (mCons (mOp fAdd (mVarF 3) (mC (.int 1))) mNil))) mNil))))) (mAsg (mOp fAdd (mVarF 3) (mC (.int 1))) (mgName 3))) (mAppend 2 (mVarF 3))))) (mRet (mCB fTuple (mCons (mVar 2) mNil)))))))
def m_greedy_cuts : MSTy := (mSeq (mAsg (mCall0 sp_reach_table 1 (mCons (mVarF 0) mNil)) (mgName 1)) (mSeq (mSetM 2 (mNew 0 mNil)) (mSeq (mAsg (mC (.int 0)) (mgName 3)) (mSeq (mWhile (mAnd (mB (mOp fLt (mVarF 3) (mCB fLen (mCons (mVarF 1) mNil)))) (mB (mOp fLt (mOp fIx (mVarF 1) (mVarF 3)) (mCB fLen (mCons (mVarF 1) mNil))))) (mSeq (mAsg (mOp fIx (mVarF 1) (mVarF 3)) (mgName 3)) (mAppend 2 (mVarF 3)))) (mRet (mCB fTuple (mCons (mVar 2) mNil)))))))
def m_fewest_count : MSTy := (mRet (mCB fLen (mCons (mCall0 sp_greedy_cuts 1 (mCons (mVarF 0) mNil)) mNil)))
def m_piece_count : MSTy := (mRet (mIfE (mB (mOp fEqA (mOp fIx (mVarF 0) (mC (.int 2))) (mC (.str [])))) (mC (.int 0)) (mOp fAdd (mCall0 sp_fewest_count 1 (mCons (mVarF 0) mNil)) (mC (.int 1)))))
def m_with_new : MSTy := (mRet (mTup 3 (mCons (mOp fIx (mVarF 0) (mC (.int 0))) (mCons (mOp fIx (mVarF 0) (mC (.int 1))) (mCons (mVarF 1) mNil)))))
def m_with_rule : MSTy := (mSeq (mIf (mB (mOp fEqA (mCB fLen (mCons (mOp fIx (mVarF 0) (mC (.int 1))) mNil)) (mC (.int 8)))) (mRaise1 13 1 (mCons (mC (.str [109, 97, 110, 121])) mNil)) mNext) (mRet (mTup 3 (mCons (mOp fIx (mVarF 0) (mC (.int 0))) (mCons (mOp fAdd (mOp fIx (mVarF 0) (mC (.int 1))) (mTup 1 (mCons (mVarF 1) mNil))) (mCons (mOp fIx (mVarF 0) (mC (.int 2))) mNil))))))
def m_with_elder : MSTy := (mSeq (mIf (mOr (mB (mOp fEqA (mCB fLen (mCons (mOp fIx (mVarF 0) (mC (.int 0))) mNil)) (mC (.int 6)))) (mB (mOp fEqA (mCB fLen (mCons (mOp fIx (mVarF 0) (mC (.int 1))) mNil)) (mC (.int 8))))) (mRaise1 13 1 (mCons (mC (.str [109, 97, 110, 121])) mNil)) mNext) (mSeq (mAsg (mTup 4 (mCons (mC (.str [101, 108, 100, 101, 114])) (mCons (mCB fLen (mCons (mOp fIx (mVarF 0) (mC (.int 0))) mNil)) (mCons (mVarF 2) (mCons (mVarF 3) mNil))))) (mgName 4)) (mRet (mTup 3 (mCons (mOp fAdd (mOp fIx (mVarF 0) (mC (.int 0))) (mTup 1 (mCons (mVarF 1) mNil))) (mCons (mOp fAdd (mOp fIx (mVarF 0) (mC (.int 1))) (mTup 1 (mCons (mVarF 4) mNil))) (mCons (mOp fIx (mVarF 0) (mC (.int 2))) mNil)))))))
def m_without_elder : MSTy := (mSeq (mAsg (mVarF 0) (mgTup [2, 3, 4])) (mSeq (mIf (mOr (mB (mIsi .bool (mVarF 1))) (mOr (mNot (mB (mIsi .int (mVarF 1)))) (mNot (mB (mChain fLe fLt (mC (.int 0)) (mVarF 1) (mCB fLen (mCons (mVarF 2) mNil))))))) (mRaise2 12 1 2 (mCons (mC (.str [101, 108, 100, 101, 114])) (mCons (mVarF 1) mNil))) mNext) (mSeq (mSetM 5 (mNew 0 mNil)) (mSeq (mFor (miAny (mVarF 3)) (mgName 6) (mIf (mOr (mB (mOp fEqA (mOp fIx (mVarF 6) (mC (.int 0))) (mC (.str [98, 97, 99, 107])))) (mB (mOp fLt (mOp fIx (mVarF 6) (mC (.int 1))) (mVarF 1)))) (mAppend 5 (mVarF 6)) (mIf (mB (mOp fGt (mOp fIx (mVarF 6) (mC (.int 1))) (mVarF 1))) (mAppend 5 (mOp fAdd (mTup 2 (mCons (mC (.str [101, 108, 100, 101, 114])) (mCons (mOp fSub (mOp fIx (mVarF 6) (mC (.int 1))) (mC (.int 1))) mNil))) (mSl (mVarF 6) (mPart (mC (.int 2))) mNo))) mNext))) (mRet (mTup 3 (mCons (mOp fAdd (mSl (mVarF 2) mNo (mPart (mVarF 1))) (mSl (mVarF 2) (mPart (mOp fAdd (mVarF 1) (mC (.int 1)))) mNo)) (mCons (mCB fTuple (mCons (mVar 5) mNil)) (mCons (mVarF 4) mNil)))))))))
def m_turned_case : MSTy := (mSeq (mAsg (mVarF 0) (mgTup [1, 2, 3])) (mSeq (mAsg (mCB fTuple (mCons (mFz (mLc (miAny (mVarF 2)) (mgName 5) (mB (mOp fEqA (mOp fIx (mVarF 5) (mC (.int 0))) (mC (.str [101, 108, 100, 101, 114])))) (mVarF 5) [5])) mNil)) (mgName 4)) (mRet (mTup 3 (mCons (mCB fTuple (mCons (mFz (mLc (miAny (mVarF 1)) (mgName 6) mtYes (mRev (mVarF 6)) [6])) mNil)) (mCons (mVarF 4) (mCons (mRev (mVarF 3)) mNil)))))))
def m_elder_case : MSTy := (mRet (mTup 3 (mCons (mOp fIx (mVarF 0) (mC (.int 0))) (mCons (mCB fTuple (mCons (mFz (mLc (miAny (mOp fIx (mVarF 0) (mC (.int 1)))) (mgName 1) (mB (mOp fEqA (mOp fIx (mVarF 1) (mC (.int 0))) (mC (.str [101, 108, 100, 101, 114])))) (mVarF 1) [1])) mNil)) (mCons (mOp fIx (mVarF 0) (mC (.int 2))) mNil)))))
def m_part_case : MSTy := (mSeq (mAsg (mCall0 sp_elder_case 1 (mCons (mVarF 0) mNil)) (mgTup [2, 3, 4])) (mRet (mTup 3 (mCons (mVarF 2) (mCons (mVarF 3) (mCons (mSl (mVarF 4) (mPart (mOp fIx (mVarF 1) (mC (.int 0)))) (mPart (mOp fIx (mVarF 1) (mC (.int 1))))) mNil))))))
def m_appended_case : MSTy := (mSeq (mIf (mB (mOp fGt (mOp fAdd (mCB fLen (mCons (mOp fIx (mVarF 0) (mC (.int 2))) mNil)) (mCB fLen (mCons (mVarF 1) mNil))) (mC (.int 300)))) (mRaise1 13 1 (mCons (mC (.str [108, 111, 110, 103])) mNil)) mNext) (mRet (mTup 3 (mCons (mOp fIx (mVarF 0) (mC (.int 0))) (mCons (mOp fIx (mVarF 0) (mC (.int 1))) (mCons (mOp fAdd (mOp fIx (mVarF 0) (mC (.int 2))) (mVarF 1)) mNil))))))
def m_edited_case : MSTy := (mRet (mTup 3 (mCons (mOp fIx (mVarF 0) (mC (.int 0))) (mCons (mOp fIx (mVarF 0) (mC (.int 1))) (mCons (mCall0 sp_spliced 3 (mCons (mOp fIx (mVarF 0) (mC (.int 2))) (mCons (mVarF 1) (mCons (mVarF 2) mNil)))) mNil)))))
def m_edit_effect : MSTy := (mRet (mOp fSub (mCall0 sp_piece_count 1 (mCons (mCall0 sp_edited_case 3 (mCons (mVarF 0) (mCons (mVarF 1) (mCons (mVarF 2) mNil)))) mNil)) (mCall0 sp_piece_count 1 (mCons (mVarF 0) mNil))))
def m_append_effect : MSTy := (mRet (mOp fSub (mCall0 sp_piece_count 1 (mCons (mCall0 sp_appended_case 2 (mCons (mVarF 0) (mCons (mVarF 1) mNil))) mNil)) (mCall0 sp_piece_count 1 (mCons (mVarF 0) mNil))))
def m_back_case : MSTy := (mSeq (mIf (mOr (mB (mIsi .bool (mVarF 1))) (mOr (mNot (mB (mIsi .int (mVarF 1)))) (mNot (mB (mChain fLe fLt (mC (.int 0)) (mVarF 1) (mCB fLen (mCons (mOp fIx (mVarF 0) (mC (.int 0))) mNil))))))) (mRaise2 12 1 2 (mCons (mC (.str [101, 108, 100, 101, 114])) (mCons (mVarF 1) mNil))) mNext) (mSeq (mAsg (mTup 2 (mCons (mTup 4 (mCons (mC (.str [101, 108, 100, 101, 114])) (mCons (mC (.int 0)) (mCons (mC (.bl false)) (mCons (mC (.int 300)) mNil))))) (mCons (mTup 4 (mCons (mC (.str [101, 108, 100, 101, 114])) (mCons (mC (.int 0)) (mCons (mC (.bl true)) (mCons (mC (.int 300)) mNil))))) mNil))) (mgName 2)) (mRet (mTup 3 (mCons (mTup 1 (mCons (mOp fIx (mVarF 0) (mC (.int 2))) mNil)) (mCons (mVarF 2) (mCons (mOp fIx (mOp fIx (mVarF 0) (mC (.int 0))) (mVarF 1)) mNil)))))))
def m__law_tub_6 : MSTy := (mRet (mOwn (mCatN (mLst 3 (mCons (mC (.int 0)) (mCons (mVarF 4) (mCons (mVarF 5) mNil)))) (mKeep 1))))
def m__law_tub_5 : MSTy := (mSeq (mFor (miAny (mKeep 1)) (mgName 6) (mSeq (mAsg (mOp fMod (mCB fInt (mCons (mOp fAdd (mOp fAdd (mOp fMul (mVarF 4) (mC (.int 131))) (mVarF 6)) (mC (.int 1))) mNil)) (mC (.int 1000003))) (mgName 4)) (mAsg (mOp fMod (mCB fInt (mCons (mOp fAdd (mOp fAdd (mOp fMul (mVarF 5) (mC (.int 137))) (mOp fMul (mVarF 6) (mVarF 6))) (mC (.int 7))) mNil)) (mC (.int 999983))) (mgName 5)))) m__law_tub_6)
def m__law_tub_3 : MSTy := (mSeq (mAsg (mC (.int 523)) (mgName 4)) (mSeqC (mAsg (mC (.int 71)) (mgName 5)) m__law_tub_5))
def m__law_tub_2 : MSTy := (mSeqC (mIf (mB (mOp fEqA (mCB fLen (mCons (mVar 1) mNil)) (mC (.int 0)))) (mAppend 1 (mC (.int 6))) mNext) m__law_tub_3)
def m__law_tub : MSTy := (mSeq (mSetM 1 (mNew 0 mNil)) (mSeq (mFor (miAny (mVarF 0)) (mgName 2) (mSeq (mAsg (mOp fAdd (mOp fMul (mC (.int 2)) (mCB fAbs (mCons (mCB fInt (mCons (mVarF 2) mNil)) mNil))) (mCB fInt (mCons (mOp fLt (mCB fInt (mCons (mVarF 2) mNil)) (mC (.int 0))) mNil))) (mgName 3)) (mSeq (mAppend 1 (mOp fMod (mCB fInt (mCons (mVarF 3) mNil)) (mC (.int 8707)))) (mSeq (mAsg (mOp fDiv (mVarF 3) (mC (.int 8707))) (mgName 3)) (mSeq (mWhile (mAnd (mB (mOp fGt (mVarF 3) (mC (.int 0)))) (mB (mOp fLt (mCB fLen (mCons (mVar 1) mNil)) (mC (.int 220))))) (mSeq (mAppend 1 (mOp fMod (mCB fInt (mCons (mVarF 3) mNil)) (mC (.int 8707)))) (mAsg (mOp fDiv (mVarF 3) (mC (.int 8707))) (mgName 3)))) (mIf (mB (mOp fGe (mCB fLen (mCons (mVar 1) mNil)) (mC (.int 220)))) mBrk mNext)))))) m__law_tub_2))
def m__law_dip_3 : MSTy := (mSeq (mAsg (mOp fAdd (mOp fMul (mOp fAdd (mCB fInt (mCons (mOp fIx (mVar 0) (mC (.int 1))) mNil)) (mOp fMul (mC (.int 977)) (mVarF 2))) (mOp fAdd (mCB fInt (mCons (mOp fIx (mVar 0) (mC (.int 2))) mNil)) (mOp fMul (mVarF 2) (mVarF 2)))) (mOp fMul (mVarF 3) (mOp fAdd (mVarF 2) (mC (.int 81))))) (mgName 4)) (mSeq (mAsg (mOp fMod (mCB fInt (mCons (mVarF 4) mNil)) (mC (.int 1000033))) (mgName 4)) (mRet (mOp fMod (mOp fDiv (mOp fMod (mCB fInt (mCons (mOp fMul (mVarF 4) (mVarF 4)) mNil)) (mC (.int 999979))) (mC (.int 7))) (mVarF 1)))))
def m__law_dip : MSTy := (mSeq (mAsg (mCB fInt (mCons (mOp fIx (mVar 0) (mC (.int 0))) mNil)) (mgName 2)) (mSeq (mSetIx 0 (mOp fAdd (mVarF 2) (mC (.int 1))) (mC (.int 0))) (mSeqC (mAsg (mCB fInt (mCons (mOp fIx (mVar 0) (mOp fAdd (mC (.int 3)) (mOp fMod (mVarF 2) (mOp fSub (mCB fLen (mCons (mVar 0) mNil)) (mC (.int 3)))))) mNil)) (mgName 3)) m__law_dip_3)))
def m__law_same_6 (rc : FS) : MSTy := (mRet (mC (.bl true)))
def m__law_same (rc : FS) : MSTy := (mSeq (mIf (mB (mOp (fIs false) (mVarF 1) (mC .non))) (mRet (mOp (fIs false) (mVarF 0) (mC .non))) mNext) (mSeq (mIf (mB (mIsi .bool (mVarF 1))) (mRet (mAndV (mIsi .bool (mVarF 0)) (mOp fEqA (mVarF 0) (mVarF 1)))) mNext) (mSeq (mIf (mB (mIsi .int (mVarF 1))) (mRet (mAndV (mIsi .int (mVarF 0)) (mAndV (mNotV (mIsi .bool (mVarF 0))) (mOp fEqA (mVarF 0) (mVarF 1))))) mNext) (mSeq (mIf (mB (mIsi .str (mVarF 1))) (mRet (mAndV (mIsi .str (mVarF 0)) (mOp fEqA (mVarF 0) (mVarF 1)))) mNext) (mSeq (mIf (mOr (mNot (mB (mIsi .tup (mVarF 0)))) (mNot (mB (mOp fEqA (mCB fLen (mCons (mVarF 0) mNil)) (mCB fLen (mCons (mVarF 1) mNil)))))) (mRet (mC (.bl false))) mNext) (mSeq (mFor (miRng1 (mCB fLen (mCons (mVarF 1) mNil))) (mgName 2) (mIf (mNot (mB (mCall0 rc 2 (mCons (mOp fIx (mVarF 0) (mVarF 2)) (mCons (mOp fIx (mVarF 1) (mVarF 2)) mNil))))) (mRet (mC (.bl false))) mNext)) (m__law_same_6 rc)))))))
def m__law_signs : MSTy := (mSeq (mAsg (mCall sp__law_dip [true, false] (mcRef 0 (mcVal (mC (.int 6)) mcNil))) (mgName 1)) (mSeq (mIf (mB (mOp fLt (mVarF 1) (mC (.int 4)))) (mRet (mOp fIx (mTup 4 (mCons (mC (.str [97, 98])) (mCons (mC (.str [97, 98, 99])) (mCons (mC (.str [97, 126])) (mCons (mC (.str [120, 32, 121])) mNil))))) (mVarF 1))) mNext) (mSeq (mAsg (mC (.str [32, 33, 34, 35, 36, 38, 39, 40, 41, 42, 43, 44, 45, 46, 47, 48, 49, 50, 51, 52, 53, 54, 55, 56, 57, 58, 59, 60, 61, 62, 63, 64, 65, 66, 67, 68, 69, 70, 71, 72, 73, 74, 75, 76, 77, 78, 79, 80, 81, 82, 83, 84, 85, 86, 87, 88, 89, 90, 91, 92, 93, 94, 95, 96, 97, 98, 99, 100, 101, 102, 103, 104, 105, 106, 107, 108, 109, 110, 111, 112, 113, 114, 115, 116, 117, 118, 119, 120, 121, 122, 123, 124, 125, 126])) (mgName 2)) (mRet (mJoin (mC (.str [])) (mFz (mLc (miRng1 (mOp fAdd (mC (.int 2)) (mCall sp__law_dip [true, false] (mcRef 0 (mcVal (mC (.int 3)) mcNil))))) (mgName 3) mtYes (mOp fIx (mVarF 2) (mCall sp__law_dip [true, false] (mcRef 0 (mcVal (mCB fLen (mCons (mVarF 2) mNil)) mcNil)))) [3])))))))
def m__law_text_4 : MSTy := (mRet (mVarF 5))
def m__law_text_3 : MSTy := (mSeq (mFor (miRng1 (mVarF 3)) (mgName 6) (mIf (mOr (mB (mOp fLt (mVarF 6) (mVarF 4))) (mB (mOp fEqA (mCall sp__law_dip [true, false] (mcRef 0 (mcVal (mC (.int 9)) mcNil))) (mC (.int 0))))) (mAsg (mOp fAdd (mVarF 5) (mOp fIx (mVarF 1) (mCall sp__law_dip [true, false] (mcRef 0 (mcVal (mCB fLen (mCons (mVarF 1) mNil)) mcNil))))) (mgName 5)) (mAsg (mOp fAdd (mVarF 5) (mOp fIx (mVarF 5) (mOp fSub (mVarF 6) (mVarF 4)))) (mgName 5)))) m__law_text_4)
def m__law_text_2 : MSTy := (mSeqC (mAsg (mC (.str [])) (mgName 5)) m__law_text_3)
def m__law_text : MSTy := (mSeq (mAsg (mOp fIx (mTup 3 (mCons (mVarF 2) (mCons (mCall sp__law_dip [true, false] (mcRef 0 (mcVal (mOp fAdd (mVarF 2) (mC (.int 1))) mcNil))) (mCons (mCall sp__law_dip [true, false] (mcRef 0 (mcVal (mOp fAdd (mVarF 2) (mC (.int 1))) mcNil))) mNil)))) (mCall sp__law_dip [true, false] (mcRef 0 (mcVal (mC (.int 3)) mcNil)))) (mgName 3)) (mSeqC (mAsg (mOp fIx (mTup 4 (mCons (mVarF 3) (mCons (mC (.int 1)) (mCons (mC (.int 2)) (mCons (mC (.int 3)) mNil))))) (mCall sp__law_dip [true, false] (mcRef 0 (mcVal (mC (.int 4)) mcNil)))) (mgName 4)) m__law_text_2))
def m__law_most : MSTy := (mRet (mOp fIx (mTup 5 (mCons (mC (.int 2)) (mCons (mC (.int 300)) (mCons (mC (.int 3)) (mCons (mOp fAdd (mC (.int 2)) (mCall sp__law_dip [true, false] (mcRef 0 (mcVal (mC (.int 9)) mcNil)))) (mCons (mC (.int 2)) mNil)))))) (mCall sp__law_dip [true, false] (mcRef 0 (mcVal (mC (.int 5)) mcNil)))))
def m__law_rules_2 : MSTy := (mRet (mCB fTuple (mCons (mVar 3) mNil)))
def m__law_rules : MSTy := (mSeq (mSetM 3 (mNew 0 mNil)) (mSeq (mFor (miRng1 (mVarF 1)) (mgName 4) (mSeq (mAsg (mOp fEqA (mCall sp__law_dip [true, false] (mcRef 0 (mcVal (mC (.int 2)) mcNil))) (mC (.int 0))) (mgName 5)) (mIf (mAnd (mB (mOp fGt (mVarF 2) (mC (.int 0)))) (mB (mOp fGt (mCall sp__law_dip [true, false] (mcRef 0 (mcVal (mC (.int 3)) mcNil))) (mC (.int 0))))) (mAppend 3 (mTup 4 (mCons (mC (.str [101, 108, 100, 101, 114])) (mCons (mCall sp__law_dip [true, false] (mcRef 0 (mcVal (mVarF 2) mcNil))) (mCons (mVarF 5) (mCons (mCall sp__law_most [true] (mcRef 0 mcNil)) mNil)))))) (mSeq (mAsg (mOp fIx (mTup 4 (mCons (mC (.int 300)) (mCons (mC (.int 1)) (mCons (mC (.int 2)) (mCons (mOp fAdd (mC (.int 1)) (mCall sp__law_dip [true, false] (mcRef 0 (mcVal (mC (.int 9)) mcNil)))) mNil))))) (mCall sp__law_dip [true, false] (mcRef 0 (mcVal (mC (.int 4)) mcNil)))) (mgName 6)) (mAppend 3 (mTup 5 (mCons (mC (.str [98, 97, 99, 107])) (mCons (mVarF 6) (mCons (mOp fEqA (mCall sp__law_dip [true, false] (mcRef 0 (mcVal (mC (.int 2)) mcNil))) (mC (.int 0))) (mCons (mVarF 5) (mCons (mCall sp__law_most [true] (mcRef 0 mcNil)) mNil))))))))))) m__law_rules_2))
def m__law_is_source_7 : MSTy := (mRet (mC (.bl true)))
def m__law_is_source_6 : MSTy := (mSeq (mFor (miRng1 (mVarF 6)) (mgName 9) (mSeq (mAsg (mOp fAdd (mVarF 4) (mVarF 9)) (mgName 10)) (mSeqC (mIf (mB (mVarF 8)) (mAsg (mOp fSub (mOp fSub (mOp fAdd (mVarF 4) (mVarF 6)) (mC (.int 1))) (mVarF 9)) (mgName 10)) mNext) (mSeq (mIf (mOr (mB (mOp fGe (mVarF 10) (mCB fLen (mCons (mVarF 7) mNil)))) (mNot (mB (mOp fEqA (mOp fIx (mVarF 7) (mVarF 10)) (mOp fIx (mOp fIx (mVarF 0) (mC (.int 2))) (mOp fAdd (mVarF 1) (mVarF 9))))))) (mRet (mC (.bl false))) mNext) (mIf (mB (mOp fEqA (mOp fIx (mVarF 5) (mC (.int 0))) (mC (.str [98, 97, 99, 107])))) (mIf (mOr (mB (mOp fGe (mVarF 10) (mOp fAdd (mVarF 1) (mVarF 9)))) (mOr (mB (mOp fLt (mVarF 10) (mOp fSub (mOp fAdd (mVarF 1) (mVarF 9)) (mOp fIx (mVarF 5) (mC (.int 1)))))) (mAnd (mB (mOp fIx (mVarF 5) (mC (.int 2)))) (mB (mOp fGe (mVarF 10) (mVarF 1)))))) (mRet (mC (.bl false))) mNext) mNext))))) m__law_is_source_7)
def m__law_is_source : MSTy := (mSeq (mAsg (mOp fIx (mOp fIx (mVarF 0) (mC (.int 1))) (mVarF 3)) (mgName 5)) (mSeq (mAsg (mOp fSub (mVarF 2) (mVarF 1)) (mgName 6)) (mSeq (mIf (mOr (mB (mOp fGt (mVarF 6) (mOp fIx (mVarF 5) (mUn fNeg (mC (.int 1)))))) (mB (mOp fLt (mVarF 4) (mC (.int 0))))) (mRet (mC (.bl false))) mNext) (mSeq (mAsg (mOp fIx (mVarF 0) (mC (.int 2))) (mgName 7)) (mSeq (mAsg (mOp fIx (mVarF 5) (mUn fNeg (mC (.int 2)))) (mgName 8)) (mSeqC (mIf (mB (mOp fEqA (mOp fIx (mVarF 5) (mC (.int 0))) (mC (.str [101, 108, 100, 101, 114])))) (mAsg (mOp fIx (mOp fIx (mVarF 0) (mC (.int 0))) (mOp fIx (mVarF 5) (mC (.int 1)))) (mgName 7)) mNext) m__law_is_source_6))))))
def m__law_source : MSTy := (mSeq (mFor (miRng1 (mCB fLen (mCons (mOp fIx (mVarF 0) (mC (.int 1))) mNil))) (mgName 3) (mSeq (mAsg (mOp fIx (mOp fIx (mVarF 0) (mC (.int 1))) (mVarF 3)) (mgName 4)) (mSeq (mAsg (mOp fIx (mVarF 0) (mC (.int 2))) (mgName 5)) (mSeqC (mIf (mB (mOp fEqA (mOp fIx (mVarF 4) (mC (.int 0))) (mC (.str [101, 108, 100, 101, 114])))) (mAsg (mOp fIx (mOp fIx (mVarF 0) (mC (.int 0))) (mOp fIx (mVarF 4) (mC (.int 1)))) (mgName 5)) mNext) (mFor (miRng1 (mCB fLen (mCons (mVarF 5) mNil))) (mgName 6) (mIf (mB (mCall0 sp__law_is_source 5 (mCons (mVarF 0) (mCons (mVarF 1) (mCons (mVarF 2) (mCons (mVarF 3) (mCons (mVarF 6) mNil))))))) (mRet (mTup 2 (mCons (mVarF 3) (mCons (mVarF 6) mNil)))) mNext)))))) (mRet (mC .non)))
def m__law_reach : MSTy := (mSeq (mSetM 1 (mNew 0 mNil)) (mSeq (mFor (miRng1 (mCB fLen (mCons (mOp fIx (mVarF 0) (mC (.int 2))) mNil))) (mgName 2) (mSeq (mAsg (mOp fAdd (mVarF 2) (mC (.int 1))) (mgName 3)) (mSeq (mWhile (mAnd (mB (mOp fLt (mVarF 3) (mCB fLen (mCons (mOp fIx (mVarF 0) (mC (.int 2))) mNil)))) (mB (mOp (fIs true) (mCall0 sp__law_source 3 (mCons (mVarF 0) (mCons (mVarF 2) (mCons (mOp fAdd (mVarF 3) (mC (.int 1))) mNil)))) (mC .non)))) (mAsg (mOp fAdd (mVarF 3) (mC (.int 1))) (mgName 3))) (mAppend 1 (mVarF 3))))) (mRetMv 1)))
def m__law_pieces : MSTy := (mSeq (mAsg (mCall0 sp__law_reach 1 (mCons (mVarF 0) mNil)) (mgName 1)) (mSeq (mAsg (mC (.int 0)) (mgName 2)) (mSeq (mAsg (mC (.int 0)) (mgName 3)) (mSeq (mWhile (mB (mOp fLt (mVarF 3) (mCB fLen (mCons (mVarF 1) mNil)))) (mSeq (mAsg (mOp fIx (mVarF 1) (mVarF 3)) (mgName 3)) (mAsg (mOp fAdd (mVarF 2) (mC (.int 1))) (mgName 2)))) (mRet (mVarF 2))))))
def m__law_told : MSTy := (mTryAs 0 3 (mSeq (mIf (mB (mOp fEqA (mVarF 0) (mC (.str [114, 117, 108, 101])))) (mRet (mTup 2 (mCons (mC (.str [116, 111, 108, 100])) (mCons (mCall0 sp_with_rule 2 (mCons (mVarF 1) (mCons (mOp fIx (mVarF 2) (mC (.int 0))) mNil))) mNil)))) mNext) (mSeq (mIf (mB (mOp fEqA (mVarF 0) (mC (.str [101, 108, 100, 101, 114])))) (mRet (mTup 2 (mCons (mC (.str [116, 111, 108, 100])) (mCons (mCall0 sp_with_elder 4 (mCons (mVarF 1) (mCons (mOp fIx (mVarF 2) (mC (.int 0))) (mCons (mOp fIx (mVarF 2) (mC (.int 1))) (mCons (mOp fIx (mVarF 2) (mC (.int 2))) mNil))))) mNil)))) mNext) (mSeq (mIf (mB (mOp fEqA (mVarF 0) (mC (.str [119, 105, 116, 104, 111, 117, 116])))) (mRet (mTup 2 (mCons (mC (.str [116, 111, 108, 100])) (mCons (mCall0 sp_without_elder 2 (mCons (mVarF 1) (mCons (mOp fIx (mVarF 2) (mC (.int 0))) mNil))) mNil)))) mNext) (mSeq (mIf (mB (mOp fEqA (mVarF 0) (mC (.str [98, 97, 99, 107])))) (mRet (mTup 2 (mCons (mC (.str [116, 111, 108, 100])) (mCons (mCall0 sp_back_case 2 (mCons (mVarF 1) (mCons (mOp fIx (mVarF 2) (mC (.int 0))) mNil))) mNil)))) mNext) (mSeq (mIf (mB (mOp fEqA (mVarF 0) (mC (.str [97, 112, 112, 101, 110, 100, 101, 100])))) (mRet (mTup 2 (mCons (mC (.str [116, 111, 108, 100])) (mCons (mCall0 sp_appended_case 2 (mCons (mVarF 1) (mCons (mOp fIx (mVarF 2) (mC (.int 0))) mNil))) mNil)))) mNext) (mRet (mTup 2 (mCons (mC (.str [116, 111, 108, 100])) (mCons (mCall0 sp_edited_case 3 (mCons (mVarF 1) (mCons (mOp fIx (mVarF 2) (mC (.int 0))) (mCons (mOp fIx (mVarF 2) (mC (.int 1))) mNil)))) mNil))))))))) (fun c => (mSeq (mIf (mB (mIsX 13 c (mVarF 3))) (mRet (mTup 2 (mCons (mC (.str [66, 97, 100, 67, 97, 108, 108])) (mCons (mXf c 1 (mVarF 3)) mNil)))) mNext) (mSeq (mIf (mB (mIsX 12 c (mVarF 3))) (mRet (mTup 3 (mCons (mC (.str [78, 111, 83, 117, 99, 104])) (mCons (mXf c 1 (mVarF 3)) (mCons (mXf c 2 (mVarF 3)) mNil))))) mNext) (mRet (mTup 1 (mCons (mC (.str [111, 116, 104, 101, 114])) mNil)))))))
def m__law_without : MSTy := (mSeq (mSetM 2 (mNew 0 mNil)) (mSeq (mFor (miAny (mOp fIx (mVarF 0) (mC (.int 1)))) (mgName 3) (mIf (mOr (mB (mOp fEqA (mOp fIx (mVarF 3) (mC (.int 0))) (mC (.str [98, 97, 99, 107])))) (mB (mOp fLt (mOp fIx (mVarF 3) (mC (.int 1))) (mVarF 1)))) (mAppend 2 (mVarF 3)) (mIf (mB (mOp fGt (mOp fIx (mVarF 3) (mC (.int 1))) (mVarF 1))) (mAppend 2 (mTup 4 (mCons (mC (.str [101, 108, 100, 101, 114])) (mCons (mOp fSub (mOp fIx (mVarF 3) (mC (.int 1))) (mC (.int 1))) (mCons (mOp fIx (mVarF 3) (mC (.int 2))) (mCons (mOp fIx (mVarF 3) (mC (.int 3))) mNil)))))) mNext))) (mRet (mTup 3 (mCons (mOp fAdd (mSl (mOp fIx (mVarF 0) (mC (.int 0))) mNo (mPart (mVarF 1))) (mSl (mOp fIx (mVarF 0) (mC (.int 0))) (mPart (mOp fAdd (mVarF 1) (mC (.int 1)))) mNo)) (mCons (mCB fTuple (mCons (mVar 2) mNil)) (mCons (mOp fIx (mVarF 0) (mC (.int 2))) mNil)))))))
def m__law_elder_rules : MSTy := (mRet (mCB fTuple (mCons (mFz (mLc (miAny (mOp fIx (mVarF 0) (mC (.int 1)))) (mgName 1) (mB (mOp fEqA (mOp fIx (mVarF 1) (mC (.int 0))) (mC (.str [101, 108, 100, 101, 114])))) (mVarF 1) [1])) mNil)))
def m__law_numbers_right_4 : MSTy := (mRet (mC (.bl true)))
def m__law_numbers_right_3 : MSTy := (mSeq (mFor (miAny (mTup 2 (mCons (mC (.str [119, 105, 116, 104, 111, 117, 116])) (mCons (mC (.str [98, 97, 99, 107])) mNil)))) (mgName 6) (mFor (miAny (mTup 2 (mCons (mVarF 5) (mCons (mVarF 2) mNil)))) (mgName 3) (mIf (mNot (mB (mCall0 sp__law_same 2 (mCons (mCall0 sp__law_told 3 (mCons (mVarF 6) (mCons (mVarF 1) (mCons (mTup 1 (mCons (mVarF 3) mNil)) mNil)))) (mCons (mTup 3 (mCons (mC (.str [78, 111, 83, 117, 99, 104])) (mCons (mC (.str [101, 108, 100, 101, 114])) (mCons (mVarF 3) mNil)))) mNil))))) (mRet (mC (.bl false))) mNext))) m__law_numbers_right_4)
def m__law_numbers_right_2 : MSTy := (mSeqC (mAsg (mOp fIx (mTup 9 (mCons (mVarF 2) (mCons (mUn fNeg (mC (.int 1))) (mCons (mC (.bl true)) (mCons (mC .non) (mCons (mC (.str [48])) (mCons (mTup 1 (mCons (mC (.int 0)) mNil)) (mCons (mOp fAdd (mOp fAdd (mVarF 2) (mC (.int 1))) (mCall sp__law_dip [true, false] (mcRef 0 (mcVal (mC (.int 9)) mcNil)))) (mCons (mC (.bl false)) (mCons (mOp fPow (mC (.int 10)) (mC (.int 50))) mNil)))))))))) (mCall sp__law_dip [true, false] (mcRef 0 (mcVal (mC (.int 9)) mcNil)))) (mgName 5)) m__law_numbers_right_3)
def m__law_numbers_right_1 : MSTy := (mSeqC (mFor (miRng1 (mVarF 2)) (mgName 3) (mSeq (mIf (mNot (mB (mCall0 sp__law_same 2 (mCons (mCall0 sp__law_told 3 (mCons (mC (.str [119, 105, 116, 104, 111, 117, 116])) (mCons (mVarF 1) (mCons (mTup 1 (mCons (mVarF 3) mNil)) mNil)))) (mCons (mTup 2 (mCons (mC (.str [116, 111, 108, 100])) (mCons (mCall0 sp__law_without 2 (mCons (mVarF 1) (mCons (mVarF 3) mNil))) mNil))) mNil))))) (mRet (mC (.bl false))) mNext) (mSeq (mAsg (mTup 2 (mCons (mTup 4 (mCons (mC (.str [101, 108, 100, 101, 114])) (mCons (mC (.int 0)) (mCons (mC (.bl false)) (mCons (mC (.int 300)) mNil))))) (mCons (mTup 4 (mCons (mC (.str [101, 108, 100, 101, 114])) (mCons (mC (.int 0)) (mCons (mC (.bl true)) (mCons (mC (.int 300)) mNil))))) mNil))) (mgName 4)) (mIf (mNot (mB (mCall0 sp__law_same 2 (mCons (mCall0 sp__law_told 3 (mCons (mC (.str [98, 97, 99, 107])) (mCons (mVarF 1) (mCons (mTup 1 (mCons (mVarF 3) mNil)) mNil)))) (mCons (mTup 2 (mCons (mC (.str [116, 111, 108, 100])) (mCons (mTup 3 (mCons (mTup 1 (mCons (mOp fIx (mVarF 1) (mC (.int 2))) mNil)) (mCons (mVarF 4) (mCons (mOp fIx (mOp fIx (mVarF 1) (mC (.int 0))) (mVarF 3)) mNil)))) mNil))) mNil))))) (mRet (mC (.bl false))) mNext)))) m__law_numbers_right_2)
def m__law_numbers_right : MSTy := (mSeqC (mAsg (mCB fLen (mCons (mOp fIx (mVarF 1) (mC (.int 0))) mNil)) (mgName 2)) m__law_numbers_right_1)
def m__law_more_right_9 : MSTy := (mSeq (mIf (mNot (mB (mCall0 sp__law_same 2 (mCons (mCall0 sp__law_told 3 (mCons (mC (.str [101, 108, 100, 101, 114])) (mCons (mVarF 1) (mCons (mTup 3 (mCons (mVarF 5) (mCons (mVarF 6) (mCons (mVarF 7) mNil)))) mNil)))) (mCons (mVarF 4) mNil))))) (mRet (mC (.bl false))) mNext) (mRet (mCall0 sp__law_same 2 (mCons (mCall0 sp_with_new 2 (mCons (mVarF 1) (mCons (mVarF 5) mNil))) (mCons (mTup 3 (mCons (mOp fIx (mVarF 1) (mC (.int 0))) (mCons (mOp fIx (mVarF 1) (mC (.int 1))) (mCons (mVarF 5) mNil)))) mNil)))))
def m__law_more_right_7 : MSTy := (mSeq (mAsg (mTup 2 (mCons (mC (.str [116, 111, 108, 100])) (mCons (mTup 3 (mCons (mOp fAdd (mOp fIx (mVarF 1) (mC (.int 0))) (mTup 1 (mCons (mVarF 5) mNil))) (mCons (mOp fAdd (mOp fIx (mVarF 1) (mC (.int 1))) (mTup 1 (mCons (mTup 4 (mCons (mC (.str [101, 108, 100, 101, 114])) (mCons (mCB fLen (mCons (mOp fIx (mVarF 1) (mC (.int 0))) mNil)) (mCons (mVarF 6) (mCons (mVarF 7) mNil))))) mNil))) (mCons (mOp fIx (mVarF 1) (mC (.int 2))) mNil)))) mNil))) (mgName 4)) (mSeqC (mIf (mOr (mB (mOp fEqA (mCB fLen (mCons (mOp fIx (mVarF 1) (mC (.int 1))) mNil)) (mC (.int 8)))) (mB (mOp fEqA (mCB fLen (mCons (mOp fIx (mVarF 1) (mC (.int 0))) mNil)) (mC (.int 6))))) (mAsg (mTup 2 (mCons (mC (.str [66, 97, 100, 67, 97, 108, 108])) (mCons (mC (.str [109, 97, 110, 121])) mNil))) (mgName 4)) mNext) m__law_more_right_9))
def m__law_more_right_6 : MSTy := (mSeqC (mAsg (mCall sp__law_most [true] (mcRef 0 mcNil)) (mgName 7)) m__law_more_right_7)
def m__law_more_right_4 : MSTy := (mSeq (mAsg (mCall sp__law_text [true, false, false] (mcRef 0 (mcVal (mVarF 2) (mcVal (mC (.int 6)) mcNil)))) (mgName 5)) (mSeqC (mAsg (mOp fEqA (mCall sp__law_dip [true, false] (mcRef 0 (mcVal (mC (.int 2)) mcNil))) (mC (.int 0))) (mgName 6)) m__law_more_right_6))
def m__law_more_right_3 : MSTy := (mSeqC (mIf (mNot (mB (mCall0 sp__law_same 2 (mCons (mCall0 sp__law_told 3 (mCons (mC (.str [114, 117, 108, 101])) (mCons (mVarF 1) (mCons (mTup 1 (mCons (mVarF 3) mNil)) mNil)))) (mCons (mVarF 4) mNil))))) (mRet (mC (.bl false))) mNext) m__law_more_right_4)
def m__law_more_right_2 : MSTy := (mSeqC (mIf (mB (mOp fEqA (mCB fLen (mCons (mOp fIx (mVarF 1) (mC (.int 1))) mNil)) (mC (.int 8)))) (mAsg (mTup 2 (mCons (mC (.str [66, 97, 100, 67, 97, 108, 108])) (mCons (mC (.str [109, 97, 110, 121])) mNil))) (mgName 4)) mNext) m__law_more_right_3)
def m__law_more_right_1 : MSTy := (mSeqC (mAsg (mTup 2 (mCons (mC (.str [116, 111, 108, 100])) (mCons (mTup 3 (mCons (mOp fIx (mVarF 1) (mC (.int 0))) (mCons (mOp fAdd (mOp fIx (mVarF 1) (mC (.int 1))) (mTup 1 (mCons (mVarF 3) mNil))) (mCons (mOp fIx (mVarF 1) (mC (.int 2))) mNil)))) mNil))) (mgName 4)) m__law_more_right_2)
def m__law_more_right : MSTy := (mSeqC (mAsg (mOp fIx (mCall sp__law_rules [true, false, false] (mcRef 0 (mcVal (mC (.int 1)) (mcVal (mCB fLen (mCons (mOp fIx (mVarF 1) (mC (.int 0))) mNil)) mcNil)))) (mC (.int 0))) (mgName 3)) m__law_more_right_1)
def m__law_forms_right_6 : MSTy := (mSeq (mAsg (mOp fAdd (mOp fAdd (mVarF 4) (mC (.int 1))) (mCall sp__law_dip [true, false] (mcRef 0 (mcVal (mOp fSub (mVarF 3) (mVarF 4)) mcNil)))) (mgName 5)) (mRet (mCall0 sp__law_same 2 (mCons (mCall0 sp_part_case 2 (mCons (mVarF 1) (mCons (mTup 2 (mCons (mVarF 4) (mCons (mVarF 5) mNil))) mNil))) (mCons (mTup 3 (mCons (mOp fIx (mVarF 1) (mC (.int 0))) (mCons (mVarF 2) (mCons (mSl (mOp fIx (mVarF 1) (mC (.int 2))) (mPart (mVarF 4)) (mPart (mVarF 5))) mNil)))) mNil)))))
def m__law_forms_right_4 : MSTy := (mSeq (mIf (mB (mOp fEqA (mVarF 3) (mC (.int 0)))) (mRet (mC (.bl true))) mNext) (mSeqC (mAsg (mCall sp__law_dip [true, false] (mcRef 0 (mcVal (mVarF 3) mcNil))) (mgName 4)) m__law_forms_right_6))
def m__law_forms_right_3 : MSTy := (mSeqC (mAsg (mCB fLen (mCons (mOp fIx (mVarF 1) (mC (.int 2))) mNil)) (mgName 3)) m__law_forms_right_4)
def m__law_forms_right_2 : MSTy := (mSeqC (mIf (mNot (mB (mCall0 sp__law_same 2 (mCons (mCall0 sp_turned_case 1 (mCons (mVarF 1) mNil)) (mCons (mTup 3 (mCons (mCB fTuple (mCons (mFz (mLc (miAny (mOp fIx (mVarF 1) (mC (.int 0)))) (mgName 6) mtYes (mRev (mVarF 6)) [6])) mNil)) (mCons (mVarF 2) (mCons (mRev (mOp fIx (mVarF 1) (mC (.int 2)))) mNil)))) mNil))))) (mRet (mC (.bl false))) mNext) m__law_forms_right_3)
def m__law_forms_right_1 : MSTy := (mSeqC (mIf (mNot (mB (mCall0 sp__law_same 2 (mCons (mCall0 sp_elder_case 1 (mCons (mVarF 1) mNil)) (mCons (mTup 3 (mCons (mOp fIx (mVarF 1) (mC (.int 0))) (mCons (mVarF 2) (mCons (mOp fIx (mVarF 1) (mC (.int 2))) mNil)))) mNil))))) (mRet (mC (.bl false))) mNext) m__law_forms_right_2)
def m__law_forms_right : MSTy := (mSeqC (mAsg (mCall0 sp__law_elder_rules 1 (mCons (mVarF 1) mNil)) (mgName 2)) m__law_forms_right_1)
def m__law_edits_right_12 : MSTy := (mSeq (mIf (mNot (mB (mCall0 sp__law_same 2 (mCons (mCall0 sp__law_told 3 (mCons (mC (.str [101, 100, 105, 116, 101, 100])) (mCons (mVarF 1) (mCons (mTup 2 (mCons (mTup 2 (mCons (mVarF 8) (mCons (mVarF 9) mNil))) (mCons (mVarF 5) mNil))) mNil)))) (mCons (mVarF 6) mNil))))) (mRet (mC (.bl false))) mNext) (mRet (mOrV (mNotV (mVarF 3)) (mCall0 sp__law_same 2 (mCons (mCall0 sp_edit_effect 3 (mCons (mVarF 1) (mCons (mTup 2 (mCons (mVarF 8) (mCons (mVarF 9) mNil))) (mCons (mVarF 5) mNil)))) (mCons (mOp fSub (mCall0 sp__law_pieces 1 (mCons (mOp fIx (mVarF 6) (mC (.int 1))) mNil)) (mVarF 7)) mNil))))))
def m__law_edits_right_11 : MSTy := (mSeqC (mIf (mB (mOp fGt (mOp fAdd (mOp fSub (mCB fLen (mCons (mVarF 4) mNil)) (mOp fSub (mVarF 9) (mVarF 8))) (mCB fLen (mCons (mVarF 5) mNil))) (mC (.int 300)))) (mAsg (mTup 2 (mCons (mC (.str [66, 97, 100, 67, 97, 108, 108])) (mCons (mC (.str [108, 111, 110, 103])) mNil))) (mgName 6)) mNext) m__law_edits_right_12)
def m__law_edits_right_10 : MSTy := (mSeqC (mAsg (mTup 2 (mCons (mC (.str [116, 111, 108, 100])) (mCons (mTup 3 (mCons (mOp fIx (mVarF 1) (mC (.int 0))) (mCons (mOp fIx (mVarF 1) (mC (.int 1))) (mCons (mOp fAdd (mOp fAdd (mSl (mVarF 4) mNo (mPart (mVarF 8))) (mVarF 5)) (mSl (mVarF 4) (mPart (mVarF 9)) mNo)) mNil)))) mNil))) (mgName 6)) m__law_edits_right_11)
def m__law_edits_right_9 : MSTy := (mSeqC (mAsg (mCB fMin (mCons (mCB fLen (mCons (mVarF 4) mNil)) (mCons (mOp fAdd (mOp fAdd (mVarF 8) (mC (.int 1))) (mCall sp__law_dip [true, false] (mcRef 0 (mcVal (mC (.int 3)) mcNil)))) mNil))) (mgName 9)) m__law_edits_right_10)
def m__law_edits_right_7 : MSTy := (mSeq (mIf (mB (mOp fEqA (mVarF 4) (mC (.str [])))) (mRet (mC (.bl true))) mNext) (mSeqC (mAsg (mCall sp__law_dip [true, false] (mcRef 0 (mcVal (mCB fLen (mCons (mVarF 4) mNil)) mcNil))) (mgName 8)) m__law_edits_right_9))
def m__law_edits_right_5 : MSTy := (mSeq (mAsg (mC (.int 0)) (mgName 7)) (mSeqC (mIf (mB (mVarF 3)) (mSeq (mAsg (mCall0 sp__law_pieces 1 (mCons (mVarF 1) mNil)) (mgName 7)) (mIf (mNot (mB (mCall0 sp__law_same 2 (mCons (mCall0 sp_append_effect 2 (mCons (mVarF 1) (mCons (mVarF 5) mNil))) (mCons (mOp fSub (mCall0 sp__law_pieces 1 (mCons (mOp fIx (mVarF 6) (mC (.int 1))) mNil)) (mVarF 7)) mNil))))) (mRet (mC (.bl false))) mNext)) mNext) m__law_edits_right_7))
def m__law_edits_right_4 : MSTy := (mSeqC (mIf (mNot (mB (mCall0 sp__law_same 2 (mCons (mCall0 sp__law_told 3 (mCons (mC (.str [97, 112, 112, 101, 110, 100, 101, 100])) (mCons (mVarF 1) (mCons (mTup 1 (mCons (mVarF 5) mNil)) mNil)))) (mCons (mVarF 6) mNil))))) (mRet (mC (.bl false))) mNext) m__law_edits_right_5)
def m__law_edits_right_3 : MSTy := (mSeqC (mIf (mB (mOp fGt (mOp fAdd (mCB fLen (mCons (mVarF 4) mNil)) (mCB fLen (mCons (mVarF 5) mNil))) (mC (.int 300)))) (mAsg (mTup 2 (mCons (mC (.str [66, 97, 100, 67, 97, 108, 108])) (mCons (mC (.str [108, 111, 110, 103])) mNil))) (mgName 6)) mNext) m__law_edits_right_4)
def m__law_edits_right_2 : MSTy := (mSeqC (mAsg (mTup 2 (mCons (mC (.str [116, 111, 108, 100])) (mCons (mTup 3 (mCons (mOp fIx (mVarF 1) (mC (.int 0))) (mCons (mOp fIx (mVarF 1) (mC (.int 1))) (mCons (mOp fAdd (mVarF 4) (mVarF 5)) mNil)))) mNil))) (mgName 6)) m__law_edits_right_3)
def m__law_edits_right : MSTy := (mSeq (mAsg (mOp fIx (mVarF 1) (mC (.int 2))) (mgName 4)) (mSeqC (mAsg (mCall sp__law_text [true, false, false] (mcRef 0 (mcVal (mVarF 2) (mcVal (mC (.int 4)) mcNil)))) (mgName 5)) m__law_edits_right_2))
def m_law_17 : MSTy := (mSeq (mAsg (mTup 3 (mCons (mOp fMulT (mTup 1 (mCons (mC (.str [97])) mNil)) (mC (.int 6))) (mCons (mOp fMulT (mTup 1 (mCons (mTup 5 (mCons (mC (.str [98, 97, 99, 107])) (mCons (mC (.int 1)) (mCons (mC (.bl false)) (mCons (mC (.bl false)) (mCons (mC (.int 2)) mNil)))))) mNil)) (mOp fAdd (mC (.int 7)) (mCall sp__law_dip [true, false] (mcRef 1 (mcVal (mC (.int 2)) mcNil))))) (mCons (mC (.str [97, 97])) mNil)))) (mgName 12)) (mRet (mAndV (mCall sp__law_more_right [true, false, false] (mcRef 1 (mcVal (mVarF 12) (mcVal (mVarF 2) mcNil)))) (mAndV (mCall sp__law_numbers_right [true, false] (mcRef 1 (mcVal (mVarF 12) mcNil))) (mCall sp__law_forms_right [true, false] (mcRef 1 (mcVal (mVarF 12) mcNil)))))))
def m_law_16 : MSTy := (mSeqC (mIf (mNot (mB (mCall0 sp__law_same 2 (mCons (mCall0 sp__law_told 3 (mCons (mC (.str [101, 100, 105, 116, 101, 100])) (mCons (mTup 3 (mCons (mTup 0 mNil) (mCons (mTup 0 mNil) (mCons (mOp fIx (mVarF 10) (mC (.int 0))) mNil)))) (mCons (mTup 2 (mCons (mOp fIx (mVarF 10) (mC (.int 1))) (mCons (mOp fIx (mVarF 10) (mC (.int 2))) mNil))) mNil)))) (mCons (mVarF 11) mNil))))) (mRet (mC (.bl false))) mNext) m_law_17)
def m_law_15 : MSTy := (mSeqC (mIf (mB (mOp fGt (mCB fLen (mCons (mOp fIx (mVarF 10) (mC (.int 2))) mNil)) (mC (.int 299)))) (mAsg (mTup 2 (mCons (mC (.str [66, 97, 100, 67, 97, 108, 108])) (mCons (mC (.str [108, 111, 110, 103])) mNil))) (mgName 11)) mNext) m_law_16)
def m_law_14 : MSTy := (mSeqC (mAsg (mTup 2 (mCons (mC (.str [116, 111, 108, 100])) (mCons (mTup 3 (mCons (mTup 0 mNil) (mCons (mTup 0 mNil) (mCons (mOp fAdd (mOp fIx (mVarF 10) (mC (.int 2))) (mC (.str [99]))) mNil)))) mNil))) (mgName 11)) m_law_15)
def m_law_13 : MSTy := (mSeqC (mAsg (mTup 3 (mCons (mOp fMul (mC (.str [99])) (mC (.int 300))) (mCons (mTup 2 (mCons (mC (.int 0)) (mCons (mC (.int 299)) mNil))) (mCons (mOp fMul (mC (.str [100])) (mOp fAdd (mC (.int 299)) (mCall sp__law_dip [true, false] (mcRef 1 (mcVal (mC (.int 2)) mcNil))))) mNil)))) (mgName 10)) m_law_14)
def m_law_12 : MSTy := (mSeqC (mIf (mNot (mB (mCall sp__law_edits_right [true, false, false, false] (mcRef 1 (mcVal (mTup 3 (mCons (mVarF 5) (mCons (mTup 0 mNil) (mCons (mSl (mOp fMul (mC (.str [97, 98])) (mC (.int 150))) mNo (mPart (mVarF 9))) mNil)))) (mcVal (mVarF 2) (mcVal (mC (.bl false)) mcNil))))))) (mRet (mC (.bl false))) mNext) m_law_13)
def m_law_11 : MSTy := (mSeqC (mAsg (mOp fAdd (mC (.int 296)) (mCall sp__law_dip [true, false] (mcRef 1 (mcVal (mC (.int 5)) mcNil)))) (mgName 9)) m_law_12)
def m_law_10 : MSTy := (mSeqC (mIf (mOr (mNot (mB (mCall sp__law_edits_right [true, false, false, false] (mcRef 1 (mcVal (mVarF 8) (mcVal (mVarF 2) (mcVal (mC (.bl true)) mcNil))))))) (mNot (mB (mCall sp__law_forms_right [true, false] (mcRef 1 (mcVal (mVarF 8) mcNil)))))) (mRet (mC (.bl false))) mNext) m_law_11)
def m_law_9 : MSTy := (mSeqC (mAsg (mTup 3 (mCons (mVarF 5) (mCons (mSl (mOp fIx (mVarF 7) (mC (.int 1))) mNo (mPart (mC (.int 3)))) (mCons (mVarF 6) mNil)))) (mgName 8)) m_law_10)
def m_law_8 : MSTy := (mSeqC (mIf (mOr (mNot (mB (mCall sp__law_numbers_right [true, false] (mcRef 1 (mcVal (mVarF 7) mcNil))))) (mOr (mNot (mB (mCall sp__law_more_right [true, false, false] (mcRef 1 (mcVal (mVarF 7) (mcVal (mVarF 2) mcNil)))))) (mNot (mB (mCall sp__law_forms_right [true, false] (mcRef 1 (mcVal (mVarF 7) mcNil))))))) (mRet (mC (.bl false))) mNext) m_law_9)
def m_law_7 : MSTy := (mSeqC (mAsg (mTup 3 (mCons (mVarF 5) (mCons (mCall sp__law_rules [true, false, false] (mcRef 1 (mcVal (mOp fIx (mTup 5 (mCons (mC (.int 3)) (mCons (mC (.int 4)) (mCons (mC (.int 8)) (mCons (mC (.int 0)) (mCons (mC (.int 7)) mNil)))))) (mCall sp__law_dip [true, false] (mcRef 1 (mcVal (mC (.int 5)) mcNil)))) (mcVal (mVarF 4) mcNil)))) (mCons (mVarF 6) mNil)))) (mgName 7)) m_law_8)
def m_law_6 : MSTy := (mSeqC (mIf (mAnd (mB (mOp fGt (mVarF 4) (mC (.int 0)))) (mB (mOp fEqA (mCall sp__law_dip [true, false] (mcRef 1 (mcVal (mC (.int 2)) mcNil))) (mC (.int 0))))) (mAsg (mSl (mOp fAdd (mOp fAdd (mOp fIx (mVarF 5) (mC (.int 0))) (mOp fIx (mVarF 5) (mUn fNeg (mC (.int 1))))) (mVarF 6)) mNo (mPart (mC (.int 9)))) (mgName 6)) mNext) m_law_7)
def m_law_5 : MSTy := (mSeqC (mAsg (mCall sp__law_text [true, false, false] (mcRef 1 (mcVal (mVarF 2) (mcVal (mC (.int 9)) mcNil)))) (mgName 6)) m_law_6)
def m_law_3 : MSTy := (mSeq (mAsg (mOp fIx (mTup 5 (mCons (mC (.int 0)) (mCons (mC (.int 1)) (mCons (mC (.int 2)) (mCons (mC (.int 3)) (mCons (mC (.int 6)) mNil)))))) (mVarF 3)) (mgName 4)) (mSeqC (mAsg (mCB fTuple (mCons (mFz (mLc (miRng1 (mVarF 4)) (mgName 13) mtYes (mCall sp__law_text [true, false, false] (mcRef 1 (mcVal (mVarF 2) (mcVal (mC (.int 6)) mcNil)))) [13])) mNil)) (mgName 5)) m_law_5))
def m_law : MSTy := (mSeq (mSetW 1 (mCallW sp__law_tub [false] (mcVal (mVarF 0) mcNil))) (mSeq (mAsg (mCall sp__law_signs [true] (mcRef 1 mcNil)) (mgName 2)) (mSeqC (mAsg (mCall sp__law_dip [true, false] (mcRef 1 (mcVal (mC (.int 5)) mcNil))) (mgName 3)) m_law_3)))
end Lw
end

-- text Wc_k36
section
set_option Elab.async false
set_option linter.all false
set_option maxRecDepth 100000
set_option maxHeartbeats 1000000
namespace Lw
open PySem PySem.Spec PyProof.Rows L2 Mi
theorem cml_r {i j : Int} (h1 : -(2 ^ 64) < j) (h2 : j < 2 ^ 64) : CMl i j := .inl (.inr ⟨h1, h2⟩)
theorem cml_l {i j : Int} (h1 : -(2 ^ 64) < i) (h2 : i < 2 ^ 64) : CMl i j := .inl (.inl ⟨h1, h2⟩)
theorem enum_get {ds : List D} {k : Nat} {d : D} (h : (enumD ds)[k]? = some d) : ∃ e, ds[k]? = some e ∧ d = .tup [.int (k : Int), e] := by
  have hk : k < ds.length := by
    have := (List.getElem?_eq_some_iff.mp h).1
    simpa [enumD] using this
  refine ⟨ds[k], List.getElem?_eq_getElem hk, ?_⟩
  simp [enumD, hk] at h
  exact h.symm
theorem enum_len {ds : List D} : (enumD ds).length = ds.length := by simp [enumD]
theorem atI_ex {α : Type} {xs : List α} {v : Int} (h : 0 ≤ v) (h2 : v < xs.length) : ∃ x, x ∈ xs ∧ atI xs v = some x := by
  obtain ⟨n, rfl⟩ : ∃ n : Nat, v = n := ⟨v.toNat, by omega⟩
  have h2 : n < xs.length := by omega
  exact ⟨xs[n], List.getElem_mem h2, atI_nn (List.getElem?_eq_getElem h2)⟩
theorem atI_all {α : Type} (P : α → Prop) {xs : List α} {v : Int} (h : 0 ≤ v) (h2 : v < xs.length) (hp : ∀ x ∈ xs, P x) : ∃ x, P x ∧ atI xs v = some x := by
  obtain ⟨x, hx, e⟩ := atI_ex h h2
  exact ⟨x, hp x hx, e⟩
theorem get_all {P : D → Prop} {l : List D} {i : Nat} {d : D} (h : l[i]? = some d) (hp : ∀ x ∈ l, P x) : P d := hp d (List.mem_of_getElem? h)
theorem map_get {α β : Type} {l : List α} {f : α → β} {i : Nat} {e : β} (h : (l.map f)[i]? = some e) : ∃ a, l[i]? = some a ∧ e = f a := by
  rw [List.getElem?_map] at h
  cases c : l[i]? with
  | none => rw [c] at h; cases h
  | some a => rw [c] at h; exact ⟨a, rfl, by simpa using h.symm⟩
theorem map_ix {α : Type} {l : List α} {f : α → D} {k : Nat} {a : α} (h : l[k]? = some a) : atI (l.map f) (k : Int) = some (f a) := by
  refine atI_nn ?_
  rw [List.getElem?_map, h]
  rfl
theorem ix_in {n : Nat} {v : Int} (h : 0 ≤ v) (h2 : v < n) : ixN n v = some v.toNat := by
  unfold ixN
  rw [if_pos h, if_pos h2]
def BigI (m : Nat) (d : D) : Prop := ∃ n : Nat, d = .int (n : Int) ∧ n ≤ m
def NI (v : Option D) : Prop := v = none ∨ ∃ i, v = some (.int i)
theorem cn_nats (l : List Nat) (h : l.length ≤ 100000) : Cn 5 (.tup (nats l)) := by
  refine ⟨by simpa [nats] using h, ?_⟩
  intro x hx
  obtain ⟨n, _, rfl⟩ := List.mem_map.mp hx
  trivial
theorem nats_fz (l : List Nat) : fzs (nats l) = true := by
  unfold fzs nats
  simp [D.fz]

theorem pl_up {d : D} (h : ∃ m, Cn m d) : match d with
    | .non => True
    | .bl _ => True
    | .int _ => True
    | .str _ => True
    | .tup ds => ds.length ≤ 100000 ∧ ∀ x ∈ ds, ∃ m, Cn m x
    | .lst ds => ds.length ≤ 100000 ∧ ∀ x ∈ ds, ∃ m, Cn m x
    | _ => False := by
  obtain ⟨n, h⟩ := h
  cases n with
  | zero => exact h.elim
  | succ n => cases d <;> first | trivial | exact h.elim | exact ⟨h.1, fun x hx => ⟨n, h.2 x hx⟩⟩
end Lw
end

-- text K36a
section
set_option Elab.async false
set_option linter.all false
set_option maxRecDepth 100000
set_option maxHeartbeats 1000000
namespace Lw
open PySem PySem.Spec PyProof.Rows L2 Mi
/-! ### slices -/
def sl (t : Tx) (a m : Nat) : Tx := (t.take (a + m)).drop a
theorem sl_cut {t : Tx} {a m : Nat} : cutD t (some (a : Int)) (some ((a : Int) + (m : Int))) = sl t a m := by
  rw [← Int.natCast_add, cutD_nn]
  rfl
theorem sl_get {t : Tx} {a m s : Nat} (h : s < m) : (sl t a m)[s]? = t[a + s]? := by
  unfold sl
  rw [List.getElem?_drop, List.getElem?_take_of_lt (by omega)]
theorem sl_len {t : Tx} {a m : Nat} : (sl t a m).length = min (a + m) t.length - a := by simp [sl]
def pc (t : Bool) (x : Tx) : Tx := match t with
  | true => x.reverse
  | false => x
def rv (t : Bool) (m s : Nat) : Nat := match t with
  | true => m - 1 - s
  | false => s
theorem plc_rv {t : Bool} {a m s : Nat} : plc t a m s = a + rv t m s := by cases t <;> rfl
theorem rv_lt {t : Bool} {m s : Nat} (h : s < m) : rv t m s < m := by cases t <;> simp only [rv] <;> omega
theorem rv_rv {t : Bool} {m s : Nat} (h : s < m) : rv t m (rv t m s) = s := by cases t <;> simp only [rv] <;> omega
theorem pc_len {t : Bool} {x : Tx} : (pc t x).length = x.length := by cases t <;> simp [pc]
theorem pc_get {t : Bool} {x : Tx} {s : Nat} (h : s < x.length) : (pc t x)[s]? = x[rv t x.length s]? := by
  cases t
  · rfl
  · simp only [pc, rv]
    rw [List.getElem?_reverse h]
theorem part_iff {text new : Tx} {t : Bool} {a i m : Nat} (hm : 0 < m) (h : i + m ≤ new.length) : sl text a m = pc t (sl new i m) ↔ (a + m ≤ text.length ∧ ∀ s, s < m → text[plc t a m s]? = new[i + s]?) := by
  have l1 : (sl new i m).length = m := by rw [sl_len]; omega
  have l2 : (pc t (sl new i m)).length = m := by rw [pc_len, l1]
  constructor
  · intro e
    have e2 := congrArg List.length e
    rw [l2, sl_len] at e2
    refine ⟨by omega, fun s hs => ?_⟩
    have e3 : (sl text a m)[rv t m s]? = (pc t (sl new i m))[rv t m s]? := by rw [e]
    rw [sl_get (rv_lt hs), pc_get (by rw [l1]; exact rv_lt hs), l1, rv_rv hs, sl_get hs] at e3
    rw [plc_rv]
    exact e3
  · rintro ⟨h1, h2⟩
    apply List.ext_getElem?
    intro k
    by_cases hk : k < m
    · rw [sl_get hk, pc_get (by rw [l1]; exact hk), l1, sl_get (rv_lt hk), ← h2 _ (rv_lt hk), plc_rv, rv_rv hk]
    · rw [List.getElem?_eq_none (by rw [sl_len]; omega), List.getElem?_eq_none (by rw [l2]; omega)]
theorem hb_elder {es : List Tx} {new : Tx} {e : Nat} {t : Bool} {mo : Int} {i m : Nat} (hm : 0 < m) (h : i + m ≤ new.length) (hmo : (m : Int) ≤ mo) : hb es new (.elder e t mo) i m = isIn (pc t (sl new i m)) (es.getD e []) := by
  have l2 : (pc t (sl new i m)).length = m := by rw [pc_len, sl_len]; omega
  rw [Bool.eq_iff_iff, hb_iff hm, isIn_iff, l2]
  have key : ∀ a, ((es.getD e []).drop a).take m = sl (es.getD e []) a m := by
    intro a
    unfold sl
    rw [List.drop_take]
    congr 1
    omega
  constructor
  · rintro ⟨a, _, ha⟩
    have g := ha 0 hm
    have g2 := ha (m - 1) (by omega)
    have g := g.1
    have g2 := g2.1
    have hl : a + m ≤ (es.getD e []).length := by
      have g : plc t a m 0 < (es.getD e []).length := g
      have g2 : plc t a m (m - 1) < (es.getD e []).length := g2
      cases t <;> simp only [plc] at g g2 <;> omega
    refine ⟨a, by omega, ?_⟩
    rw [key, part_iff hm h]
    exact ⟨hl, fun s hs => (ha s hs).2.1⟩
  · rintro ⟨a, _, ha⟩
    rw [key, part_iff hm h] at ha
    refine ⟨a, hmo, fun s hs => ⟨?_, ha.2 s hs, trivial⟩⟩
    show plc t a m s < (es.getD e []).length
    have := ha.1
    have := rv_lt (t := t) hs
    rw [plc_rv]
    omega
def lowB (w : Int) (t : Bool) (i m : Nat) : Int := match t with
  | true => (i : Int) - w + m - 1
  | false => (i : Int) - w
def highB (a t : Bool) (i m : Nat) : Int := match t || a with
  | true => (i : Int) - m
  | false => (i : Int) - 1
theorem near_all {w mo : Int} {ap t : Bool} {a i m : Nat} (hm : 0 < m) : (∀ s, s < m → near i s (plc t a m s) (.back w ap t mo)) ↔ (lowB w t i m ≤ a ∧ (a : Int) ≤ highB ap t i m) := by
  constructor
  · intro h
    have h0 := h 0 hm
    have h1 := h (m - 1) (by omega)
    simp only [near] at h0 h1
    cases t <;> cases ap <;> simp only [plc, lowB, highB, Bool.or_self, Bool.or_true, Bool.or_false, Bool.true_or, Bool.false_or, forall_const, false_implies, Bool.false_eq_true, and_true, true_implies] at h0 h1 ⊢ <;> omega
  · rintro ⟨h1, h2⟩ s hs
    simp only [near]
    cases t <;> cases ap <;> simp only [plc, lowB, highB, Bool.or_self, Bool.or_true, Bool.or_false, Bool.true_or, Bool.false_or, forall_const, false_implies, Bool.false_eq_true, and_true, true_implies] at h1 h2 ⊢ <;> omega
theorem hb_back {es : List Tx} {new : Tx} {w : Int} {ap t : Bool} {mo : Int} {i m : Nat} (hm : 0 < m) (h : i + m ≤ new.length) (hmo : (m : Int) ≤ mo) : hb es new (.back w ap t mo) i m = true ↔ ∃ a : Nat, (lowB w t i m ≤ a ∧ (a : Int) ≤ highB ap t i m) ∧ sl new a m = pc t (sl new i m) := by
  rw [hb_iff hm]
  constructor
  · rintro ⟨a, _, ha⟩
    have g : plc t a m 0 < new.length := (ha 0 hm).1
    have g2 : plc t a m (m - 1) < new.length := (ha (m - 1) (by omega)).1
    refine ⟨a, (near_all (mo := mo) hm).mp fun s hs => (ha s hs).2.2, ?_⟩
    rw [part_iff hm h]
    refine ⟨?_, fun s hs => (ha s hs).2.1⟩
    cases t <;> simp only [plc] at g g2 <;> omega
  · rintro ⟨a, hr, ha⟩
    rw [part_iff hm h] at ha
    refine ⟨a, hmo, fun s hs => ⟨?_, ha.2 s hs, (near_all (mo := mo) hm).mpr hr s hs⟩⟩
    show plc t a m s < new.length
    have := ha.1
    have := rv_lt (t := t) hs
    rw [plc_rv]
    omega
/-! ### walks -/
theorem wp_is_number : WpOk [false] 0 sp_is_number m_is_number := by
  rintro ds q x - ⟨d, rfl, hd, hq⟩
  have := pl_up hd
  cases d <;> first | exact this.elim | (repeat (first | exact hq | refine ⟨fun _ => ?_, fun h => ab_tf h⟩ | refine ⟨fun h => ab_ft h, fun _ => ?_⟩))
theorem rz {E : Es} {t : Tx} {d : D} (hd : d.fz = true) (he : E.ex ⟨12, [(2, d), (1, .str STRETCH)]⟩ [some (.str t), some d]) : mRaise2 12 1 2 (mCons (mC (.str [115, 116, 114, 101, 116, 99, 104])) (mCons (mVarF 1) mNil)) E [some (.str t), some d] := by
  conv => whnf
  rw [hd]
  exact he
theorem strOf_len {n : Nat} {xs : List D} (h : xs.length ≠ 2) : strOf n (.tup xs) = none := by
  unfold strOf
  split
  · rename_i a b e
    cases e
    exact absurd rfl h
  · rfl
theorem wp_check_stretch : WpOk [false, false] 0 sp_check_stretch m_check_stretch := by
  rintro ds q x - ⟨t, d, rfl, hd, hq⟩
  have hp := pl_up hd
  cases d with
  | tup xs =>
    obtain ⟨_, hx⟩ := hp
    have hz : (D.tup xs).fz = true := cn_fz hd
    clear hd
    match xs, hx, hz, hq with
    | [], _, hz, hq => (repeat (first | exact hq | refine ⟨fun _ => ?_, fun h => ab_tf h⟩ | refine ⟨fun h => ab_ft h, fun _ => ?_⟩ | (refine rz (t := t) hz ?_; exact hq)))
    | [_], _, hz, hq =>
      rw [strOf_len (by simp)] at hq
      (repeat (first | exact hq | refine ⟨fun _ => ?_, fun h => ab_tf h⟩ | refine ⟨fun h => ab_ft h, fun _ => ?_⟩ | (refine rz (t := t) hz ?_; exact hq)))
    | [a, b], hx, hz, hq =>
      have ha := hx a (by simp)
      have hb := hx b (by simp)
      have pa := pl_up ha
      have pb := pl_up hb
      refine ⟨fun h => ab_ft h, fun _ => ⟨fun h => ab_ft h, fun _ => ?_⟩⟩
      refine ⟨a, atI_nn (i := 0) rfl, a, rfl, ha, ?_⟩
      cases a with
      | int i =>
        refine ⟨fun h => ab_ft h, fun _ => ?_⟩
        refine ⟨b, atI_nn (i := 1) rfl, b, rfl, hb, ?_⟩
        cases b with
        | int j =>
          refine ⟨fun h => ab_ft h, fun _ => ?_⟩
          have e : strOf t.length (.tup [.int i, .int j]) = (match decide (0 ≤ i ∧ i < j ∧ j ≤ (t.length : Int)) with
            | true => some (i.toNat, j.toNat)
            | false => none) := rfl
          rw [e] at hq
          clear e
          refine ⟨.int i, atI_nn (i := 0) rfl, ⟨fun h0 => ⟨.int j, atI_nn (i := 1) rfl, ⟨fun h1 => ⟨fun h2 => ?_, fun h2 => ?_⟩, fun h1 => ⟨fun _ => ?_, fun h => ab_tf h⟩⟩⟩, fun h0 => ⟨fun _ => ?_, fun h => ab_tf h⟩⟩⟩
          · have h2 : (!decide (j ≤ (t.length : Int))) = true := h2
            rw [decide_eq_false (by intro z; simp at h2; omega)] at hq
            (repeat (first | exact hq | refine ⟨fun _ => ?_, fun h => ab_tf h⟩ | refine ⟨fun h => ab_ft h, fun _ => ?_⟩ | (refine rz (t := t) hz ?_; exact hq)))
          · have h2 : (!decide (j ≤ (t.length : Int))) = false := h2
            have h0 := of_decide_eq_true h0
            have h1 := of_decide_eq_true h1
            have h2 : j ≤ (t.length : Int) := by simpa using h2
            rw [decide_eq_true ⟨h0, h1, h2⟩] at hq
            have hq : q (.int (((j.toNat : Nat) : Int) - ((i.toNat : Nat) : Int))) _ := hq
            rw [Int.toNat_of_nonneg h0, Int.toNat_of_nonneg (by omega)] at hq
            exact ⟨.int j, atI_nn (i := 1) rfl, .int i, atI_nn (i := 0) rfl, hq⟩
          · have h1 := of_decide_eq_false h1
            rw [decide_eq_false (fun z => h1 z.2.1)] at hq
            exact hq
          · have h0 := of_decide_eq_false h0
            rw [decide_eq_false (fun z => h0 z.1)] at hq
            exact hq
        | _ => first | exact pb.elim | (repeat (first | exact hq | refine ⟨fun _ => ?_, fun h => ab_tf h⟩ | refine ⟨fun h => ab_ft h, fun _ => ?_⟩ | (refine rz (t := t) hz ?_; exact hq)))
      | _ => first | exact pa.elim | (repeat (first | exact hq | refine ⟨fun _ => ?_, fun h => ab_tf h⟩ | refine ⟨fun h => ab_ft h, fun _ => ?_⟩ | (refine rz (t := t) hz ?_; exact hq)))
    | _ :: _ :: _ :: r, _, hz, hq =>
      rw [strOf_len (by simp)] at hq
      refine ⟨fun h => ab_ft h, fun _ => ⟨fun _ => ?_, fun h => ?_⟩⟩
      · (repeat (first | exact hq | refine ⟨fun _ => ?_, fun h => ab_tf h⟩ | refine ⟨fun h => ab_ft h, fun _ => ?_⟩ | (refine rz (t := t) hz ?_; exact hq)))
      · have h : (!decide ((((r.length + 1 + 1 + 1) : Nat) : Int) = 2)) = false := h
        simp at h
        omega
  | _ => first | exact hp.elim | (repeat (first | exact hq | refine ⟨fun _ => ?_, fun h => ab_tf h⟩ | refine ⟨fun h => ab_ft h, fun _ => ?_⟩ | (refine rz (t := t) hz ?_; exact hq)))
theorem rD_fz (r : Rule) : (rD r).fz = true := by cases r <;> rfl
theorem wp_is_turning : WpOk [false] 0 sp_is_turning m_is_turning := by
  rintro ds q x - ⟨r, rfl, hq⟩
  cases r <;> exact ⟨_, rfl, hq⟩
abbrev HBE (es : List Tx) (rs : List Rule) (new : Tx) (k i m : Nat) (q : D → List D → Prop) (x : Er → List D → Prop) : Es := endsOf [false, false, false, false] [caseD es rs new, .int (k : Int), .int (i : Int), .int (m : Int)] q x
section
variable {es : List Tx} {rs : List Rule} {new : Tx} {k i m : Nat} {q : D → List D → Prop} {x : Er → List D → Prop}
theorem wl_hb10 {ρ7 : D} {part : Tx} {low high : Int} (hl : low ≤ 10000) (hh : -10000 ≤ high ∧ high ≤ 10000) (hm : m ≤ 1000)
    (ht : (∃ a : Nat, (low ≤ a ∧ (a : Int) ≤ high) ∧ sl new a m = part) → q (.bl true) [caseD es rs new, .int (k : Int), .int (i : Int), .int (m : Int)])
    (hf : (¬ ∃ a : Nat, (low ≤ a ∧ (a : Int) ≤ high) ∧ sl new a m = part) → q (.bl false) [caseD es rs new, .int (k : Int), .int (i : Int), .int (m : Int)]) :
    m__heard_by_10 (HBE es rs new k i m q x) [some (caseD es rs new), some (.int (k : Int)), some (.int (i : Int)), some (.int (m : Int)), some (.tup (es.map D.str)), some (.tup (rs.map rD)), some (.str new), some ρ7, some (.str part), some (.int low), some (.int high), none] := by
  have e0 : (fun (i j : Int) => if j > i then j else i) 0 low = ((low.toNat : Nat) : Int) := by
    show (if low > 0 then low else 0) = _
    split <;> omega
  refine ⟨⟨bd_of (by rw [e0]; omega) (by rw [e0]; omega), bd_of (by omega) (by omega)⟩, ?_⟩
  refine ⟨fun n ρ => (∃ v, ρ = [some (caseD es rs new), some (.int (k : Int)), some (.int (i : Int)), some (.int (m : Int)), some (.tup (es.map D.str)), some (.tup (rs.map rD)), some (.str new), some ρ7, some (.str part), some (.int low), some (.int high), v]) ∧ ∀ a : Nat, low ≤ a → a < low.toNat + n → sl new a m ≠ part, ⟨⟨_, rfl⟩, fun a h1 h2 => by omega⟩, ?_, ?_⟩
  · rintro n d ρ hd ⟨⟨v, rfl⟩, hn⟩
    rw [e0] at hd
    obtain ⟨hk, rfl⟩ := rng_get hd
    have hk : n < (high + 1 - ((low.toNat : Nat) : Int)).toNat := hk
    have e : ((low.toNat : Nat) : Int) + (n : Int) = ((low.toNat + n : Nat) : Int) := by omega
    rw [e]
    refine ⟨fun h => ?_, fun h => ?_⟩
    · have h : decide (cutD new (some ((low.toNat + n : Nat) : Int)) (some (((low.toNat + n : Nat) : Int) + (m : Int))) = part) = true := h
      rw [sl_cut] at h
      exact ht ⟨low.toNat + n, ⟨by omega, by omega⟩, of_decide_eq_true h⟩
    · have h : decide (cutD new (some ((low.toNat + n : Nat) : Int)) (some (((low.toNat + n : Nat) : Int) + (m : Int))) = part) = false := h
      rw [sl_cut] at h
      refine ⟨⟨_, rfl⟩, fun a h1 h2 => ?_⟩
      by_cases z : a = low.toNat + n
      · rw [z]; exact of_decide_eq_false h
      · exact hn a h1 (by omega)
  · rintro ρ ⟨⟨v, rfl⟩, hn⟩
    have e1 : (rngI ((fun (i j : Int) => if j > i then j else i) 0 low) (high + 1 - ((fun (i j : Int) => if j > i then j else i) 0 low)).toNat).length = (high + 1 - ((low.toNat : Nat) : Int)).toNat := by rw [rng_len, e0]
    have hn : ∀ a : Nat, low ≤ a → a < low.toNat + (rngI ((fun (i j : Int) => if j > i then j else i) 0 low) (high + 1 - ((fun (i j : Int) => if j > i then j else i) 0 low)).toNat).length → sl new a m ≠ part := hn
    rw [e1] at hn
    exact hf fun ⟨a, ⟨h1, h2⟩, h3⟩ => hn a h1 (by omega) h3
theorem wp__heard_by : WpOk [false, false, false, false] 8 sp__heard_by m__heard_by := by
  rintro ds q x - ⟨es, rs, new, k, i, m, r, rfl, C, hk, hm, him, hq⟩
  have hn := C.hn
  have ok := C.hru r (List.mem_of_getElem? hk)
  cases r with
  | elder e t mo =>
    have ok : e < es.length := ok
    refine ⟨rD (.elder e t mo), map_ix hk, .int mo, rfl, fun h => ?_, fun h => ?_⟩
    · have h : mo < (m : Int) := of_decide_eq_true h
      have : hb es new (.elder e t mo) i m = false := by
        cases z : hb es new (.elder e t mo) i m with
        | false => rfl
        | true =>
          obtain ⟨a, ha⟩ := (hb_iff hm).mp z
          have : (m : Int) ≤ mo := ha.1
          omega
      rw [this] at hq
      exact hq
    · have h : ¬ mo < (m : Int) := of_decide_eq_false h
      rw [hb_elder hm him (by omega), ← sl_cut] at hq
      refine ⟨fun ρ => ρ = [some (caseD es rs new), some (.int (k : Int)), some (.int (i : Int)), some (.int (m : Int)), some (.tup (es.map D.str)), some (.tup (rs.map rD)), some (.str new), some (rD (.elder e t mo)), some (.str (pc t (cutD new (some (i : Int)) (some ((i : Int) + (m : Int)))))), none, none, none], ?_, ?_⟩
      · refine ⟨.elder e t mo, rfl, fun h => ?_, fun h => ?_⟩ <;> (have h : t = _ := h; subst h; rfl)
      · rintro ρ rfl
        refine ⟨.str ELDER, rfl, fun _ => ?_, fun h => ab_tf h⟩
        refine ⟨.int (e : Int), rfl, .str es[e], map_ix (List.getElem?_eq_getElem ok), ?_, ?_⟩
        · intro z
          have := congrArg List.length z
          rw [sl_cut, pc_len, sl_len] at this
          simp at this
          omega
        · have e2 : es.getD e [] = es[e] := by simp [List.getD, ok]
          rw [e2] at hq
          exact hq
  | back w ap t mo =>
    have ok : 0 ≤ w ∧ w ≤ 1000 := ok
    refine ⟨rD (.back w ap t mo), map_ix hk, .int mo, rfl, fun h => ?_, fun h => ?_⟩
    · have h : mo < (m : Int) := of_decide_eq_true h
      have : hb es new (.back w ap t mo) i m = false := by
        cases z : hb es new (.back w ap t mo) i m with
        | false => rfl
        | true =>
          obtain ⟨a, ha⟩ := (hb_iff hm).mp z
          have : (m : Int) ≤ mo := ha.1
          omega
      rw [this] at hq
      exact hq
    · have h : ¬ mo < (m : Int) := of_decide_eq_false h
      have hbb := hb_back (es := es) (w := w) (ap := ap) (t := t) (mo := mo) hm him (by omega)
      refine ⟨fun ρ => ρ = [some (caseD es rs new), some (.int (k : Int)), some (.int (i : Int)), some (.int (m : Int)), some (.tup (es.map D.str)), some (.tup (rs.map rD)), some (.str new), some (rD (.back w ap t mo)), some (.str (pc t (cutD new (some (i : Int)) (some ((i : Int) + (m : Int)))))), none, none, none], ?_, ?_⟩
      · refine ⟨.back w ap t mo, rfl, fun h => ?_, fun h => ?_⟩ <;> (have h : t = _ := h; subst h; rfl)
      · rintro ρ rfl
        rw [sl_cut]
        refine ⟨.str BACK, rfl, fun h => ab_ft h, fun _ => ?_⟩
        refine ⟨.int w, rfl, fun ρ => ρ = [some (caseD es rs new), some (.int (k : Int)), some (.int (i : Int)), some (.int (m : Int)), some (.tup (es.map D.str)), some (.tup (rs.map rD)), some (.str new), some (rD (.back w ap t mo)), some (.str (pc t (sl new i m))), some (.int (lowB w t i m)), some (.int ((i : Int) - 1)), none], ?_, ?_⟩
        · refine ⟨.back w ap t mo, rfl, fun h => ?_, fun h => ?_⟩ <;> (have h : t = _ := h; subst h; rfl)
        · rintro ρ rfl
          refine ⟨fun ρ => ρ = [some (caseD es rs new), some (.int (k : Int)), some (.int (i : Int)), some (.int (m : Int)), some (.tup (es.map D.str)), some (.tup (rs.map rD)), some (.str new), some (rD (.back w ap t mo)), some (.str (pc t (sl new i m))), some (.int (lowB w t i m)), some (.int (highB ap t i m)), none], ?_, ?_⟩
          · refine ⟨.back w ap t mo, rfl, fun h => ?_, fun h => ⟨.bl ap, rfl, fun h2 => ?_, fun h2 => ?_⟩⟩
            · have h : t = _ := h
              subst h
              exact ⟨fun _ => rfl, fun h => ab_tf h⟩
            · have h : t = _ := h
              have h2 : ap = _ := h2
              subst h; subst h2; rfl
            · have h : t = _ := h
              have h2 : ap = _ := h2
              subst h; subst h2; rfl
          · rintro ρ rfl
            refine wl_hb10 ?_ ?_ (by omega) (fun z => ?_) (fun z => ?_)
            · cases t <;> simp only [lowB] <;> omega
            · cases t <;> cases ap <;> simp only [highB, Bool.or_self, Bool.or_true, Bool.or_false, Bool.true_or, Bool.false_or] <;> omega
            · rw [hbb.mpr z] at hq
              exact hq
            · have : hb es new (.back w ap t mo) i m = false := by
                cases y : hb es new (.back w ap t mo) i m with
                | false => rfl
                | true => exact absurd (hbb.mp y) z
              rw [this] at hq
              exact hq
end
end Lw
end

-- text K36b
section
set_option Elab.async false
set_option linter.all false
set_option maxRecDepth 100000
set_option maxHeartbeats 1000000
namespace Lw
open PySem PySem.Spec PyProof.Rows L2 Mi
theorem st_cn (p : Nat × Nat) : Cn 2 (stD p) := ⟨by simp, fun x hx => by
  simp only [List.mem_cons, List.not_mem_nil, or_false] at hx
  rcases hx with rfl | rfl <;> trivial⟩
theorem st_fz (p : Nat × Nat) : (stD p).fz = true := rfl
theorem str_st {n i j : Nat} (h : i < j) (h2 : j ≤ n) : strOf n (stD (i, j)) = some (i, j) := by
  show (match decide (0 ≤ (i : Int) ∧ (i : Int) < (j : Int) ∧ (j : Int) ≤ (n : Int)) with
    | true => some ((i : Int).toNat, (j : Int).toNat)
    | false => none) = _
  rw [decide_eq_true ⟨by omega, by omega, by omega⟩]
  rfl
theorem str_some {n i j : Nat} {d : D} (h : strOf n d = some (i, j)) : d = stD (i, j) ∧ i < j ∧ j ≤ n := by
  unfold strOf at h
  split at h
  · rename_i a b
    split at h
    · rename_i z
      have z := of_decide_eq_true z
      simp only [Option.some.injEq, Prod.mk.injEq] at h
      obtain ⟨h1, h2⟩ := h
      obtain ⟨n, rfl⟩ : ∃ n : Nat, a = n := ⟨a.toNat, by omega⟩
      obtain ⟨m, rfl⟩ : ∃ n : Nat, b = n := ⟨b.toNat, by omega⟩
      have h1 : n = i := by simpa using h1
      have h2 : m = j := by simpa using h2
      subst h1; subst h2
      exact ⟨rfl, by omega, by omega⟩
    · cases h
  · cases h
/-- a list of given things, filtered and mapped by a comprehension -/
theorem lc_map {α : Type} {mg : MGTy} {mt : MTTy} {me : METy} {vs : List Nat} {l : List α} {f : α → D} {ρ1 : Mi.Env} {q : List D → Mi.Env → Prop} (g : α → Bool) (e : α → D)
    (h : ∀ (k : Nat) a, l[k]? = some a → ∀ (A : D → Mi.Env → Prop) (B : Mi.Env → Prop), (∀ ρ4, back ρ4 ρ1 vs = ρ1 → g a = true → A (e a) ρ4) → (∀ ρ3, back ρ3 ρ1 vs = ρ1 → g a = false → B ρ3) →
      mg (f a) (wipeE ρ1 vs) (fun ρ2 => mt ρ2 (fun c ρ3 => (c = true → me ρ3 A FE) ∧ (c = false → B ρ3)) FE))
    (hn : l.length < 16777216) (hq : q ((l.filter g).map e) ρ1) : LcW mg mt me vs (l.map f) ρ1 q := by
  refine ⟨fun k acc ρ => ρ = ρ1 ∧ acc = ((l.take k).filter g).map e, ⟨rfl, rfl⟩, ?_, by rw [List.length_map]; exact hn, ?_⟩
  · rintro k d acc ρ hd ⟨rfl, rfl⟩
    obtain ⟨a, ha, rfl⟩ := map_get hd
    have hs : l.take (k + 1) = l.take k ++ [a] := by
      rw [List.take_add_one, ha]
      rfl
    refine h k a ha _ _ (fun ρ4 hb hg => ⟨hb, ?_⟩) (fun ρ3 hb hg => ⟨hb, ?_⟩)
    · rw [hs, List.filter_append, List.map_append]
      simp [List.filter, hg]
    · rw [hs, List.filter_append, List.map_append]
      simp [List.filter, hg]
  · rintro acc ρ ⟨rfl, rfl⟩
    rw [List.length_map, List.take_length]
    exact hq
theorem wp_is_heard : WpOk [false, false] 2 sp_is_heard m_is_heard := by
  rintro ds q x - ⟨es, rs, new, i, j, rfl, C, hij, hj, hq⟩
  have hn := C.hn
  have hr := C.hr
  refine ⟨.str new, rfl, new, stD (i, j), rfl, ⟨2, st_cn _⟩, ?_⟩
  rw [str_st hij hj]
  show (fun d => _) (D.int ((j : Int) - (i : Int)))
  rw [show (j : Int) - (i : Int) = ((j - i : Nat) : Int) by omega]
  refine ⟨fun h => ?_, fun h => ?_⟩
  · have h : decide (((j - i : Nat) : Int) = 1) = true := h
    have h := of_decide_eq_true h
    have : heard es rs new i j = true := by
      unfold heard
      rw [decide_eq_true (by omega), Bool.true_or]
    rw [this] at hq
    exact hq
  · have h : decide (((j - i : Nat) : Int) = 1) = false := h
    have h := of_decide_eq_false h
    have e : heard es rs new i j = rs.any fun r => hb es new r i (j - i) := by
      unfold heard
      rw [decide_eq_false (by omega), Bool.false_or]
    rw [e] at hq
    refine ⟨.tup (rs.map rD), rfl, bd_of (by rw [List.length_map]; omega) (by rw [List.length_map]; omega), ?_⟩
    refine ⟨fun n ρ => (∃ v, ρ = [some (caseD es rs new), some (stD (i, j)), some (.int ((j - i : Nat) : Int)), v]) ∧ ∀ (k : Nat) r, k < n → rs[k]? = some r → hb es new r i (j - i) = false, ⟨⟨_, rfl⟩, fun k r h => absurd h (by omega)⟩, ?_, ?_⟩
    · rintro n d ρ hd ⟨⟨v, rfl⟩, hk⟩
      obtain ⟨hd1, rfl⟩ := rng0_get hd
      have hd : n < rs.length := by
        have hd : n < (((rs.map rD).length : Nat) : Int).toNat := hd1
        rw [List.length_map] at hd
        omega
      refine ⟨.int (i : Int), rfl, es, rs, new, n, i, j - i, rs[n], rfl, C, List.getElem?_eq_getElem hd, by omega, by omega, fun h => ?_, fun h => ?_⟩
      · have h : hb es new rs[n] i (j - i) = true := h
        have : (rs.any fun r => hb es new r i (j - i)) = true := List.any_eq_true.mpr ⟨_, List.getElem_mem hd, h⟩
        rw [this] at hq
        exact hq
      · have h : hb es new rs[n] i (j - i) = false := h
        refine ⟨⟨_, rfl⟩, fun k r h1 h2 => ?_⟩
        by_cases z : k = n
        · subst z
          rw [List.getElem?_eq_getElem hd] at h2
          cases h2
          exact h
        · exact hk k r (by omega) h2
    · rintro ρ ⟨⟨v, rfl⟩, hk⟩
      have hk : ∀ (k : Nat) r, k < (rngI 0 (((rs.map rD).length : Nat) : Int).toNat).length → rs[k]? = some r → hb es new r i (j - i) = false := hk
      have : (rs.any fun r => hb es new r i (j - i)) = false := by
        rw [List.any_eq_false]
        intro r hr
        obtain ⟨k, hk1, rfl⟩ := List.getElem_of_mem hr
        rw [hk k _ (by rw [rng_len, List.length_map]; omega) (List.getElem?_eq_getElem hk1)]
        simp
      rw [this] at hq
      exact hq
theorem nats_map_succ (f : Nat → Nat) (n : Nat) : nats ((List.range (n + 1)).map f) = nats ((List.range n).map f) ++ [.int (f n : Int)] := by
  simp [nats, List.range_succ]
theorem max_int (e n : Nat) : (fun (i j : Int) => if j > i then j else i) (e : Int) ((n : Int) + 1) = ((max e (n + 1) : Nat) : Int) := by
  show (if (n : Int) + 1 > (e : Int) then (n : Int) + 1 else (e : Int)) = _
  split <;> omega
theorem wp_reach_table : WpOk [false] 4 sp_reach_table m_reach_table := by
  rintro ds q x - ⟨es, rs, new, rfl, C, hq⟩
  have hn := C.hn
  have c := clo_heard es rs new
  refine ⟨.str new, rfl, bd_of (by omega) (by omega), ?_⟩
  refine ⟨fun n ρ => ∃ e : Nat, ∃ v, ρ = [some (caseD es rs new), some (.str new), some (.mls (nats ((List.range n).map (reach es rs new)))), some (.int (e : Int)), v] ∧ e ≤ new.length ∧ (n < e → heard es rs new n e = true), ⟨0, none, rfl, by omega, fun h => absurd h (by omega)⟩, ?_, ?_⟩
  · rintro n d ρ hd ⟨e, v, rfl, he, hh⟩
    obtain ⟨hd1, rfl⟩ := rng0_get hd
    have hd : n < new.length := by
      have hd : n < ((new.length : Nat) : Int).toNat := hd1
      omega
    refine ⟨fun t ρ => ∃ e : Nat, ρ = [some (caseD es rs new), some (.str new), some (.mls (nats ((List.range n).map (reach es rs new)))), some (.int (e : Int)), some (.int (n : Int))] ∧ n < e ∧ e ≤ new.length ∧ heard es rs new n e = true ∧ t = new.length - e, ⟨_, max e (n + 1), by rw [← max_int]; rfl, by omega, by omega, ?_, rfl⟩, ?_⟩
    · by_cases z : e ≤ n + 1
      · rw [Nat.max_eq_right z]; exact c.one n
      · rw [Nat.max_eq_left (by omega)]; exact hh (by omega)
    · rintro t ρ ⟨e, rfl, h1, h2, h3, rfl⟩
      have fin : (e = new.length ∨ heard es rs new n (e + 1) = false) → reach es rs new n = e := fun z => rch_eq c ⟨h1, h2, h3, z⟩
      have app : reach es rs new n = e → (nats ((List.range n).map (reach es rs new))).length < 16777216 ∧ (∃ e' : Nat, ∃ v, [some (caseD es rs new), some (.str new), some (.mls (nats ((List.range n).map (reach es rs new)) ++ [.int (e : Int)])), some (.int (e : Int)), some (.int (n : Int))] = [some (caseD es rs new), some (.str new), some (.mls (nats ((List.range (n + 1)).map (reach es rs new)))), some (.int (e' : Int)), v] ∧ e' ≤ new.length ∧ (n + 1 < e' → heard es rs new (n + 1) e' = true)) := by
        intro z
        refine ⟨by simp [nats]; omega, e, some (.int (n : Int)), ?_, h2, fun y => c.sub h3 (by omega) y (Nat.le_refl _)⟩
        rw [nats_map_succ, z]
      refine ⟨fun h => ?_, fun h => ⟨fun h => ab_ft h, fun _ => ?_⟩⟩
      · have h := of_decide_eq_true (show decide ((e : Int) < (new.length : Int)) = true from h)
        refine ⟨es, rs, new, n, e + 1, rfl, C, by omega, by omega, fun h4 => ?_, fun h4 => ?_⟩
        · exact ⟨new.length - (e + 1), by omega, e + 1, rfl, by omega, by omega, h4, rfl⟩
        · exact app (fin (.inr h4))
      · have h := of_decide_eq_false (show decide ((e : Int) < (new.length : Int)) = false from h)
        exact app (fin (.inl (by omega)))
  · rintro ρ ⟨e, v, rfl, he, hh⟩
    have e1 : (rngI 0 ((new.length : Nat) : Int).toNat).length = new.length := by rw [rng_len]; omega
    rw [e1]
    exact ⟨nats_fz _, hq⟩
theorem nats_ix {f : Nat → Nat} {n k : Nat} (h : k < n) : (nats ((List.range n).map f))[k]? = some (.int (f k : Int)) := by
  simp [nats, h]
theorem nats_ix' {f : Nat → Nat} {n k : Nat} {d : D} (h : (nats ((List.range n).map f))[k]? = some d) : k < n ∧ d = .int (f k : Int) := by
  have hk : k < n := by
    have := (List.getElem?_eq_some_iff.mp h).1
    simpa [nats] using this
  rw [nats_ix hk] at h
  exact ⟨hk, by simpa using h.symm⟩
/-- the rows of the first places -/
def rowsTo (h : Nat → Nat → Bool) (n k : Nat) : List (Nat × Nat) := ((List.range k).filter (isRow h n)).map fun i => (i, rch h n i + 1)
theorem sts_fz (l : List (Nat × Nat)) : fzs (l.map stD) = true := by
  unfold fzs
  simp [st_fz]
end Lw
end

-- text K36c
section
set_option Elab.async false
set_option linter.all false
set_option maxRecDepth 100000
set_option maxHeartbeats 1000000
namespace Lw
open PySem PySem.Spec PyProof.Rows L2 Mi
theorem wp__law_same (n : Nat) : WpOk [false, false] 1 (spSame (n + 1)) (m__law_same (spSame n)) := by
  rintro ds q x - ⟨d, e, rfl, hd, hc, hq⟩
  have hd0 := pl_up hd
  cases e with
  | tup es =>
    cases d with
    | tup ds =>
      refine ⟨fun h => ab_ft h, fun _ => ⟨fun h => ab_ft h, fun _ => ⟨fun h => ab_ft h, fun _ => ⟨fun h => ab_ft h, fun _ => ⟨fun h => ab_ft h, fun _ => ⟨fun h => ?_, fun h => ?_⟩⟩⟩⟩⟩⟩
      · have h : (!decide ((ds.length : Int) = es.length)) = true := h
        have ne : ¬ ds.length = es.length := by
          intro z
          rw [z] at h
          simp at h
        have e : sameD (.tup ds) (.tup es) = false := by
          cases c : sameD (.tup ds) (.tup es) with
          | false => rfl
          | true => exact absurd (sames_len (show sameD.sames ds es = true from c)) ne
        rw [e] at hq
        exact hq
      · have h : (!decide ((ds.length : Int) = es.length)) = false := h
        have hl : ds.length = es.length := by
          have : decide ((ds.length : Int) = es.length) = true := by simpa using h
          have := of_decide_eq_true this
          omega
        have hcl := hc.1
        refine ⟨bd_of (by omega) (by omega), fun i ρ => (∃ v, ρ = [some (.tup ds), some (.tup es), v]) ∧ sameD.sames ds es = sameD.sames (ds.drop i) (es.drop i), ⟨⟨none, rfl⟩, rfl⟩, ?_, ?_⟩
        · rintro i d ρ hd ⟨⟨v, rfl⟩, hs⟩
          obtain ⟨hk, rfl⟩ := rng0_get hd
          have hk : i < es.length := by omega
          have hk2 : i < ds.length := by omega
          have y1 := List.getElem?_eq_getElem hk2
          have y2 := List.getElem?_eq_getElem hk
          rw [List.drop_eq_getElem_cons hk2, List.drop_eq_getElem_cons hk] at hs
          have hs : sameD.sames ds es = (match sameD ds[i] es[i] with
            | true => sameD.sames (ds.drop (i + 1)) (es.drop (i + 1))
            | false => false) := hs
          refine ⟨ds[i], atI_nn y1, es[i], atI_nn y2, ds[i], es[i], rfl, hd0.2 _ (List.getElem_mem hk2), hc.2 _ (List.getElem_mem hk), ?_⟩
          cases c : sameD ds[i] es[i] with
          | true =>
            rw [c] at hs
            exact ⟨fun h => ab_ft h, fun _ => ⟨⟨_, rfl⟩, hs⟩⟩
          | false =>
            rw [c] at hs
            have hq : q (.bl (sameD.sames ds es)) _ := hq
            rw [hs] at hq
            exact ⟨fun _ => hq, fun h => ab_tf h⟩
        · rintro ρ ⟨⟨v, rfl⟩, hs⟩
          rw [rng_len, Int.toNat_natCast, List.drop_length, ← hl, List.drop_length] at hs
          have hq : q (.bl (sameD.sames ds es)) _ := hq
          rw [hs] at hq
          exact hq
    | _ => first | exact hd0.elim | (repeat (first | exact hq | refine ⟨fun _ => ?_, fun h => ab_tf h⟩ | refine ⟨fun h => ab_ft h, fun _ => ?_⟩))
  | _ => first | exact hc.elim | (cases d <;> first | exact hd0.elim | (repeat (first | exact hq | refine ⟨fun _ => ?_, fun h => ab_tf h⟩ | refine ⟨fun h => ab_ft h, fun _ => ?_⟩)))
theorem nsame {P : Prop} {d : D} (h : Cn 6 d) (z : (!sameD d d) = true) : P := by
  rw [same_self 6 h] at z
  cases z
theorem isame {d : D} {q : D → Prop} (h : Cn 6 d) (hq : q (.bl true)) : q (.bl (sameD d d)) := by
  rw [same_self 6 h]
  exact hq
def AllL {α : Type} (P : α → Prop) : List α → Prop
  | [] => True
  | x :: xs => P x ∧ AllL P xs
theorem allL_mem {α : Type} {P : α → Prop} : ∀ {xs : List α}, AllL P xs → ∀ x ∈ xs, P x
  | [], _, _, h => nomatch h
  | x :: xs, hp, y, h => by
    rcases List.mem_cons.mp h with rfl | h
    · exact hp.1
    · exact allL_mem hp.2 y h
theorem atI_al {α : Type} (P : α → Prop) {xs : List α} {v : Int} (h : 0 ≤ v) (h2 : v < xs.length) (hp : AllL P xs) : ∃ x, P x ∧ atI xs v = some x := atI_all P h h2 (allL_mem hp)
theorem bigI {m : Nat} (n : Nat) (h : n ≤ m) : BigI m (.int (n : Int)) := ⟨n, rfl, h⟩
theorem bigI' {m : Nat} {i : Int} (h : 0 ≤ i) (h2 : i ≤ m) : BigI m (.int i) := ⟨i.toNat, by rw [Int.toNat_of_nonneg h], by omega⟩
/-! ### the program -/
theorem cut_lo0 {α : Type} {t : List α} {i : Nat} : cutD t none (some (i : Int)) = t.take i := cutD_hin
theorem wp_spliced : WpOk [false, false, false] 1 sp_spliced m_spliced := by
  rintro ds q x - ⟨t, i, j, p, rfl, ht, hp, hij, hj, hq⟩
  have e1 : cutD t none (some (i : Int)) = t.take i := cutD_hin
  have e2 : cutD t (some (j : Int)) none = t.drop j := cutD_lon
  have l1 : (t.take i).length ≤ t.length := by rw [List.length_take]; omega
  have l2 : (t.drop j).length ≤ t.length := by rw [List.length_drop]; omega
  refine ⟨t, stD (i, j), rfl, ⟨2, st_cn _⟩, ?_⟩
  rw [str_st hij hj]
  refine ⟨.int (i : Int), rfl, by rw [e1]; omega, .int (j : Int), rfl, by rw [e1, e2, List.length_append]; omega, ?_⟩
  have e : cutD t none (some (i : Int)) ++ p ++ cutD t (some (j : Int)) none = putIn t i j p := by rw [e1, e2]; rfl
  have ed : decide ((300 : Int) < ((cutD t none (some (i : Int)) ++ p ++ cutD t (some (j : Int)) none).length : Int)) = decide (300 < (putIn t i j p).length) := by
    rw [e]
    apply decide_eq_decide.mpr
    omega
  refine ⟨fun h => ?_, fun h => ?_⟩
  · have h : decide ((300 : Int) < ((cutD t none (some (i : Int)) ++ p ++ cutD t (some (j : Int)) none).length : Int)) = true := h
    rw [ed] at h
    rw [h] at hq
    exact hq
  · have h : decide ((300 : Int) < ((cutD t none (some (i : Int)) ++ p ++ cutD t (some (j : Int)) none).length : Int)) = false := h
    rw [ed] at h
    rw [h] at hq
    have hq : q (.str (putIn t i j p)) [.str t, stD (i, j), .str p] := hq
    rw [← e] at hq
    exact hq
theorem reach_gt {es : List Tx} {rs : List Rule} {new : Tx} {i : Nat} (h : i < new.length) : i < reach es rs new i ∧ reach es rs new i ≤ new.length := by
  obtain ⟨h1, h2, _, _⟩ := rch_ok (n := new.length) (clo_heard es rs new) h
  exact ⟨h1, h2⟩
theorem gr_len (f : Nat → Nat) (n : Nat) : ∀ k a, (gr f n k a).length ≤ k
  | 0, _ => by simp [gr]
  | k + 1, a => by
    unfold gr
    split
    · rw [List.length_cons]
      have := gr_len f n k (f a)
      omega
    · simp
theorem gr_stop {f : Nat → Nat} {n k a : Nat} (h : (decide (a < n) && decide (f a < n)) = false) : gr f n k a = [] := by
  cases k with
  | zero => rfl
  | succ k => unfold gr; rw [h]
theorem st_gr {f : Nat → Nat} {n : Nat} (hf : ∀ i, i < n → i < f i ∧ f i ≤ n) : ∀ k a, a < n → n - a ≤ k → st f n k a = (gr f n k a).length + 1
  | 0, a, h, h2 => absurd h2 (by omega)
  | k + 1, a, h, h2 => by
    obtain ⟨h3, h4⟩ := hf a h
    unfold st gr
    rw [decide_eq_true h]
    by_cases z : f a < n
    · rw [decide_eq_true z]
      show st f n k (f a) + 1 = (gr f n k (f a)).length + 1 + 1
      rw [st_gr hf k (f a) z (by omega)]
    · rw [decide_eq_false z]
      show st f n k (f a) + 1 = 0 + 1
      have : st f n k (f a) = 0 := by
        cases k with
        | zero => rfl
        | succ k => unfold st; rw [decide_eq_false z]
      rw [this]
theorem wp_greedy_cuts : WpOk [false] 3 sp_greedy_cuts m_greedy_cuts := by
  rintro ds q x - ⟨es, rs, new, rfl, C, hq⟩
  have hn := C.hn
  have nl : ((nats ((List.range new.length).map (reach es rs new))).length : Int) = (new.length : Int) := by simp [nats]
  refine ⟨es, rs, new, rfl, C, ?_⟩
  refine ⟨fun t ρ => ∃ (pre : List Nat) (a : Nat), ρ = [some (caseD es rs new), some (.tup (nats ((List.range new.length).map (reach es rs new)))), some (.mls (nats pre)), some (.int (a : Int))] ∧ gr (reach es rs new) new.length new.length 0 = pre ++ gr (reach es rs new) new.length t a ∧ new.length - a ≤ t, ⟨new.length, [], 0, rfl, rfl, by omega⟩, ?_⟩
  rintro t ρ ⟨pre, a, rfl, hg, ht⟩
  have fin : (decide (a < new.length) && decide (reach es rs new a < new.length)) = false → fzs (nats pre) = true ∧ q (.tup (nats pre)) [caseD es rs new] := by
    intro z
    rw [gr_stop z, List.append_nil] at hg
    rw [← hg]
    exact ⟨nats_fz _, hq⟩
  refine ⟨fun h => ?_, fun h => ⟨fun h => ab_ft h, fun _ => ?_⟩⟩
  · have h := of_decide_eq_true (show decide ((a : Int) < ((nats ((List.range new.length).map (reach es rs new))).length : Int)) = true from h)
    have h : a < new.length := by omega
    have hr := reach_gt (es := es) (rs := rs) (new := new) h
    have ia : atI (nats ((List.range new.length).map (reach es rs new))) (a : Int) = some (.int (reach es rs new a : Int)) := atI_nn (nats_ix h)
    refine ⟨.int (reach es rs new a : Int), ia, fun h2 => ?_, fun h2 => ?_⟩
    · have h2 := of_decide_eq_true (show decide ((reach es rs new a : Int) < ((nats ((List.range new.length).map (reach es rs new))).length : Int)) = true from h2)
      have h2 : reach es rs new a < new.length := by omega
      have pl : pre.length ≤ new.length := by
        have := congrArg List.length hg
        rw [List.length_append] at this
        have := gr_len (reach es rs new) new.length new.length 0
        omega
      cases t with
      | zero => omega
      | succ t =>
        refine ⟨.int (reach es rs new a : Int), ia, by simp [nats]; omega, t, by omega, pre ++ [reach es rs new a], reach es rs new a, ?_, ?_, by omega⟩
        · simp only [nats, List.map_append]
          rfl
        · rw [hg]
          show pre ++ (match decide (a < new.length) && decide (reach es rs new a < new.length) with
            | true => reach es rs new a :: gr (reach es rs new) new.length t (reach es rs new a)
            | false => []) = _
          rw [decide_eq_true h, decide_eq_true h2]
          simp
    · have h2 := of_decide_eq_false (show decide ((reach es rs new a : Int) < ((nats ((List.range new.length).map (reach es rs new))).length : Int)) = false from h2)
      exact fin (by rw [decide_eq_false (show ¬ reach es rs new a < new.length by omega), Bool.and_false])
  · have h := of_decide_eq_false (show decide ((a : Int) < ((nats ((List.range new.length).map (reach es rs new))).length : Int)) = false from h)
    exact fin (by rw [decide_eq_false (show ¬ a < new.length by omega), Bool.false_and])
theorem wp_fewest_count : WpOk [false] 0 sp_fewest_count m_fewest_count := by
  rintro ds q x - ⟨es, rs, new, rfl, C, hq⟩
  refine ⟨es, rs, new, rfl, C, ?_⟩
  have e : (nats (gr (reach es rs new) new.length new.length 0)).length = (gr (reach es rs new) new.length new.length 0).length := by simp [nats]
  rw [← e] at hq
  exact hq
theorem wp_piece_count : WpOk [false] 0 sp_piece_count m_piece_count := by
  rintro ds q x - ⟨es, rs, new, rfl, C, hq⟩
  refine ⟨.str new, rfl, fun h => ?_, fun h => ?_⟩
  · have h := of_decide_eq_true (show decide (new = []) = true from h)
    subst h
    exact hq
  · have h := of_decide_eq_false (show decide (new = []) = false from h)
    have hpos : 0 < new.length := List.length_pos_iff.mpr h
    refine ⟨es, rs, new, rfl, C, ?_⟩
    have e := st_gr (f := reach es rs new) (n := new.length) (fun i hi => reach_gt hi) new.length 0 hpos (by omega)
    unfold pcs at hq
    rw [e] at hq
    exact hq
theorem wp_with_new : WpOk [false, false] 0 sp_with_new m_with_new := by
  rintro ds q x - ⟨es, rs, new, t, rfl, hq⟩
  exact ⟨.tup (es.map D.str), rfl, .tup (rs.map rD), rfl, hq⟩
theorem wp_with_rule : WpOk [false, false] 0 sp_with_rule m_with_rule := by
  rintro ds q x - ⟨es, rs, new, r, rfl, hr, hq⟩
  have e0 : decide (((rs.map rD).length : Int) = 8) = decide (rs.length = 8) := by
    rw [List.length_map]
    apply decide_eq_decide.mpr
    omega
  have fz := rD_fz r
  refine ⟨.tup (rs.map rD), rfl, fun h => ?_, fun h => ?_⟩
  · have h : decide (((rs.map rD).length : Int) = 8) = true := h
    rw [e0] at h
    rw [h] at hq
    exact hq
  · have h : decide (((rs.map rD).length : Int) = 8) = false := h
    rw [e0] at h
    rw [h] at hq
    refine ⟨.tup (es.map D.str), rfl, .tup (rs.map rD), rfl, ?_⟩
    conv => whnf
    rw [fz]
    refine ⟨by simp; omega, .str new, rfl, ?_⟩
    have hq : q (.tup [.tup (es.map D.str), .tup ((rs ++ [r]).map rD), .str new]) [caseD es rs new, rD r] := hq
    rw [List.map_append] at hq
    exact hq
theorem wp_with_elder : WpOk [false, false, false, false] 1 sp_with_elder m_with_elder := by
  rintro ds q x - ⟨es, rs, new, t, b, m, rfl, he, hr, hq⟩
  have e0 : decide (((rs.map rD).length : Int) = 8) = decide (rs.length = 8) := by
    rw [List.length_map]
    apply decide_eq_decide.mpr
    omega
  have e1 : decide (((es.map D.str).length : Int) = 6) = decide (es.length = 6) := by
    rw [List.length_map]
    apply decide_eq_decide.mpr
    omega
  refine ⟨.tup (es.map D.str), rfl, fun h => ⟨fun _ => ?_, fun h => ab_tf h⟩, fun h => ⟨.tup (rs.map rD), rfl, fun h2 => ?_, fun h2 => ?_⟩⟩
  · have h : decide (((es.map D.str).length : Int) = 6) = true := h
    rw [e1] at h
    rw [h] at hq
    exact hq
  · have h2 : decide (((rs.map rD).length : Int) = 8) = true := h2
    rw [e0] at h2
    rw [h2, Bool.or_true] at hq
    exact hq
  · have h : decide (((es.map D.str).length : Int) = 6) = false := h
    have h2 : decide (((rs.map rD).length : Int) = 8) = false := h2
    rw [e1] at h
    rw [e0] at h2
    rw [h, h2] at hq
    refine ⟨.tup (es.map D.str), rfl, .tup (es.map D.str), rfl, by simp; omega, .tup (rs.map rD), rfl, by simp; omega, .str new, rfl, ?_⟩
    have hq : q (.tup [.tup ((es ++ [t]).map D.str), .tup ((rs ++ [Rule.elder es.length b m]).map rD), .str new]) [caseD es rs new, .str t, .bl b, .int m] := hq
    rw [List.map_append, List.map_append] at hq
    have el : ((es.map D.str).length : Int) = (es.length : Int) := by rw [List.length_map]
    show q (.tup [.tup (es.map D.str ++ [.str t]), .tup (rs.map rD ++ [.tup [.str ELDER, .int ((es.map D.str).length : Int), .bl b, .int m]]), .str new]) _
    rw [el]
    exact hq
theorem wp_elder_case : WpOk [false] 1 sp_elder_case m_elder_case := by
  rintro ds q x - ⟨es, rs, new, rfl, hr, hq⟩
  refine ⟨.tup (es.map D.str), rfl, .tup (rs.map rD), rfl, ?_⟩
  refine lc_map (l := rs) (f := rD) (ρ1 := [some (caseD es rs new), none]) isEl rD ?_ (by omega) ?_
  · intro k r hr A B hA hB
    cases r with
    | elder e t m => exact ⟨.str ELDER, rfl, fun _ => hA _ rfl rfl, fun h => ab_tf h⟩
    | back w ap t m => exact ⟨.str BACK, rfl, fun h => ab_ft h, fun _ => hB _ rfl rfl⟩
  · exact ⟨.str new, rfl, hq⟩
theorem wp__law_elder_rules : WpOk [false] 1 sp__law_elder_rules m__law_elder_rules := by
  rintro ds q x - ⟨es, rs, new, rfl, hr, hq⟩
  refine ⟨.tup (rs.map rD), rfl, ?_⟩
  refine lc_map (l := rs) (f := rD) (ρ1 := [some (caseD es rs new), none]) isEl rD ?_ (by omega) ?_
  · intro k r hr A B hA hB
    cases r with
    | elder e t m => exact ⟨.str ELDER, rfl, fun _ => hA _ rfl rfl, fun h => ab_tf h⟩
    | back w ap t m => exact ⟨.str BACK, rfl, fun h => ab_ft h, fun _ => hB _ rfl rfl⟩
  · exact hq
theorem filt_all {α : Type} (l : List α) : (l.filter fun _ => true) = l := by simp
theorem wp_turned_case : WpOk [false] 6 sp_turned_case m_turned_case := by
  rintro ds q x - ⟨es, rs, new, rfl, he, hr, hq⟩
  refine lc_map (l := rs) (f := rD) (ρ1 := [some (caseD es rs new), some (.tup (es.map D.str)), some (.tup (rs.map rD)), some (.str new), none, none, none]) isEl rD ?_ (by omega) ?_
  · intro k r hr A B hA hB
    cases r with
    | elder e t m => exact ⟨.str ELDER, rfl, fun _ => hA _ rfl rfl, fun h => ab_tf h⟩
    | back w ap t m => exact ⟨.str BACK, rfl, fun h => ab_ft h, fun _ => hB _ rfl rfl⟩
  · refine lc_map (l := es) (f := D.str) (ρ1 := [some (caseD es rs new), some (.tup (es.map D.str)), some (.tup (rs.map rD)), some (.str new), some (.tup ((rs.filter isEl).map rD)), none, none]) (fun _ => true) (fun t => .str t.reverse) ?_ (by omega) ?_
    · intro k r hr A B hA hB
      exact ⟨fun _ => hA _ rfl rfl, fun h => ab_tf h⟩
    · rw [filt_all]
      have hq : q (.tup [.tup ((es.map List.reverse).map D.str), .tup ((rs.filter isEl).map rD), .str new.reverse]) [caseD es rs new] := hq
      rw [List.map_map] at hq
      exact hq
theorem wp_part_case : WpOk [false, false] 3 sp_part_case m_part_case := by
  rintro ds q x - ⟨es, rs, new, i, j, rfl, hr, hq⟩
  refine ⟨es, rs, new, rfl, hr, ?_⟩
  exact ⟨.int (i : Int), rfl, .int (j : Int), rfl, hq⟩
theorem wp_appended_case : WpOk [false, false] 0 sp_appended_case m_appended_case := by
  rintro ds q x - ⟨es, rs, new, t, rfl, hn, ht, hq⟩
  have ed : decide ((300 : Int) < (new.length : Int) + (t.length : Int)) = decide (300 < (new ++ t).length) := by
    rw [List.length_append]
    apply decide_eq_decide.mpr
    omega
  refine ⟨.str new, rfl, fun h => ?_, fun h => ?_⟩
  · have h : decide ((300 : Int) < (new.length : Int) + (t.length : Int)) = true := h
    rw [ed] at h
    rw [h] at hq
    exact hq
  · have h : decide ((300 : Int) < (new.length : Int) + (t.length : Int)) = false := h
    rw [ed] at h
    rw [h] at hq
    exact ⟨.tup (es.map D.str), rfl, .tup (rs.map rD), rfl, .str new, rfl, by omega, hq⟩
theorem wp_edited_case : WpOk [false, false, false] 0 sp_edited_case m_edited_case := by
  rintro ds q x - ⟨es, rs, new, i, j, p, rfl, hn, hp, hij, hj, hq⟩
  refine ⟨.tup (es.map D.str), rfl, .tup (rs.map rD), rfl, .str new, rfl, new, i, j, p, rfl, hn, hp, hij, hj, ?_⟩
  cases z : decide (300 < (putIn new i j p).length) with
  | true =>
    rw [z] at hq
    exact hq
  | false =>
    rw [z] at hq
    exact hq
theorem case_new {es : List Tx} {rs : List Rule} {new t : Tx} (C : CaseOk es rs new) (h : t.length ≤ 1000) : CaseOk es rs t := ⟨C.he, C.hr, h, C.hel, C.hru⟩
theorem wp_edit_effect : WpOk [false, false, false] 0 sp_edit_effect m_edit_effect := by
  rintro ds q x - ⟨es, rs, new, i, j, p, rfl, C, hp, hij, hj, hl, hq⟩
  refine ⟨es, rs, new, i, j, p, rfl, C.hn, hp, hij, hj, ?_⟩
  rw [decide_eq_false (by omega)]
  refine ⟨es, rs, putIn new i j p, rfl, case_new C (by omega), ?_⟩
  exact ⟨es, rs, new, rfl, C, hq⟩
theorem wp_append_effect : WpOk [false, false] 0 sp_append_effect m_append_effect := by
  rintro ds q x - ⟨es, rs, new, t, rfl, C, ht, hl, hq⟩
  refine ⟨es, rs, new, t, rfl, C.hn, ht, ?_⟩
  rw [decide_eq_false (by omega)]
  refine ⟨es, rs, new ++ t, rfl, case_new C (by omega), ?_⟩
  exact ⟨es, rs, new, rfl, C, hq⟩
end Lw
end

-- text K36d
section
set_option Elab.async false
set_option linter.all false
set_option maxRecDepth 100000
set_option maxHeartbeats 1000000
namespace Lw
open PySem PySem.Spec PyProof.Rows L2 Mi
theorem Tub.mono {n m : Nat} {d : D} (h : Tub n d) (l : m ≤ n) : Tub m d := by
  obtain ⟨t, o, p, fs, e, h1, h2, r⟩ := h
  exact ⟨t, o, p, fs, e, h1, by omega, r⟩
theorem wp__law_dip : WpOk [true, false] 3 sp__law_dip m__law_dip := by
  rintro ds q x - ⟨d, n, m, rfl, ⟨t, o, p, fs, rfl, t0, tn, o0, o1, p0, p1, f0, f1, fa⟩, hm, hm2, hq⟩
  refine ⟨.int t, atI_nn (i := 0) rfl, rfl, ?_⟩
  refine ⟨0, ix_in (v := 0) (by decide) (by simp; omega), ?_⟩
  refine ⟨fun ρ => ∃ f : Int, ρ = [some (.mls (.int (t + 1) :: .int o :: .int p :: fs.map D.int)), some (.int m), some (.int t), some (.int f), none] ∧ 0 ≤ f ∧ f < 8707, ?_, ?_⟩
  · have hlen : (((.int (t + 1) :: .int o :: .int p :: fs.map D.int : List D).length : Nat) : Int) - 3 = (fs.length : Int) := by
      simp
      omega
    refine ⟨by show (0 : Int) < (((.int (t + 1) :: .int o :: .int p :: fs.map D.int : List D).length : Nat) : Int) - 3; rw [hlen]; omega, ?_⟩
    have hpos : (0 : Int) < (fs.length : Int) := by omega
    obtain ⟨j, hj⟩ : ∃ j : Nat, t % (fs.length : Int) = j := ⟨(t % (fs.length : Int)).toNat, by rw [Int.toNat_of_nonneg (Int.emod_nonneg _ (by omega))]⟩
    have hjl : j < fs.length := by
      have := Int.emod_lt_of_pos t hpos
      omega
    have hg : (.int (t + 1) :: .int o :: .int p :: fs.map D.int : List D)[3 + j]? = some (.int fs[j]) := by
      rw [show 3 + j = j + 3 by omega]
      simp [hjl]
    refine ⟨.int fs[j], ?_, rfl, fs[j], rfl, (fa _ (List.getElem_mem hjl)).1, (fa _ (List.getElem_mem hjl)).2⟩
    show atI (.int (t + 1) :: .int o :: .int p :: fs.map D.int : List D) (3 + t % ((((.int (t + 1) :: .int o :: .int p :: fs.map D.int : List D).length : Nat) : Int) - 3)) = _
    rw [hlen, hj]
    exact atI_nn (i := 3 + j) hg
  · rintro ρ ⟨f, rfl, g0, g1⟩
    refine ⟨.int o, atI_nn (i := 1) rfl, rfl, cml_l (by decide) (by decide), .int p, atI_nn (i := 2) rfl, rfl, cml_l (by omega) (by omega), cml_l (by omega) (by omega), cml_l (by omega) (by omega), (by decide : (0 : Int) < 1000033), ?_⟩
    obtain ⟨z, hz⟩ : ∃ z, ((o + 977 * t) * (p + t * t) + f * (t + 81)) % 1000033 = z := ⟨_, rfl⟩
    have z0 : 0 ≤ z := by rw [← hz]; exact Int.emod_nonneg _ (by decide)
    have z1 : z < 1000033 := by rw [← hz]; exact Int.emod_lt_of_pos _ (by decide)
    refine ⟨by show CMl (((o + 977 * t) * (p + t * t) + f * (t + 81)) % 1000033) (((o + 977 * t) * (p + t * t) + f * (t + 81)) % 1000033); rw [hz]; exact cml_l (by omega) (by omega), (by decide : (0 : Int) < 999979), ⟨by decide, small_of (by decide)⟩, hm, ?_⟩
    exact hq _ _ (Int.emod_nonneg _ (by omega)) (Int.emod_lt_of_pos _ hm) ⟨t + 1, o, p, fs, rfl, by omega, by omega, o0, o1, p0, p1, f0, f1, fa⟩
/-! ### the tub -/
def FOk (fs : List Int) : Prop := ∀ f ∈ fs, 0 ≤ f ∧ f < 8707
theorem fok_app {fs : List Int} {f : Int} (h : FOk fs) (h0 : 0 ≤ f) (h1 : f < 8707) : FOk (fs ++ [f]) := by
  intro g hg
  rcases List.mem_append.mp hg with hg | hg
  · exact h g hg
  · rw [List.mem_singleton] at hg; subst hg; exact ⟨h0, h1⟩
theorem ints_fz (l : List Int) : fzs (l.map D.int) = true := by
  unfold fzs
  simp [D.fz]
section
variable {ns : List Int} {q : D → List D → Prop} {x : Er → List D → Prop}
abbrev TE_ (ns : List Int) (q : D → List D → Prop) (x : Er → List D → Prop) : Es := endsOf [false] [.rol (ns.map D.int)] q x
abbrev TQ (ns : List Int) (q : D → List D → Prop) : Prop := ∀ d, Tub 1000000 d → q d [.rol (ns.map D.int)]
theorem wl_tub5 (hq : TQ ns q) {fs : List Int} {v2 v3 v6 : Option D} (hl : fs.length ≤ 300) (hpos : 0 < fs.length) (hf : FOk fs) :
    m__law_tub_5 (TE_ ns q x) [some (.rol (ns.map D.int)), some (.mls (fs.map D.int)), v2, v3, some (.int 523), some (.int 71), v6] := by
  have fz := ints_fz fs
  conv => whnf
  rw [fz]
  refine ⟨fun i ρ => ∃ (o p : Int) (v6 : Option D), ρ = [some (.rol (ns.map D.int)), some (.lst (fs.map D.int)), v2, v3, some (.int o), some (.int p), v6] ∧ 0 ≤ o ∧ o < 1000003 ∧ 0 ≤ p ∧ p < 999983, ⟨523, 71, v6, rfl, by decide, by decide, by decide, by decide⟩, ?_, ?_⟩
  · rintro i d ρ hd ⟨o, p, v6, rfl, o0, o1, p0, p1⟩
    obtain ⟨f, hf1, rfl⟩ := map_get hd
    have hff := hf f (List.mem_of_getElem? hf1)
    refine ⟨cml_r (by decide) (by decide), (by decide : (0 : Int) < 1000003), cml_r (by decide) (by decide), cml_l (by omega) (by omega), (by decide : (0 : Int) < 999983), _, _, _, rfl, Int.emod_nonneg _ (by decide), Int.emod_lt_of_pos _ (by decide), Int.emod_nonneg _ (by decide), Int.emod_lt_of_pos _ (by decide)⟩
  · rintro ρ ⟨o, p, v6, rfl, o0, o1, p0, p1⟩
    refine ⟨by simp; omega, ?_⟩
    exact hq _ ⟨0, o, p, fs, rfl, by decide, by decide, o0, o1, p0, p1, hpos, by omega, hf⟩
theorem wl_tub2 (hq : TQ ns q) {fs : List Int} {v2 v3 : Option D} (hl : fs.length ≤ 299) (hf : FOk fs) :
    m__law_tub_2 (TE_ ns q x) [some (.rol (ns.map D.int)), some (.mls (fs.map D.int)), v2, v3, none, none, none] := by
  refine ⟨fun ρ => ∃ fs : List Int, ρ = [some (.rol (ns.map D.int)), some (.mls (fs.map D.int)), v2, v3, none, none, none] ∧ fs.length ≤ 300 ∧ 0 < fs.length ∧ FOk fs, ?_, ?_⟩
  · refine ⟨fun h => ?_, fun h => ⟨fs, rfl, by omega, ?_, hf⟩⟩
    · have h : decide (((fs.map D.int).length : Int) = 0) = true := h
      have h := of_decide_eq_true h
      rw [List.length_map] at h
      refine ⟨by rw [List.length_map]; omega, fs ++ [6], ?_, by simp; omega, by simp, fok_app hf (by decide) (by decide)⟩
      rw [List.map_append]
      rfl
    · have h : decide (((fs.map D.int).length : Int) = 0) = false := h
      have h := of_decide_eq_false h
      rw [List.length_map] at h
      omega
  · rintro ρ ⟨fs, rfl, hl, hpos, hf⟩
    refine ⟨fun ρ => ρ = [some (.rol (ns.map D.int)), some (.mls (fs.map D.int)), v2, v3, some (.int 523), some (.int 71), none], rfl, ?_⟩
    rintro ρ rfl
    exact wl_tub5 hq hl hpos hf
theorem wp__law_tub : WpOk [false] 6 sp__law_tub m__law_tub := by
  rintro ds q x - ⟨ns, rfl, hq⟩
  refine ⟨fun i ρ => ∃ (fs : List Int) (v2 v3 : Option D), ρ = [some (.rol (ns.map D.int)), some (.mls (fs.map D.int)), v2, v3, none, none, none] ∧ fs.length < 220 ∧ FOk fs, ⟨[], none, none, rfl, by decide, fun _ h => nomatch h⟩, ?_, ?_⟩
  · rintro i d ρ hd ⟨fs, v2, v3, rfl, hl, hf⟩
    obtain ⟨c, hc, rfl⟩ := map_get hd
    refine ⟨cml_l (by decide) (by decide), ?_⟩
    obtain ⟨z, hz⟩ : ∃ z, (2 * (if c < 0 then -c else c) + (if decide (c < 0) = true then 1 else 0) : Int) = z := ⟨_, rfl⟩
    have z0 : 0 ≤ z := by
      rw [← hz]
      by_cases h : c < 0
      · rw [if_pos h, if_pos (decide_eq_true h)]; omega
      · rw [if_neg h, if_neg (by simpa using h)]; omega
    refine ⟨(by decide : (0 : Int) < 8707), by rw [List.length_map]; omega, ⟨by decide, small_of (by decide)⟩, ?_⟩
    refine ⟨fun t ρ => ∃ (fs : List Int) (z : Int), ρ = [some (.rol (ns.map D.int)), some (.mls (fs.map D.int)), some (.int c), some (.int z), none, none, none] ∧ fs.length ≤ 220 ∧ FOk fs ∧ 0 ≤ z ∧ t = z.toNat, ⟨_, fs ++ [z % 8707], z / 8707, ?_, by simp; omega, fok_app hf (Int.emod_nonneg _ (by decide)) (Int.emod_lt_of_pos _ (by decide)), Int.ediv_nonneg z0 (by decide), rfl⟩, ?_⟩
    · rw [List.map_append, ← hz]
      rfl
    · rintro t ρ ⟨fs, z, rfl, hl, hf, z0, rfl⟩
      have fin : (mIf (mB (mOp fGe (mCB fLen (mCons (mVar 1) mNil)) (mC (.int 220)))) mBrk mNext) { (TE_ ns q x) with nx := fun ρ => ∃ (fs : List Int) (v2 v3 : Option D), ρ = [some (.rol (ns.map D.int)), some (.mls (fs.map D.int)), v2, v3, none, none, none] ∧ fs.length < 220 ∧ FOk fs, ct := fun ρ => ∃ (fs : List Int) (v2 v3 : Option D), ρ = [some (.rol (ns.map D.int)), some (.mls (fs.map D.int)), v2, v3, none, none, none] ∧ fs.length < 220 ∧ FOk fs, bk := m__law_tub_2 (TE_ ns q x) } [some (.rol (ns.map D.int)), some (.mls (fs.map D.int)), some (.int c), some (.int z), none, none, none] := by
        refine ⟨fun h => wl_tub2 hq (by omega) hf, fun h => ⟨fs, _, _, rfl, ?_, hf⟩⟩
        have h : decide ((220 : Int) ≤ ((fs.map D.int).length : Int)) = false := h
        have h := of_decide_eq_false h
        rw [List.length_map] at h
        omega
      refine ⟨fun h => ⟨fun h2 => ?_, fun _ => fin⟩, fun h => ⟨fun h => ab_ft h, fun _ => fin⟩⟩
      have h := of_decide_eq_true (show decide (0 < z) = true from h)
      have h2 : decide (((fs.map D.int).length : Int) < 220) = true := h2
      have h2 := of_decide_eq_true h2
      rw [List.length_map] at h2
      refine ⟨(by decide : (0 : Int) < 8707), by rw [List.length_map]; omega, ⟨by decide, small_of (by decide)⟩, (z / 8707).toNat, ?_, fs ++ [z % 8707], z / 8707, ?_, by simp; omega, fok_app hf (Int.emod_nonneg _ (by decide)) (Int.emod_lt_of_pos _ (by decide)), Int.ediv_nonneg z0 (by decide), rfl⟩
      · omega
      · rw [List.map_append]
        rfl
  · rintro ρ ⟨fs, v2, v3, rfl, hl, hf⟩
    exact wl_tub2 hq (by omega) hf
end
/-! ### signs, texts, rules -/
theorem joinL_flat : ∀ xs : List Tx, TL.joinL [] xs = xs.flatten
  | [] => rfl
  | [x] => by simp [TL.joinL]
  | x :: y :: r => by
    have ih := joinL_flat (y :: r)
    show x ++ ([] ++ TL.joinL [] (y :: r)) = _
    rw [ih]
    simp
theorem sum_len_flat (xs : List Tx) : (xs.map List.length).sum = xs.flatten.length := by
  rw [List.length_flatten]
theorem flat_one {xs : List Tx} (h : ∀ x ∈ xs, x.length = 1) : xs.flatten.length = xs.length := by
  induction xs with
  | nil => rfl
  | cons x xs ih =>
    rw [List.flatten_cons, List.length_append, h x List.mem_cons_self, ih fun y hy => h y (List.mem_cons_of_mem _ hy), List.length_cons]
    omega
theorem wp__law_signs : WpOk [true] 3 sp__law_signs m__law_signs := by
  rintro ds q x - ⟨d0, n, rfl, hT, hq⟩
  refine ⟨d0, _, 6, rfl, hT, by decide, by decide, ?_⟩
  clear hT; intro v d0 hv gv hT
  refine ⟨fun h => ?_, fun _ => ?_⟩
  · have h := of_decide_eq_true (show decide (v < 4) = true from h)
    obtain ⟨d, ⟨s, rfl, hs⟩, hd⟩ := atI_al (xs := [D.str [97, 98], .str [97, 98, 99], .str [97, 126], .str [120, 32, 121]]) (fun d => ∃ s : Tx, d = .str s ∧ SigOk s) hv h ⟨⟨_, rfl, by decide, by decide⟩, ⟨_, rfl, by decide, by decide⟩, ⟨_, rfl, by decide, by decide⟩, ⟨_, rfl, by decide, by decide⟩, trivial⟩
    exact ⟨.str s, hd, hq s d0 hs (hT.mono (by omega))⟩
  · obtain ⟨ev, hev, hevl⟩ : ∃ ev : Tx, ev = [32, 33, 34, 35, 36, 38, 39, 40, 41, 42, 43, 44, 45, 46, 47, 48, 49, 50, 51, 52, 53, 54, 55, 56, 57, 58, 59, 60, 61, 62, 63, 64, 65, 66, 67, 68, 69, 70, 71, 72, 73, 74, 75, 76, 77, 78, 79, 80, 81, 82, 83, 84, 85, 86, 87, 88, 89, 90, 91, 92, 93, 94, 95, 96, 97, 98, 99, 100, 101, 102, 103, 104, 105, 106, 107, 108, 109, 110, 111, 112, 113, 114, 115, 116, 117, 118, 119, 120, 121, 122, 123, 124, 125, 126] ∧ ev.length = 94 := ⟨_, rfl, by decide⟩
    refine ⟨d0, _, 3, rfl, hT, by decide, by decide, ?_⟩
    clear hT; intro u d0 hu gu hT
    refine ⟨bd_of (by omega) (by omega), ?_⟩
    rw [← hev]
    refine ⟨fun t acc ρ => ∃ d0, ∃ xs : List Tx, ρ = [some d0, some (.int v), some (.str ev), none] ∧ Tub (n + 8 - t) d0 ∧ acc = xs.map D.str ∧ xs.length = t ∧ ∀ x ∈ xs, x.length = 1, ⟨d0, [], rfl, hT, rfl, rfl, fun _ h => (nomatch h)⟩, ?_, by rw [rng_len]; omega, ?_⟩
    · rintro t d acc ρ hd ⟨d0, xs, rfl, hT, rfl, rfl, h1⟩
      obtain ⟨hk, _⟩ := rng0_get hd
      have hk : xs.length < (2 + u).toNat := hk
      refine ⟨fun _ => ?_, fun h => ab_tf h⟩
      have hT' : Tub (n + 8 - (xs.length + 1) + 1) d0 := hT.mono (by omega)
      clear hT
      refine ⟨d0, _, (ev.length : Int), rfl, hT', by omega, by omega, ?_⟩
      intro w d0 hw gw hT
      obtain ⟨ch, _, hch⟩ := atI_ex (xs := ev) hw gw
      refine ⟨ch, hch, d0, xs ++ [[ch]], rfl, hT, by rw [List.map_append]; rfl, by simp, ?_⟩
      intro z hz
      rcases List.mem_append.mp hz with hz | hz
      · exact h1 z hz
      · rw [List.mem_singleton] at hz; subst hz; rfl
    · rintro acc ρ ⟨d0, xs, rfl, hT, rfl, hxl, h1⟩
      rw [rng_len] at hxl hT
      have hxl : xs.length = (2 + u).toNat := hxl
      have hf := flat_one h1
      refine ⟨xs, rfl, by rw [sum_len_flat, hf]; simp; omega, ?_⟩
      rw [joinL_flat]
      exact hq _ d0 ⟨by omega, by omega⟩ (hT.mono (by omega))
theorem wp__law_most : WpOk [true] 0 sp__law_most m__law_most := by
  rintro ds q x - ⟨d0, n, rfl, hT, hq⟩
  refine ⟨d0, _, 9, rfl, hT, by decide, by decide, ?_⟩
  clear hT; intro v0 d0 hv0 gv0 hT
  refine ⟨d0, _, 5, rfl, hT, by decide, by decide, ?_⟩
  clear hT; intro v d0 hv gv hT
  obtain ⟨d, ⟨i, rfl⟩, hd⟩ := atI_al (xs := [D.int 2, .int 300, .int 3, .int (2 + v0), .int 2]) (fun d => ∃ i, d = .int i) hv gv ⟨⟨_, rfl⟩, ⟨_, rfl⟩, ⟨_, rfl⟩, ⟨_, rfl⟩, ⟨_, rfl⟩, trivial⟩
  exact ⟨.int i, hd, hq i d0 hT⟩
end Lw
end

-- text K36e
section
set_option Elab.async false
set_option linter.all false
set_option maxRecDepth 100000
set_option maxHeartbeats 1000000
namespace Lw
open PySem PySem.Spec PyProof.Rows L2 Mi
theorem wp__law_text : WpOk [true, false, false] 4 sp__law_text m__law_text := by
  rintro ds q x - ⟨d0, n, m, s, rfl, hT, hm, hm0, hs, hq⟩
  have hs0 := hs.1
  have hs1 := hs.2
  refine ⟨d0, _, (m : Int) + 1, rfl, hT, by omega, by omega, ?_⟩
  clear hT; intro u1 d0 hu1 gu1 hT
  refine ⟨d0, _, (m : Int) + 1, rfl, hT, by omega, by omega, ?_⟩
  clear hT; intro u2 d0 hu2 gu2 hT
  refine ⟨d0, _, 3, rfl, hT, by decide, by decide, ?_⟩
  clear hT; intro u d0 hu gu hT
  obtain ⟨d, ⟨sz, rfl, hsz⟩, hd⟩ := atI_al (xs := [D.int (m : Int), .int u1, .int u2]) (BigI 10) hu gu ⟨bigI m hm, bigI' hu1 (by omega), bigI' hu2 (by omega), trivial⟩
  refine ⟨.int (sz : Int), hd, ?_⟩
  refine ⟨fun ρ => ∃ (d0 : D) (p : Int), ρ = [some d0, some (.str s), some (.int (m : Int)), some (.int (sz : Int)), some (.int p), none, none] ∧ Tub (n + 46) d0 ∧ (1 ≤ p ∨ p = sz), ?_, ?_⟩
  · refine ⟨d0, _, 4, rfl, hT, by decide, by decide, ?_⟩
    clear hT; intro v d0 hv gv hT
    obtain ⟨d, ⟨p, rfl, hp⟩, hd⟩ := atI_al (xs := [D.int (sz : Int), .int 1, .int 2, .int 3]) (fun d => ∃ p : Int, d = .int p ∧ (1 ≤ p ∨ p = sz)) hv gv ⟨⟨_, rfl, .inr rfl⟩, ⟨_, rfl, .inl (by decide)⟩, ⟨_, rfl, .inl (by decide)⟩, ⟨_, rfl, .inl (by decide)⟩, trivial⟩
    exact ⟨.int p, hd, d0, p, rfl, hT, hp⟩
  · rintro ρ ⟨d0, p, rfl, hT, hp⟩
    refine ⟨fun ρ => ρ = [some d0, some (.str s), some (.int (m : Int)), some (.int (sz : Int)), some (.int p), some (.str []), none], rfl, ?_⟩
    rintro ρ rfl
    refine ⟨bd_of (by omega) (by omega), ?_⟩
    refine ⟨fun i ρ => ∃ (d0 : D) (t : Tx) (v6 : Option D), ρ = [some d0, some (.str s), some (.int (m : Int)), some (.int (sz : Int)), some (.int p), some (.str t), v6] ∧ Tub (n + 2 * (12 - i)) d0 ∧ t.length = i, ⟨d0, [], none, rfl, hT.mono (by omega), rfl⟩, ?_, ?_⟩
    · rintro i d ρ hd ⟨d0, t, v6, rfl, hT, rfl⟩
      obtain ⟨hi, rfl⟩ := rng0_get hd
      have hi : t.length < (sz : Int).toNat := hi
      have hT' : Tub (n + 2 * (12 - (t.length + 1)) + 1 + 1) d0 := hT.mono (by omega)
      clear hT
      have app : ∀ d0, Tub (n + 2 * (12 - (t.length + 1)) + 1) d0 → (mAsg (mOp fAdd (mVarF 5) (mOp fIx (mVarF 1) (mCall sp__law_dip [true, false] (mcRef 0 (mcVal (mCB fLen (mCons (mVarF 1) mNil)) mcNil))))) (mgName 5)) { (endsOf [true, false, false] [d0, .str s, .int (m : Int)] q x) with nx := fun ρ => ∃ (d0 : D) (t' : Tx) (v6 : Option D), ρ = [some d0, some (.str s), some (.int (m : Int)), some (.int (sz : Int)), some (.int p), some (.str t'), v6] ∧ Tub (n + 2 * (12 - (t.length + 1))) d0 ∧ t'.length = t.length + 1 } [some d0, some (.str s), some (.int (m : Int)), some (.int (sz : Int)), some (.int p), some (.str t), some (.int (t.length : Int))] := by
        intro d0 hT
        refine ⟨d0, _, (s.length : Int), rfl, hT, by omega, by omega, ?_⟩
        clear hT; intro w d0 hw gw hT
        obtain ⟨ch, _, hch⟩ := atI_ex (xs := s) hw gw
        exact ⟨ch, hch, by show t.length + 1 ≤ _; omega, d0, t ++ [ch], _, rfl, hT, by simp⟩
      refine ⟨fun h => ⟨fun _ => app d0 (hT'.mono (by omega)), fun h => ab_tf h⟩, fun h => ?_⟩
      have h := of_decide_eq_false (show decide ((t.length : Int) < p) = false from h)
      have hT := hT'
      clear hT'
      refine ⟨d0, _, 9, rfl, hT, by decide, by decide, ?_⟩
      clear hT; intro w d0 hw gw hT
      refine ⟨fun _ => app d0 hT, fun _ => ?_⟩
      obtain ⟨ch, _, hch⟩ := atI_ex (xs := t) (v := (t.length : Int) - p) (by omega) (by omega)
      exact ⟨ch, hch, by show t.length + 1 ≤ _; omega, d0, t ++ [ch], _, rfl, hT.mono (by omega), by simp⟩
    · rintro ρ ⟨d0, t, v6, rfl, hT, hl⟩
      rw [rng_len] at hl
      have hl : t.length = (sz : Int).toNat := hl
      exact hq t d0 (by omega) (hT.mono (by omega))
theorem wp__law_rules : WpOk [true, false, false] 4 sp__law_rules m__law_rules := by
  rintro ds q x - ⟨d0, n, k, e, rfl, hT, hk, he, hq⟩
  refine ⟨bd_of (by omega) (by omega), ?_⟩
  refine ⟨fun i ρ => ∃ (d0 : D) (rs : List Rule) (v4 v5 v6 : Option D), ρ = [some d0, some (.int (k : Int)), some (.int (e : Int)), some (.mls (rs.map rD)), v4, v5, v6] ∧ Tub (n + 10 * (10 - i)) d0 ∧ rs.length = i ∧ ∀ r ∈ rs, RuleOk e r, ⟨d0, [], none, none, none, rfl, hT, rfl, fun _ h => nomatch h⟩, ?_, ?_⟩
  · rintro i d ρ hd ⟨d0, rs, v4, v5, v6, rfl, hT, rfl, hok⟩
    obtain ⟨hi, rfl⟩ := rng0_get hd
    have hi : rs.length < (k : Int).toNat := hi
    have hT' : Tub (n + 10 * (10 - (rs.length + 1)) + 10) d0 := hT.mono (by omega)
    clear hT
    have hT := hT'
    clear hT'
    refine ⟨d0, _, 2, rfl, hT, by decide, by decide, ?_⟩
    clear hT; intro t d0 ht gt hT
    have put : ∀ (r : Rule) (d0 : D) (v6 : Option D), RuleOk e r → Tub (n + 10 * (10 - (rs.length + 1))) d0 → (rs.map rD).length < 16777216 ∧ ∃ (d0' : D) (rs' : List Rule) (v4 v5 v6' : Option D), [some d0, some (.int (k : Int)), some (.int (e : Int)), some (.mls (rs.map rD ++ [rD r])), some (.int (rs.length : Int)), some (.bl (decide (t = 0))), v6] = [some d0', some (.int (k : Int)), some (.int (e : Int)), some (.mls (rs'.map rD)), v4, v5, v6'] ∧ Tub (n + 10 * (10 - (rs.length + 1))) d0' ∧ rs'.length = rs.length + 1 ∧ ∀ r ∈ rs', RuleOk e r := by
      intro r d0 v6 hr hT
      refine ⟨by rw [List.length_map]; omega, d0, rs ++ [r], _, _, _, by rw [List.map_append]; rfl, hT, by simp, ?_⟩
      intro z hz
      rcases List.mem_append.mp hz with hz | hz
      · exact hok z hz
      · rw [List.mem_singleton] at hz; subst hz; exact hr
    have bk : ∀ d0 : D, Tub (n + 10 * (10 - (rs.length + 1)) + 8) d0 → (mSeq (mAsg (mOp fIx (mTup 4 (mCons (mC (.int 300)) (mCons (mC (.int 1)) (mCons (mC (.int 2)) (mCons (mOp fAdd (mC (.int 1)) (mCall sp__law_dip [true, false] (mcRef 0 (mcVal (mC (.int 9)) mcNil)))) mNil))))) (mCall sp__law_dip [true, false] (mcRef 0 (mcVal (mC (.int 4)) mcNil)))) (mgName 6)) (mAppend 3 (mTup 5 (mCons (mC (.str [98, 97, 99, 107])) (mCons (mVarF 6) (mCons (mOp fEqA (mCall sp__law_dip [true, false] (mcRef 0 (mcVal (mC (.int 2)) mcNil))) (mC (.int 0))) (mCons (mVarF 5) (mCons (mCall sp__law_most [true] (mcRef 0 mcNil)) mNil)))))))) { (endsOf [true, false, false] [d0, .int (k : Int), .int (e : Int)] q x) with nx := fun ρ => ∃ (d0' : D) (rs' : List Rule) (v4 v5 v6' : Option D), ρ = [some d0', some (.int (k : Int)), some (.int (e : Int)), some (.mls (rs'.map rD)), v4, v5, v6'] ∧ Tub (n + 10 * (10 - (rs.length + 1))) d0' ∧ rs'.length = rs.length + 1 ∧ ∀ r ∈ rs', RuleOk e r } [some d0, some (.int (k : Int)), some (.int (e : Int)), some (.mls (rs.map rD)), some (.int (rs.length : Int)), some (.bl (decide (t = 0))), v6] := by
      intro d0 hT
      refine ⟨d0, _, 9, rfl, hT, by decide, by decide, ?_⟩
      clear hT; intro w0 d0 hw0 gw0 hT
      refine ⟨d0, _, 4, rfl, hT, by decide, by decide, ?_⟩
      clear hT; intro w d0 hw gw hT
      obtain ⟨d, ⟨wi, rfl, hwi⟩, hd⟩ := atI_al (xs := [D.int 300, .int 1, .int 2, .int (1 + w0)]) (BigI 300) hw gw ⟨bigI 300 (by decide), bigI 1 (by decide), bigI 2 (by decide), bigI' (by omega) (by omega), trivial⟩
      refine ⟨.int (wi : Int), hd, ?_⟩
      refine ⟨d0, _, 2, rfl, hT, by decide, by decide, ?_⟩
      clear hT; intro b d0 hb gb hT
      refine ⟨d0, _, rfl, hT, ?_⟩
      clear hT; intro mo d0 hT
      exact put (.back (wi : Int) (decide (b = 0)) (decide (t = 0)) mo) d0 _ ⟨by omega, by omega⟩ (hT.mono (by omega))
    refine ⟨fun h => ?_, fun h => ⟨fun h => ab_ft h, fun _ => bk d0 (hT.mono (by omega))⟩⟩
    have h := of_decide_eq_true (show decide (0 < (e : Int)) = true from h)
    refine ⟨d0, _, 3, rfl, hT, by decide, by decide, ?_⟩
    clear hT; intro u d0 hu gu hT
    refine ⟨fun _ => ?_, fun _ => bk d0 hT⟩
    refine ⟨d0, _, (e : Int), rfl, hT, by omega, by omega, ?_⟩
    clear hT; intro w d0 hw gw hT
    obtain ⟨w, rfl⟩ : ∃ k : Nat, w = k := ⟨w.toNat, by omega⟩
    refine ⟨d0, _, rfl, hT, ?_⟩
    clear hT; intro mo d0 hT
    exact put (.elder w (decide (t = 0)) mo) d0 _ (by show w < e; omega) (hT.mono (by omega))
  · rintro ρ ⟨d0, rs, v4, v5, v6, rfl, hT, hl, hok⟩
    rw [rng_len] at hl
    have hl : rs.length = (k : Int).toNat := hl
    have fz : fzs (rs.map rD) = true := by
      unfold fzs
      simp [rD_fz]
    exact ⟨fz, hq rs d0 (by omega) hok (hT.mono (by omega))⟩
/-! ### sources -/
abbrev IE (es : List Tx) (rs : List Rule) (new : Tx) (i j k a : Nat) (q : D → List D → Prop) (x : Er → List D → Prop) : Es := endsOf [false, false, false, false, false] [caseD es rs new, .int (i : Int), .int (j : Int), .int (k : Int), .int (a : Int)] q x
theorem wl_src6 {es : List Tx} {rs : List Rule} {new : Tx} {r : Rule} {i j k a m : Nat} {q : D → List D → Prop} {x : Er → List D → Prop} (C : CaseOk es rs new) (ok : RuleOk es.length r) (hm : m = j - i) (him : i + m ≤ new.length) (hmo : (m : Int) ≤ mostR r)
    (hq : q (.bl (gives es new r i m a)) [caseD es rs new, .int (i : Int), .int (j : Int), .int (k : Int), .int (a : Int)]) :
    m__law_is_source_6 (IE es rs new i j k a q x) [some (caseD es rs new), some (.int (i : Int)), some (.int (j : Int)), some (.int (k : Int)), some (.int (a : Int)), some (rD r), some (.int (m : Int)), some (.str (srcR es new r)), some (.bl (turnR r)), none, none] := by
  have hn := C.hn
  refine ⟨bd_of (by omega) (by omega), ?_⟩
  refine ⟨fun n ρ => (∃ v w, ρ = [some (caseD es rs new), some (.int (i : Int)), some (.int (j : Int)), some (.int (k : Int)), some (.int (a : Int)), some (rD r), some (.int (m : Int)), some (.str (srcR es new r)), some (.bl (turnR r)), v, w]) ∧ ∀ s, s < n → giv es new r i m a s, ⟨⟨none, none, rfl⟩, fun s h => absurd h (by omega)⟩, ?_, ?_⟩
  · rintro n d ρ hd ⟨⟨v, w, rfl⟩, hi⟩
    obtain ⟨hd1, rfl⟩ := rng0_get hd
    have hk : n < m := by
      have hd : n < (m : Int).toNat := hd1
      omega
    have no : ¬ giv es new r i m a n → q (.bl false) [caseD es rs new, .int (i : Int), .int (j : Int), .int (k : Int), .int (a : Int)] := by
      intro z
      have : gives es new r i m a = false := decide_eq_false fun y => z (y.2 n hk)
      rw [← this]
      exact hq
    obtain ⟨P, hP⟩ : ∃ P, plc (turnR r) a m n = P := ⟨_, rfl⟩
    refine ⟨fun ρ => ρ = [some (caseD es rs new), some (.int (i : Int)), some (.int (j : Int)), some (.int (k : Int)), some (.int (a : Int)), some (rD r), some (.int (m : Int)), some (.str (srcR es new r)), some (.bl (turnR r)), some (.int (n : Int)), some (.int (P : Int))], ?_, ?_⟩
    · have e1 : turnR r = true → (a : Int) + (m : Int) - 1 - (n : Int) = (P : Int) := by
        intro z
        rw [z] at hP
        simp only [plc] at hP
        omega
      have e2 : turnR r = false → (a : Int) + (n : Int) = (P : Int) := by
        intro z
        rw [z] at hP
        simp only [plc] at hP
        omega
      refine ⟨fun h => ?_, fun h => ?_⟩
      · show [_, _, _, _, _, _, _, _, _, _, some (D.int ((a : Int) + (m : Int) - 1 - (n : Int)))] = _
        rw [e1 h]
      · show [_, _, _, _, _, _, _, _, _, _, some (D.int ((a : Int) + (n : Int)))] = _
        rw [e2 h]
    · rintro ρ rfl
      have test : (P < (srcR es new r).length → (srcR es new r)[P]? = new[i + n]? → near i n P r → giv es new r i m a n) := by
        intro h1 h2 h3
        unfold giv
        rw [hP]
        exact ⟨h1, h2, h3⟩
      have back : giv es new r i m a n → (P < (srcR es new r).length ∧ (srcR es new r)[P]? = new[i + n]? ∧ near i n P r) := by
        intro z
        unfold giv at z
        rw [hP] at z
        exact z
      refine ⟨fun h => ⟨fun _ => ?_, fun h => ab_tf h⟩, fun h => ?_⟩
      · have h := of_decide_eq_true (show decide (((srcR es new r).length : Int) ≤ (P : Int)) = true from h)
        exact no fun z => by have := (back z).1; omega
      have h := of_decide_eq_false (show decide (((srcR es new r).length : Int) ≤ (P : Int)) = false from h)
      have hp : P < (srcR es new r).length := by omega
      refine ⟨(srcR es new r)[P], atI_nn (List.getElem?_eq_getElem hp), .str new, rfl, new[i + n]'(by omega), atI_nn (i := i + n) (List.getElem?_eq_getElem (by omega)), fun h => ?_, fun h => ?_⟩
      · have h : (!decide ([(srcR es new r)[P]] = [new[i + n]'(by omega)])) = true := h
        have hne : ¬ (srcR es new r)[P] = new[i + n]'(by omega) := by simpa using h
        refine no fun z => hne ?_
        have := (back z).2.1
        rw [List.getElem?_eq_getElem hp, List.getElem?_eq_getElem (by omega)] at this
        simpa using this
      · have h : (!decide ([(srcR es new r)[P]] = [new[i + n]'(by omega)])) = false := h
        have he : (srcR es new r)[P] = new[i + n]'(by omega) := by simpa using h
        have last : near i n P r → ((∃ v w, [some (caseD es rs new), some (.int (i : Int)), some (.int (j : Int)), some (.int (k : Int)), some (.int (a : Int)), some (rD r), some (.int (m : Int)), some (.str (srcR es new r)), some (.bl (turnR r)), some (.int (n : Int)), some (.int (P : Int))] = [some (caseD es rs new), some (.int (i : Int)), some (.int (j : Int)), some (.int (k : Int)), some (.int (a : Int)), some (rD r), some (.int (m : Int)), some (.str (srcR es new r)), some (.bl (turnR r)), v, w]) ∧ ∀ s, s < n + 1 → giv es new r i m a s) := by
          intro hnear
          refine ⟨⟨_, _, rfl⟩, fun s hs => ?_⟩
          by_cases z : s = n
          · subst z
            exact test hp (by rw [List.getElem?_eq_getElem hp, List.getElem?_eq_getElem (by omega), he]) hnear
          · exact hi s (by omega)
        cases r with
        | elder e t mo => exact ⟨.str ELDER, rfl, fun h => ab_ft h, fun _ => last trivial⟩
        | back w ap t mo =>
          refine ⟨.str BACK, rfl, fun _ => ?_, fun h => ab_tf h⟩
          refine ⟨fun h => ⟨fun _ => ?_, fun h => ab_tf h⟩, fun h3 => ⟨.int w, rfl, fun h => ⟨fun _ => ?_, fun h => ab_tf h⟩, fun h4 => ⟨.bl ap, rfl, fun h5 => ⟨fun h => ?_, fun h6 => ?_⟩, fun h5 => ⟨fun h => ab_ft h, fun _ => ?_⟩⟩⟩⟩
          · have h := of_decide_eq_true (show decide ((i : Int) + (n : Int) ≤ (P : Int)) = true from h)
            exact no fun z => by
              have := (back z).2.2.1
              omega
          · have h := of_decide_eq_true (show decide ((P : Int) < (i : Int) + (n : Int) - w) = true from h)
            exact no fun z => by
              have := (back z).2.2.2.1
              omega
          · have h := of_decide_eq_true (show decide ((i : Int) ≤ (P : Int)) = true from h)
            exact no fun z => by
              have := (back z).2.2.2.2 h5
              omega
          · have h3 := of_decide_eq_false (show decide ((i : Int) + (n : Int) ≤ (P : Int)) = false from h3)
            have h4 := of_decide_eq_false (show decide ((P : Int) < (i : Int) + (n : Int) - w) = false from h4)
            have h6 := of_decide_eq_false (show decide ((i : Int) ≤ (P : Int)) = false from h6)
            exact last ⟨by omega, by omega, fun _ => by omega⟩
          · have h3 := of_decide_eq_false (show decide ((i : Int) + (n : Int) ≤ (P : Int)) = false from h3)
            have h4 := of_decide_eq_false (show decide ((P : Int) < (i : Int) + (n : Int) - w) = false from h4)
            exact last ⟨by omega, by omega, fun z => by rw [show ap = false from h5] at z; cases z⟩
  · rintro ρ ⟨⟨v, w, rfl⟩, hi⟩
    have e1 : (rngI 0 (m : Int).toNat).length = m := by rw [rng_len]; omega
    rw [e1] at hi
    have : gives es new r i m a = true := decide_eq_true ⟨hmo, hi⟩
    rw [this] at hq
    exact hq
theorem wp__law_is_source : WpOk [false, false, false, false, false] 6 sp__law_is_source m__law_is_source := by
  rintro ds q x - ⟨es, rs, new, i, j, k, a, r, rfl, C, hk, hij, hj, hq⟩
  have ok := C.hru r (List.mem_of_getElem? hk)
  obtain ⟨m, hm⟩ : ∃ m, m = j - i := ⟨_, rfl⟩
  rw [← hm] at hq
  have ej : (j : Int) - (i : Int) = (m : Int) := by omega
  have big : mostR r < (m : Int) → q (.bl false) [caseD es rs new, .int (i : Int), .int (j : Int), .int (k : Int), .int (a : Int)] := by
    intro z
    have : gives es new r i m a = false := decide_eq_false fun y => by have := y.1; omega
    rw [← this]
    exact hq
  cases r with
  | elder e t mo =>
    have ok' : e < es.length := ok
    refine ⟨.tup (rs.map rD), rfl, rD (.elder e t mo), map_ix hk, ?_⟩
    refine ⟨.int mo, rfl, fun h => ⟨fun _ => ?_, fun h => ab_tf h⟩, fun h => ⟨fun h2 => ?_, fun _ => ?_⟩⟩
    · exact big (by have := of_decide_eq_true (show decide (mo < (j : Int) - (i : Int)) = true from h); show mo < (m : Int); omega)
    · have h2 := of_decide_eq_true (show decide ((a : Int) < 0) = true from h2)
      omega
    · have h := of_decide_eq_false (show decide (mo < (j : Int) - (i : Int)) = false from h)
      refine ⟨.str new, rfl, .bl t, rfl, fun ρ => ρ = [some (caseD es rs new), some (.int (i : Int)), some (.int (j : Int)), some (.int (k : Int)), some (.int (a : Int)), some (rD (.elder e t mo)), some (.int (m : Int)), some (.str (srcR es new (.elder e t mo))), some (.bl t), none, none], ?_, ?_⟩
      · refine ⟨.str ELDER, rfl, fun _ => ?_, fun h => ab_tf h⟩
        refine ⟨.tup (es.map D.str), rfl, .int (e : Int), rfl, .str es[e], map_ix (List.getElem?_eq_getElem ok'), ?_⟩
        have e2 : srcR es new (.elder e t mo) = es[e] := by simp [srcR, List.getD, ok']
        rw [e2, ← ej]
        rfl
      · rintro ρ rfl
        exact wl_src6 C ok hm (by omega) (by show (m : Int) ≤ mo; omega) hq
  | back w ap t mo =>
    refine ⟨.tup (rs.map rD), rfl, rD (.back w ap t mo), map_ix hk, ?_⟩
    refine ⟨.int mo, rfl, fun h => ⟨fun _ => ?_, fun h => ab_tf h⟩, fun h => ⟨fun h2 => ?_, fun _ => ?_⟩⟩
    · exact big (by have := of_decide_eq_true (show decide (mo < (j : Int) - (i : Int)) = true from h); show mo < (m : Int); omega)
    · have h2 := of_decide_eq_true (show decide ((a : Int) < 0) = true from h2)
      omega
    · have h := of_decide_eq_false (show decide (mo < (j : Int) - (i : Int)) = false from h)
      refine ⟨.str new, rfl, .bl t, rfl, fun ρ => ρ = [some (caseD es rs new), some (.int (i : Int)), some (.int (j : Int)), some (.int (k : Int)), some (.int (a : Int)), some (rD (.back w ap t mo)), some (.int (m : Int)), some (.str (srcR es new (.back w ap t mo))), some (.bl t), none, none], ?_, ?_⟩
      · exact ⟨.str BACK, rfl, fun h => ab_ft h, fun _ => by rw [← ej]; rfl⟩
      · rintro ρ rfl
        exact wl_src6 C ok hm (by omega) (by show (m : Int) ≤ mo; omega) hq
end Lw
end

-- text K36f
section
set_option Elab.async false
set_option linter.all false
set_option maxRecDepth 100000
set_option maxHeartbeats 1000000
namespace Lw
open PySem PySem.Spec PyProof.Rows L2 Mi
theorem wp__law_source : WpOk [false, false, false] 4 sp__law_source m__law_source := by
  rintro ds q x - ⟨es, rs, new, i, j, rfl, C, hij, hj, hy, hno⟩
  have hr := C.hr
  have hn := C.hn
  have hrl : ((rs.map rD).length : Int) = (rs.length : Int) := by rw [List.length_map]
  refine ⟨.tup (rs.map rD), rfl, bd_of (by omega) (by omega), ?_⟩
  refine ⟨fun n ρ => (∃ v3 v4 v5 v6, ρ = [some (caseD es rs new), some (.int (i : Int)), some (.int (j : Int)), v3, v4, v5, v6]) ∧ ∀ (k : Nat) r, k < n → rs[k]? = some r → hb es new r i (j - i) = false, ⟨⟨_, _, _, _, rfl⟩, fun k r h => absurd h (by omega)⟩, ?_, ?_⟩
  · rintro n d ρ hd ⟨⟨v3, v4, v5, v6, rfl⟩, hk⟩
    obtain ⟨hd1, rfl⟩ := rng0_get hd
    have hd : n < rs.length := by
      have hd : n < (((rs.map rD).length : Nat) : Int).toNat := hd1
      rw [List.length_map] at hd
      omega
    obtain ⟨r, hr1⟩ : ∃ r, rs[n]? = some r := ⟨_, List.getElem?_eq_getElem hd⟩
    have ok := C.hru r (List.mem_of_getElem? hr1)
    have sl : (srcR es new r).length ≤ 1000 := by
      cases r with
      | elder e t mo =>
        have ok : e < es.length := ok
        have e2 : srcR es new (.elder e t mo) = es[e] := by simp [srcR, List.getD, ok]
        rw [e2]
        exact C.hel _ (List.getElem_mem ok)
      | back w a t mo => exact hn
    refine ⟨.tup (rs.map rD), rfl, rD r, map_ix hr1, .str new, rfl, ?_⟩
    refine ⟨fun ρ => ∃ v6, ρ = [some (caseD es rs new), some (.int (i : Int)), some (.int (j : Int)), some (.int (n : Int)), some (rD r), some (.str (srcR es new r)), v6], ?_, ?_⟩
    · cases r with
      | elder e t mo =>
        have ok : e < es.length := ok
        have e2 : srcR es new (.elder e t mo) = es[e] := by simp [srcR, List.getD, ok]
        refine ⟨.str ELDER, rfl, fun _ => ?_, fun h => ab_tf h⟩
        refine ⟨.tup (es.map D.str), rfl, .int (e : Int), rfl, .str es[e], map_ix (List.getElem?_eq_getElem ok), v6, ?_⟩
        rw [e2]
        rfl
      | back w a t mo => exact ⟨.str BACK, rfl, fun h => ab_ft h, fun _ => ⟨v6, rfl⟩⟩
    · rintro ρ ⟨v6, rfl⟩
      refine ⟨bd_of (by omega) (by omega), ?_⟩
      refine ⟨fun t ρ => (∃ v6, ρ = [some (caseD es rs new), some (.int (i : Int)), some (.int (j : Int)), some (.int (n : Int)), some (rD r), some (.str (srcR es new r)), v6]) ∧ ∀ a, a < t → gives es new r i (j - i) a = false, ⟨⟨_, rfl⟩, fun a h => absurd h (by omega)⟩, ?_, ?_⟩
      · rintro t d ρ hd2 ⟨⟨v6, rfl⟩, ht⟩
        obtain ⟨hd3, rfl⟩ := rng0_get hd2
        have hd3 : t < (srcR es new r).length := by
          have : t < ((((srcR es new r).length : Nat)) : Int).toNat := hd3
          omega
        refine ⟨es, rs, new, i, j, n, t, r, rfl, C, hr1, hij, hj, fun h => ?_, fun h => ?_⟩
        · have h : gives es new r i (j - i) t = true := h
          have hb1 : hb es new r i (j - i) = true := List.any_eq_true.mpr ⟨t, List.mem_range.mpr hd3, h⟩
          exact hy (List.any_eq_true.mpr ⟨r, List.mem_of_getElem? hr1, hb1⟩) n t
        · have h : gives es new r i (j - i) t = false := h
          refine ⟨⟨_, rfl⟩, fun a h1 => ?_⟩
          by_cases y : a = t
          · rw [y]; exact h
          · exact ht a (by omega)
      · rintro ρ ⟨⟨v6, rfl⟩, ht⟩
        have e1 : (rngI 0 ((((srcR es new r).length : Nat)) : Int).toNat).length = (srcR es new r).length := by rw [rng_len]; omega
        rw [e1] at ht
        have hb1 : hb es new r i (j - i) = false := by
          unfold hb
          rw [List.any_eq_false]
          intro a h1
          rw [ht a (List.mem_range.mp h1)]
          simp
        refine ⟨⟨_, _, _, _, rfl⟩, fun k r' h1 h2 => ?_⟩
        by_cases y : k = n
        · subst y
          rw [hr1] at h2
          cases h2
          exact hb1
        · exact hk k r' (by omega) h2
  · rintro ρ ⟨⟨v3, v4, v5, v6, rfl⟩, hk⟩
    rw [rng_len, List.length_map, Int.toNat_natCast] at hk
    refine hno ?_
    unfold anyHb
    rw [List.any_eq_false]
    intro r hr
    obtain ⟨k, hk1, rfl⟩ := List.getElem_of_mem hr
    rw [hk k _ hk1 (List.getElem?_eq_getElem hk1)]
    simp
theorem wp__law_reach : WpOk [false] 3 sp__law_reach m__law_reach := by
  rintro ds q x - ⟨es, rs, new, rfl, C, hq⟩
  have hn := C.hn
  have c := clo_heard es rs new
  refine ⟨.str new, rfl, bd_of (by omega) (by omega), ?_⟩
  refine ⟨fun n ρ => ∃ v w, ρ = [some (caseD es rs new), some (.mls (nats ((List.range n).map (reach es rs new)))), v, w], ⟨none, none, rfl⟩, ?_, ?_⟩
  · rintro n d ρ hd ⟨v, w, rfl⟩
    obtain ⟨hd1, rfl⟩ := rng0_get hd
    have hd : n < new.length := by
      have hd : n < ((new.length : Nat) : Int).toNat := hd1
      omega
    refine ⟨fun t ρ => ∃ e : Nat, ρ = [some (caseD es rs new), some (.mls (nats ((List.range n).map (reach es rs new)))), some (.int (n : Int)), some (.int (e : Int))] ∧ n < e ∧ e ≤ new.length ∧ heard es rs new n e = true ∧ t = new.length - e, ⟨_, n + 1, rfl, by omega, by omega, c.one n, rfl⟩, ?_⟩
    rintro t ρ ⟨e, rfl, h1, h2, h3, rfl⟩
    have fin : (e = new.length ∨ heard es rs new n (e + 1) = false) → reach es rs new n = e := fun z => rch_eq c ⟨h1, h2, h3, z⟩
    have app : reach es rs new n = e → (nats ((List.range n).map (reach es rs new))).length < 16777216 ∧ (∃ v w, [some (caseD es rs new), some (.mls (nats ((List.range n).map (reach es rs new)) ++ [.int (e : Int)])), some (.int (n : Int)), some (.int (e : Int))] = [some (caseD es rs new), some (.mls (nats ((List.range (n + 1)).map (reach es rs new)))), v, w]) := by
      intro z
      refine ⟨by simp [nats]; omega, some (.int (n : Int)), some (.int (e : Int)), ?_⟩
      rw [nats_map_succ, z]
    have ha : heard es rs new n (e + 1) = anyHb es rs new n (e + 1) := by
      unfold heard anyHb
      rw [decide_eq_false (by omega), Bool.false_or]
    refine ⟨.str new, rfl, fun h => ?_, fun h => ⟨fun h => ab_ft h, fun _ => ?_⟩⟩
    · have h := of_decide_eq_true (show decide ((e : Int) < (new.length : Int)) = true from h)
      refine ⟨es, rs, new, n, e + 1, rfl, C, by omega, by omega, fun h4 a b => ?_, fun h4 => ?_⟩
      · rw [← ha] at h4
        exact ⟨fun _ => ⟨new.length - (e + 1), by omega, e + 1, rfl, by omega, by omega, h4, rfl⟩, fun h => ab_tf h⟩
      · rw [← ha] at h4
        exact ⟨fun h => ab_ft h, fun _ => app (fin (.inr h4))⟩
    · have h := of_decide_eq_false (show decide ((e : Int) < (new.length : Int)) = false from h)
      exact app (fin (.inl (by omega)))
  · rintro ρ ⟨v, w, rfl⟩
    have e1 : (rngI 0 ((new.length : Nat) : Int).toNat).length = new.length := by rw [rng_len]; omega
    rw [e1]
    have fz := nats_fz ((List.range new.length).map (reach es rs new))
    conv => whnf
    rw [fz]
    exact hq
theorem wp__law_pieces : WpOk [false] 3 sp__law_pieces m__law_pieces := by
  rintro ds q x - ⟨es, rs, new, rfl, C, hq⟩
  have nl : ((nats ((List.range new.length).map (reach es rs new))).length : Int) = (new.length : Int) := by simp [nats]
  refine ⟨es, rs, new, rfl, C, ?_⟩
  refine ⟨fun t ρ => ∃ (k a : Nat), ρ = [some (caseD es rs new), some (.lst (nats ((List.range new.length).map (reach es rs new)))), some (.int (k : Int)), some (.int (a : Int))] ∧ st (reach es rs new) new.length new.length 0 = k + st (reach es rs new) new.length t a ∧ new.length - a ≤ t, ⟨new.length, 0, 0, rfl, by omega, by omega⟩, ?_⟩
  rintro t ρ ⟨k, a, rfl, hs, ht⟩
  refine ⟨fun h => ?_, fun h => ?_⟩
  · have h := of_decide_eq_true (show decide ((a : Int) < ((nats ((List.range new.length).map (reach es rs new))).length : Int)) = true from h)
    have h : a < new.length := by omega
    have hr := reach_gt (es := es) (rs := rs) (new := new) h
    cases t with
    | zero => omega
    | succ t =>
      refine ⟨.int (reach es rs new a : Int), atI_nn (nats_ix h), t, by omega, k + 1, reach es rs new a, rfl, ?_, by omega⟩
      rw [hs]
      show k + (match decide (a < new.length) with
        | true => st (reach es rs new) new.length t (reach es rs new a) + 1
        | false => 0) = _
      rw [decide_eq_true h]
      show k + (st (reach es rs new) new.length t (reach es rs new a) + 1) = k + 1 + st (reach es rs new) new.length t (reach es rs new a)
      omega
  · have h := of_decide_eq_false (show decide ((a : Int) < ((nats ((List.range new.length).map (reach es rs new))).length : Int)) = false from h)
    have z : st (reach es rs new) new.length t a = 0 := by
      cases t with
      | zero => rfl
      | succ t => unfold st; rw [decide_eq_false (show ¬ a < new.length by omega)]
    rw [z] at hs
    have hq : q (.int ((st (reach es rs new) new.length new.length 0 : Nat) : Int)) [caseD es rs new] := hq
    rw [hs] at hq
    exact hq
/-! ### elder texts taken out -/
theorem wo_lt {k e : Nat} {t : Bool} {m : Int} (h : e < k) : wo k (.elder e t m) = [.elder e t m] := by
  show (match decide (e < k) with
    | true => [Rule.elder e t m]
    | false => (match decide (k < e) with
      | true => [Rule.elder (e - 1) t m]
      | false => [])) = _
  rw [decide_eq_true h]
theorem wo_gt {k e : Nat} {t : Bool} {m : Int} (h : k < e) : wo k (.elder e t m) = [.elder (e - 1) t m] := by
  show (match decide (e < k) with
    | true => [Rule.elder e t m]
    | false => (match decide (k < e) with
      | true => [Rule.elder (e - 1) t m]
      | false => [])) = _
  rw [decide_eq_false (show ¬ e < k by omega), decide_eq_true h]
theorem wo_eq {k e : Nat} {t : Bool} {m : Int} (h : e = k) : wo k (.elder e t m) = [] := by
  show (match decide (e < k) with
    | true => [Rule.elder e t m]
    | false => (match decide (k < e) with
      | true => [Rule.elder (e - 1) t m]
      | false => [])) = _
  rw [decide_eq_false (show ¬ e < k by omega), decide_eq_false (show ¬ k < e by omega)]
theorem wo_len (k : Nat) (r : Rule) : (wo k r).length ≤ 1 := by
  cases r with
  | elder e t m =>
    by_cases h : e < k
    · rw [wo_lt h]; exact Nat.le_refl _
    · by_cases h2 : k < e
      · rw [wo_gt h2]; exact Nat.le_refl _
      · rw [wo_eq (by omega)]; exact Nat.zero_le _
  | back w a t m => exact Nat.le_refl _
theorem wos_len (k : Nat) : ∀ rs : List Rule, (rs.flatMap (wo k)).length ≤ rs.length
  | [] => by simp
  | r :: rs => by
    rw [List.flatMap_cons, List.length_append, List.length_cons]
    have := wo_len k r
    have := wos_len k rs
    omega
theorem wos_succ {k n : Nat} {rs : List Rule} {r : Rule} (h : rs[n]? = some r) : ((rs.take (n + 1)).flatMap (wo k)) = ((rs.take n).flatMap (wo k)) ++ wo k r := by
  rw [List.take_add_one, h, List.flatMap_append]
  simp
theorem rDs_fz (l : List Rule) : fzs (l.map rD) = true := by
  unfold fzs
  simp [rD_fz]
theorem strs_cut {es : List Tx} {k : Nat} : cutD (es.map D.str) none (some (k : Int)) ++ cutD (es.map D.str) (some ((k : Int) + 1)) none = (es.take k ++ es.drop (k + 1)).map D.str := by
  rw [cutD_hin, show (k : Int) + 1 = ((k + 1 : Nat) : Int) by omega, cutD_lon, List.map_append, List.map_take, List.map_drop]
theorem wp__law_without : WpOk [false, false] 2 sp__law_without m__law_without := by
  rintro ds q x - ⟨es, rs, new, k, rfl, he, hr, hq⟩
  refine ⟨.tup (rs.map rD), rfl, ?_⟩
  refine ⟨fun n ρ => ∃ v, ρ = [some (caseD es rs new), some (.int (k : Int)), some (.mls (((rs.take n).flatMap (wo k)).map rD)), v], ⟨none, rfl⟩, ?_, ?_⟩
  · rintro n d ρ hd ⟨v, rfl⟩
    obtain ⟨r, hr1, rfl⟩ := map_get hd
    have hl : ((rs.take n).flatMap (wo k)).length ≤ 1000 := by
      refine Nat.le_trans (wos_len _ _) ?_
      rw [List.length_take]
      omega
    have app : ∀ r', wo k r = [r'] → (((rs.take n).flatMap (wo k)).map rD).length < 16777216 ∧ ∃ v, [some (caseD es rs new), some (.int (k : Int)), some (.mls (((rs.take n).flatMap (wo k)).map rD ++ [rD r'])), some (rD r)] = [some (caseD es rs new), some (.int (k : Int)), some (.mls (((rs.take (n + 1)).flatMap (wo k)).map rD)), v] := by
      intro r' e
      refine ⟨by rw [List.length_map]; omega, some (rD r), ?_⟩
      rw [wos_succ hr1, e, List.map_append]
      rfl
    cases r with
    | back w a t m => exact ⟨.str BACK, rfl, fun _ => ⟨fun _ => app _ rfl, fun h => ab_tf h⟩, fun h => ab_tf h⟩
    | elder e t m =>
      refine ⟨.str ELDER, rfl, fun h => ab_ft h, fun _ => ⟨.int (e : Int), rfl, fun h => ?_, fun h => ⟨.int (e : Int), rfl, fun h2 => ?_, fun h2 => ?_⟩⟩⟩
      · have h := of_decide_eq_true (show decide ((e : Int) < (k : Int)) = true from h)
        exact app (.elder e t m) (wo_lt (by omega))
      · have h := of_decide_eq_false (show decide ((e : Int) < (k : Int)) = false from h)
        have h2 := of_decide_eq_true (show decide ((k : Int) < (e : Int)) = true from h2)
        have a1 := app (.elder (e - 1) t m) (wo_gt (by omega))
        have e1 : rD (.elder (e - 1) t m) = .tup [.str ELDER, .int ((e : Int) - 1), .bl t, .int m] := by
          show D.tup [.str ELDER, .int ((e - 1 : Nat) : Int), .bl t, .int m] = _
          rw [show ((e - 1 : Nat) : Int) = (e : Int) - 1 by omega]
        rw [e1] at a1
        exact ⟨.int (e : Int), rfl, .bl t, rfl, .int m, rfl, a1⟩
      · have h := of_decide_eq_false (show decide ((e : Int) < (k : Int)) = false from h)
        have h2 := of_decide_eq_false (show decide ((k : Int) < (e : Int)) = false from h2)
        refine ⟨some (rD (.elder e t m)), ?_⟩
        rw [wos_succ hr1, wo_eq (show e = k by omega), List.append_nil]
        rfl
  · rintro ρ ⟨v, rfl⟩
    rw [List.length_map, List.take_length]
    refine ⟨.tup (es.map D.str), rfl, .tup (es.map D.str), rfl, ?_, rDs_fz _, .str new, rfl, ?_⟩
    · have := Mi.cutD_len (es.map D.str) none (some (k : Int))
      have := Mi.cutD_len (es.map D.str) (some ((k : Int) + 1)) none
      rw [List.length_map] at *
      omega
    · rw [strs_cut]
      exact hq
theorem rzE {E : Es} {c d e2 r3 n4 : D} (hd : d.fz = true) (he : E.ex (erN d) [some c, some d, some e2, some r3, some n4, none, none]) : mRaise2 12 1 2 (mCons (mC (.str [101, 108, 100, 101, 114])) (mCons (mVarF 1) mNil)) E [some c, some d, some e2, some r3, some n4, none, none] := by
  conv => whnf
  rw [hd]
  exact he
theorem rzB {E : Es} {c d : D} (hd : d.fz = true) (he : E.ex (erN d) [some c, some d, none]) : mRaise2 12 1 2 (mCons (mC (.str [101, 108, 100, 101, 114])) (mCons (mVarF 1) mNil)) E [some c, some d, none] := by
  conv => whnf
  rw [hd]
  exact he
theorem num_int {n : Nat} {a : Int} : numOf n (.int a) = (match decide (0 ≤ a ∧ a < (n : Int)) with
      | true => some a.toNat
      | false => none) := rfl
theorem wp_without_elder : WpOk [false, false] 5 sp_without_elder m_without_elder := by
  rintro ds q x - ⟨es, rs, new, d, rfl, he, hr, hd, hq⟩
  have hz := cn_fz hd
  have hp := pl_up hd
  have el : ((es.map D.str).length : Int) = (es.length : Int) := by rw [List.length_map]
  cases d with
  | int a =>
    rw [num_int] at hq
    refine ⟨fun h => ab_ft h, fun _ => ⟨fun h => ab_ft h, fun _ => ⟨fun h0 => ⟨fun h1 => ?_, fun h1 => ?_⟩, fun h0 => ⟨fun _ => ?_, fun h => ab_tf h⟩⟩⟩⟩
    · have h1 : (!decide (a < ((es.map D.str).length : Int))) = true := h1
      rw [el] at h1
      rw [decide_eq_false (by intro z; simp at h1; omega)] at hq
      exact hq
    · have h0 := of_decide_eq_true (show decide (0 ≤ a) = true from h0)
      have h1 : (!decide (a < ((es.map D.str).length : Int))) = false := h1
      rw [el] at h1
      have h1 : a < (es.length : Int) := by simpa using h1
      obtain ⟨k, rfl⟩ : ∃ i : Nat, a = i := ⟨a.toNat, by omega⟩
      rw [decide_eq_true ⟨h0, h1⟩] at hq
      have hq : q (woD es rs new k) [caseD es rs new, .int (k : Int)] := hq
      refine ⟨fun n ρ => ∃ v, ρ = [some (caseD es rs new), some (.int (k : Int)), some (.tup (es.map D.str)), some (.tup (rs.map rD)), some (.str new), some (.mls (((rs.take n).flatMap (wo k)).map rD)), v], ⟨none, rfl⟩, ?_, ?_⟩
      · rintro n d ρ hd ⟨v, rfl⟩
        obtain ⟨r, hr1, rfl⟩ := map_get hd
        have hl : ((rs.take n).flatMap (wo k)).length ≤ 1000 := by
          refine Nat.le_trans (wos_len _ _) ?_
          rw [List.length_take]
          omega
        have app : ∀ r', wo k r = [r'] → (((rs.take n).flatMap (wo k)).map rD).length < 16777216 ∧ ∃ v, [some (caseD es rs new), some (.int (k : Int)), some (.tup (es.map D.str)), some (.tup (rs.map rD)), some (.str new), some (.mls (((rs.take n).flatMap (wo k)).map rD ++ [rD r'])), some (rD r)] = [some (caseD es rs new), some (.int (k : Int)), some (.tup (es.map D.str)), some (.tup (rs.map rD)), some (.str new), some (.mls (((rs.take (n + 1)).flatMap (wo k)).map rD)), v] := by
          intro r' e
          refine ⟨by rw [List.length_map]; omega, some (rD r), ?_⟩
          rw [wos_succ hr1, e, List.map_append]
          rfl
        cases r with
        | back w a t m => exact ⟨.str BACK, rfl, fun _ => ⟨fun _ => app _ rfl, fun h => ab_tf h⟩, fun h => ab_tf h⟩
        | elder e t m =>
          refine ⟨.str ELDER, rfl, fun h => ab_ft h, fun _ => ⟨.int (e : Int), rfl, fun h => ?_, fun h => ⟨.int (e : Int), rfl, fun h2 => ?_, fun h2 => ?_⟩⟩⟩
          · have h := of_decide_eq_true (show decide ((e : Int) < (k : Int)) = true from h)
            exact app (.elder e t m) (wo_lt (by omega))
          · have h := of_decide_eq_false (show decide ((e : Int) < (k : Int)) = false from h)
            have h2 := of_decide_eq_true (show decide ((k : Int) < (e : Int)) = true from h2)
            have a1 := app (.elder (e - 1) t m) (wo_gt (by omega))
            have e1 : rD (.elder (e - 1) t m) = .tup [.str ELDER, .int ((e : Int) - 1), .bl t, .int m] := by
              show D.tup [.str ELDER, .int ((e - 1 : Nat) : Int), .bl t, .int m] = _
              rw [show ((e - 1 : Nat) : Int) = (e : Int) - 1 by omega]
            rw [e1] at a1
            exact ⟨.int (e : Int), rfl, by show 2 + 2 ≤ 16777216; decide, a1⟩
          · have h := of_decide_eq_false (show decide ((e : Int) < (k : Int)) = false from h)
            have h2 := of_decide_eq_false (show decide ((k : Int) < (e : Int)) = false from h2)
            refine ⟨some (rD (.elder e t m)), ?_⟩
            rw [wos_succ hr1, wo_eq (show e = k by omega), List.append_nil]
            rfl
      · rintro ρ ⟨v, rfl⟩
        rw [List.length_map, List.take_length]
        refine ⟨?_, rDs_fz _, ?_⟩
        · have := Mi.cutD_len (es.map D.str) none (some (k : Int))
          have := Mi.cutD_len (es.map D.str) (some ((k : Int) + 1)) none
          rw [List.length_map] at *
          omega
        · rw [strs_cut]
          exact hq
    · have h0 := of_decide_eq_false (show decide (0 ≤ a) = false from h0)
      rw [decide_eq_false (fun z => h0 z.1)] at hq
      exact hq
  | _ => first | exact hp.elim | (repeat (first | exact hq | exact rzE hz hq | refine ⟨fun _ => ?_, fun h => ab_tf h⟩ | refine ⟨fun h => ab_ft h, fun _ => ?_⟩))
theorem wp_back_case : WpOk [false, false] 1 sp_back_case m_back_case := by
  rintro ds q x - ⟨es, rs, new, d, rfl, he, hd, hq⟩
  have hz := cn_fz hd
  have hp := pl_up hd
  have el : ((es.map D.str).length : Int) = (es.length : Int) := by rw [List.length_map]
  cases d with
  | int a =>
    rw [num_int] at hq
    refine ⟨fun h => ab_ft h, fun _ => ⟨fun h => ab_ft h, fun _ => ⟨fun h0 => ⟨.tup (es.map D.str), rfl, ⟨fun h1 => ?_, fun h1 => ?_⟩⟩, fun h0 => ⟨fun _ => ?_, fun h => ab_tf h⟩⟩⟩⟩
    · have h1 : (!decide (a < ((es.map D.str).length : Int))) = true := h1
      rw [el] at h1
      rw [decide_eq_false (by intro z; simp at h1; omega)] at hq
      exact hq
    · have h0 := of_decide_eq_true (show decide (0 ≤ a) = true from h0)
      have h1 : (!decide (a < ((es.map D.str).length : Int))) = false := h1
      rw [el] at h1
      have h1 : a < (es.length : Int) := by simpa using h1
      obtain ⟨k, rfl⟩ : ∃ i : Nat, a = i := ⟨a.toNat, by omega⟩
      rw [decide_eq_true ⟨h0, h1⟩] at hq
      have hk : k < es.length := by omega
      have hq : q (backD es new k) [caseD es rs new, .int (k : Int)] := hq
      have e2 : es.getD k [] = es[k] := by simp [List.getD, hk]
      refine ⟨.str new, rfl, .tup (es.map D.str), rfl, .str es[k], map_ix (List.getElem?_eq_getElem hk), ?_⟩
      unfold backD at hq
      rw [e2] at hq
      exact hq
    · have h0 := of_decide_eq_false (show decide (0 ≤ a) = false from h0)
      rw [decide_eq_false (fun z => h0 z.1)] at hq
      exact hq
  | _ => first | exact hp.elim | (repeat (first | exact hq | exact rzB hz hq | refine ⟨fun _ => ?_, fun h => ab_tf h⟩ | refine ⟨fun h => ab_ft h, fun _ => ?_⟩))
end Lw
end

-- text K36g
section
set_option Elab.async false
set_option linter.all false
set_option maxRecDepth 100000
set_option maxHeartbeats 1000000
namespace Lw
open PySem PySem.Spec PyProof.Rows L2 Mi
theorem wp__law_told : WpOk [false, false, false] 1 sp__law_told m__law_told := by
  rintro ds q x - ⟨es, rs, new, w, xs, d, rfl, C, ht, hq⟩
  have he := C.he
  have hr := C.hr
  have hn := C.hn
  cases ht with
  | rule r =>
    refine ⟨fun _ => ?_, fun h => ab_tf h⟩
    refine ⟨rD r, rfl, es, rs, new, r, rfl, hr, ?_⟩
    cases z : decide (rs.length = 8) with
    | true =>
      rw [z] at hq
      intro c
      exact ⟨rfl, fun _ => ⟨rfl, hq⟩, fun h => ab_tf h⟩
    | false =>
      rw [z] at hq
      exact hq
  | elder t b m =>
    refine ⟨fun h => ab_ft h, fun _ => ⟨fun _ => ?_, fun h => ab_tf h⟩⟩
    refine ⟨.str t, rfl, .bl b, rfl, .int m, rfl, es, rs, new, t, b, m, rfl, he, hr, ?_⟩
    cases z : (decide (es.length = 6) || decide (rs.length = 8)) with
    | true =>
      rw [z] at hq
      intro c
      exact ⟨rfl, fun _ => ⟨rfl, hq⟩, fun h => ab_tf h⟩
    | false =>
      rw [z] at hq
      exact hq
  | without d hd =>
    refine ⟨fun h => ab_ft h, fun _ => ⟨fun h => ab_ft h, fun _ => ⟨fun _ => ?_, fun h => ab_tf h⟩⟩⟩
    refine ⟨d, rfl, es, rs, new, d, rfl, he, hr, ⟨3, hd⟩, ?_⟩
    cases z : numOf es.length d with
    | none =>
      rw [z] at hq
      intro c
      exact ⟨rfl, fun h => ab_ft h, fun _ => ⟨rfl, fun _ => ⟨rfl, rfl, hq⟩, fun h => ab_tf h⟩⟩
    | some k =>
      rw [z] at hq
      exact hq
  | back d hd =>
    refine ⟨fun h => ab_ft h, fun _ => ⟨fun h => ab_ft h, fun _ => ⟨fun h => ab_ft h, fun _ => ⟨fun _ => ?_, fun h => ab_tf h⟩⟩⟩⟩
    refine ⟨d, rfl, es, rs, new, d, rfl, he, ⟨3, hd⟩, ?_⟩
    cases z : numOf es.length d with
    | none =>
      rw [z] at hq
      intro c
      exact ⟨rfl, fun h => ab_ft h, fun _ => ⟨rfl, fun _ => ⟨rfl, rfl, hq⟩, fun h => ab_tf h⟩⟩
    | some k =>
      rw [z] at hq
      exact hq
  | app t htl =>
    refine ⟨fun h => ab_ft h, fun _ => ⟨fun h => ab_ft h, fun _ => ⟨fun h => ab_ft h, fun _ => ⟨fun h => ab_ft h, fun _ => ⟨fun _ => ?_, fun h => ab_tf h⟩⟩⟩⟩⟩
    refine ⟨.str t, rfl, es, rs, new, t, rfl, hn, htl, ?_⟩
    cases z : decide (300 < (new ++ t).length) with
    | true =>
      rw [z] at hq
      intro c
      exact ⟨rfl, fun _ => ⟨rfl, hq⟩, fun h => ab_tf h⟩
    | false =>
      rw [z] at hq
      exact hq
  | edit i j p hp hij hj =>
    refine ⟨fun h => ab_ft h, fun _ => ⟨fun h => ab_ft h, fun _ => ⟨fun h => ab_ft h, fun _ => ⟨fun h => ab_ft h, fun _ => ⟨fun h => ab_ft h, fun _ => ?_⟩⟩⟩⟩⟩
    refine ⟨stD (i, j), rfl, .str p, rfl, es, rs, new, i, j, p, rfl, hn, hp, hij, hj, ?_⟩
    cases z : decide (300 < (putIn new i j p).length) with
    | true =>
      rw [z] at hq
      intro c
      exact ⟨rfl, fun _ => ⟨rfl, hq⟩, fun h => ab_tf h⟩
    | false =>
      rw [z] at hq
      exact hq
/-! ### depths -/
theorem cn_rule (r : Rule) : Cn 2 (rD r) := by
  cases r with
  | elder e t m => exact ⟨by simp, allL_mem (P := Cn 1) (xs := [D.str ELDER, .int (e : Int), .bl t, .int m]) ⟨trivial, trivial, trivial, trivial, trivial⟩⟩
  | back w a t m => exact ⟨by simp, allL_mem (P := Cn 1) (xs := [D.str BACK, .int w, .bl a, .bl t, .int m]) ⟨trivial, trivial, trivial, trivial, trivial, trivial⟩⟩
theorem cn_case {es : List Tx} {rs : List Rule} {new : Tx} (he : es.length ≤ 100000) (hr : rs.length ≤ 100000) : Cn 4 (caseD es rs new) := by
  refine ⟨by simp, allL_mem (P := Cn 3) (xs := [D.tup (es.map D.str), .tup (rs.map rD), .str new]) ⟨⟨by rw [List.length_map]; exact he, fun x hx => ?_⟩, ⟨by rw [List.length_map]; exact hr, fun x hx => ?_⟩, trivial, trivial⟩⟩
  · obtain ⟨t, _, rfl⟩ := List.mem_map.mp hx
    trivial
  · obtain ⟨r, _, rfl⟩ := List.mem_map.mp hx
    exact cn_rule r
theorem cn_tell {d : D} (h : Cn 4 d) : Cn 6 (tellD d) := ⟨by simp, allL_mem (P := Cn 5) (xs := [D.str TOLD, d]) ⟨trivial, cn_up h, trivial⟩⟩
theorem cn_bad (w : Tx) : Cn 6 (badD w) := ⟨by simp, allL_mem (P := Cn 5) (xs := [D.str BADC, .str w]) ⟨trivial, trivial, trivial⟩⟩
theorem cn_no {d : D} (h : Cn 3 d) : Cn 6 (noD d) := ⟨by simp, allL_mem (P := Cn 5) (xs := [D.str NOSU, .str ELDER, d]) ⟨trivial, trivial, cn_le (by decide) h, trivial⟩⟩
/-! ### numbers -/
section
variable {es : List Tx} {rs : List Rule} {new : Tx} {d00 : D} {q : D → List D → Prop} {x : Er → List D → Prop}
abbrev NE (es : List Tx) (rs : List Rule) (new : Tx) (d00 : D) (q : D → List D → Prop) (x : Er → List D → Prop) : Es := endsOf [true, false] [d00, caseD es rs new] q x
abbrev NQ (es : List Tx) (rs : List Rule) (new : Tx) (n : Nat) (q : D → List D → Prop) : Prop := ∀ d', Tub n d' → q (.bl true) [d', caseD es rs new]
theorem num_none_i {n : Nat} {a : Int} (h : ¬ (0 ≤ a ∧ a < (n : Int))) : numOf n (.int a) = none := by
  rw [num_int, decide_eq_false h]
theorem num_some {n k : Nat} (h : k < n) : numOf n (.int (k : Int)) = some k := by
  rw [num_int, decide_eq_true ⟨by omega, by omega⟩]
  rfl
theorem wl_num3 {n : Nat} (hq : NQ es rs new n q) (C : CaseOk es rs new) {d0 od : D} {v3 v4 : Option D} (hT : Tub n d0) (h1 : Cn 3 od) (h2 : numOf es.length od = none) :
    m__law_numbers_right_3 (NE es rs new d00 q x) [some d0, some (caseD es rs new), some (.int (es.length : Int)), v3, v4, some od, none] := by
  have hz := cn_fz ⟨3, h1⟩
  refine ⟨fun i ρ => ∃ v3 v6, ρ = [some d0, some (caseD es rs new), some (.int (es.length : Int)), v3, v4, some od, v6], ⟨_, _, rfl⟩, ?_, ?_⟩
  · rintro i d ρ hd ⟨v3, v6, rfl⟩
    obtain ⟨w, rfl, hw⟩ : ∃ w : Tx, d = .str w ∧ (w = WWITHOUT ∨ w = BACK) := by
      refine get_all (P := fun d => ∃ w : Tx, d = .str w ∧ (w = WWITHOUT ∨ w = BACK)) hd ?_
      exact allL_mem (P := fun d => ∃ w : Tx, d = .str w ∧ (w = WWITHOUT ∨ w = BACK)) (xs := [D.str WWITHOUT, .str BACK]) ⟨⟨_, rfl, .inl rfl⟩, ⟨_, rfl, .inr rfl⟩, trivial⟩
    conv => whnf
    rw [hz]
    refine ⟨fun t ρ => ∃ v3, ρ = [some d0, some (caseD es rs new), some (.int (es.length : Int)), v3, v4, some od, some (.str w)], ⟨_, rfl⟩, ?_, ?_⟩
    · rintro t d ρ hd ⟨v3, rfl⟩
      obtain ⟨hc, hno⟩ : Cn 3 d ∧ numOf es.length d = none := by
        refine get_all (P := fun d => Cn 3 d ∧ numOf es.length d = none) hd ?_
        exact allL_mem (P := fun d => Cn 3 d ∧ numOf es.length d = none) (xs := [od, .int (es.length : Int)]) ⟨⟨h1, h2⟩, ⟨trivial, num_none_i (by omega)⟩, trivial⟩
      have hz2 := cn_fz ⟨3, hc⟩
      have tl : Tells es rs new w [d] (noD d) := by
        rcases hw with rfl | rfl
        · have := Tells.without (es := es) (rs := rs) (new := new) d hc
          rw [hno] at this
          exact this
        · have := Tells.back (es := es) (rs := rs) (new := new) d hc
          rw [hno] at this
          exact this
      conv => whnf
      rw [hz2]
      refine ⟨es, rs, new, w, [d], noD d, rfl, C, tl, ?_⟩
      conv => whnf
      rw [hz2]
      exact ⟨noD d, noD d, rfl, ⟨6, cn_no hc⟩, cn_no hc, fun h => nsame (cn_no hc) h, fun _ => ⟨_, rfl⟩⟩
    · rintro ρ ⟨v3, rfl⟩
      exact ⟨_, _, rfl⟩
  · rintro ρ ⟨v3, v6, rfl⟩
    exact hq d0 hT
theorem cn_one {d : D} (h : Cn 2 d) : Cn 3 (.tup [d]) := ⟨by simp, allL_mem (P := Cn 2) (xs := [d]) ⟨h, trivial⟩⟩
theorem wl_num2 {n : Nat} (hq : NQ es rs new n q) (C : CaseOk es rs new) {d0 : D} {v3 v4 : Option D} (hT : Tub (n + 2) d0) :
    m__law_numbers_right_2 (NE es rs new d00 q x) [some d0, some (caseD es rs new), some (.int (es.length : Int)), v3, v4, none, none] := by
  refine ⟨fun ρ => ∃ d0 od, ρ = [some d0, some (caseD es rs new), some (.int (es.length : Int)), v3, v4, some od, none] ∧ Tub n d0 ∧ Cn 3 od ∧ numOf es.length od = none, ?_, ?_⟩
  · refine ⟨d0, _, 9, rfl, hT, by decide, by decide, ?_⟩
    clear hT; intro u d0 hu gu hT
    refine ⟨⟨by decide, by decide, by decide⟩, ?_⟩
    refine ⟨d0, _, 9, rfl, hT, by decide, by decide, ?_⟩
    clear hT; intro v d0 hv gv hT
    obtain ⟨d, ⟨h1, h2⟩, hd⟩ := atI_al (xs := [D.int (es.length : Int), .int (-1), .bl true, .non, .str [48], .tup [.int 0], .int ((es.length : Int) + 1 + u), .bl false, .int (10 ^ 50)]) (fun d => Cn 3 d ∧ numOf es.length d = none) hv gv
      ⟨⟨trivial, num_none_i (by omega)⟩, ⟨trivial, num_none_i (by omega)⟩, ⟨trivial, rfl⟩, ⟨trivial, rfl⟩, ⟨trivial, rfl⟩, ⟨cn_one trivial, rfl⟩, ⟨trivial, num_none_i (by omega)⟩, ⟨trivial, rfl⟩, ⟨trivial, num_none_i (by have := C.he; omega)⟩, trivial⟩
    exact ⟨d, hd, d0, d, rfl, hT, h1, h2⟩
  · rintro ρ ⟨d0, od, rfl, hT, h1, h2⟩
    exact wl_num3 hq C hT h1 h2
theorem wo_lens (es : List Tx) (k : Nat) : (es.take k ++ es.drop (k + 1)).length ≤ es.length := by
  rw [List.length_append, List.length_take, List.length_drop]
  omega
theorem wl_num1 {n : Nat} (hq : NQ es rs new n q) (C : CaseOk es rs new) {d0 : D} (hT : Tub (n + 2) d0) :
    m__law_numbers_right_1 (NE es rs new d00 q x) [some d0, some (caseD es rs new), some (.int (es.length : Int)), none, none, none, none] := by
  have he := C.he
  have hr := C.hr
  refine ⟨fun ρ => ∃ v3 v4, ρ = [some d0, some (caseD es rs new), some (.int (es.length : Int)), v3, v4, none, none], ?_, ?_⟩
  · refine ⟨bd_of (by omega) (by omega), ?_⟩
    refine ⟨fun i ρ => ∃ v3 v4, ρ = [some d0, some (caseD es rs new), some (.int (es.length : Int)), v3, v4, none, none], ⟨_, _, rfl⟩, ?_, ?_⟩
    · rintro k d ρ hd ⟨v3, v4, rfl⟩
      obtain ⟨hk1, rfl⟩ := rng0_get hd
      have hk : k < es.length := by
        have : k < (es.length : Int).toNat := hk1
        omega
      have t1 := Tells.without (es := es) (rs := rs) (new := new) (.int (k : Int)) trivial
      rw [num_some hk] at t1
      have t2 := Tells.back (es := es) (rs := rs) (new := new) (.int (k : Int)) trivial
      rw [num_some hk] at t2
      have c1 : Cn 6 (tellD (woD es rs new k)) := cn_tell (cn_case (by have := wo_lens es k; omega) (by have := wos_len k rs; omega))
      have c2 : Cn 6 (tellD (backD es new k)) := cn_tell (cn_case (by simp) (by simp))
      refine ⟨es, rs, new, WWITHOUT, [.int (k : Int)], tellD (woD es rs new k), rfl, C, t1, ?_⟩
      refine ⟨es, rs, new, k, rfl, he, hr, ?_⟩
      refine ⟨tellD (woD es rs new k), tellD (woD es rs new k), rfl, ⟨6, c1⟩, c1, fun h => nsame c1 h, fun _ => ?_⟩
      refine ⟨es, rs, new, BACK, [.int (k : Int)], tellD (backD es new k), rfl, C, t2, ?_⟩
      refine ⟨.str new, rfl, .tup (es.map D.str), rfl, .str es[k], map_ix (List.getElem?_eq_getElem hk), ?_⟩
      have e2 : backD es new k = .tup [.tup [.str new], .tup [.tup [.str ELDER, .int 0, .bl false, .int 300], .tup [.str ELDER, .int 0, .bl true, .int 300]], .str es[k]] := by
        unfold backD
        rw [show es.getD k [] = es[k] by simp [List.getD, hk]]
        rfl
      refine ⟨tellD (backD es new k), tellD (backD es new k), ?_, ⟨6, c2⟩, c2, fun h => nsame c2 h, fun _ => ⟨_, _, rfl⟩⟩
      rw [e2]
      rfl
    · rintro ρ ⟨v3, v4, rfl⟩
      exact ⟨_, _, rfl⟩
  · rintro ρ ⟨v3, v4, rfl⟩
    exact wl_num2 hq C hT
theorem wp__law_numbers_right : WpOk [true, false] 5 sp__law_numbers_right m__law_numbers_right := by
  rintro ds q x - ⟨es, rs, new, d0, n, rfl, C, hT, hq⟩
  have el : ((es.map D.str).length : Int) = (es.length : Int) := by rw [List.length_map]
  refine ⟨fun ρ => ρ = [some d0, some (caseD es rs new), some (.int (es.length : Int)), none, none, none, none], ?_, ?_⟩
  · refine ⟨.tup (es.map D.str), rfl, ?_⟩
    show [some d0, some (caseD es rs new), some (D.int ((es.map D.str).length : Int)), none, none, none, none] = _
    rw [el]
  · rintro ρ rfl
    exact wl_num1 hq C hT
end
end Lw
end

-- text K36h
section
set_option Elab.async false
set_option linter.all false
set_option maxRecDepth 100000
set_option maxHeartbeats 1000000
namespace Lw
open PySem PySem.Spec PyProof.Rows L2 Mi
section
variable {es : List Tx} {rs : List Rule} {new s : Tx} {d00 : D} {q : D → List D → Prop} {x : Er → List D → Prop}
abbrev ME_ (es : List Tx) (rs : List Rule) (new s : Tx) (d00 : D) (q : D → List D → Prop) (x : Er → List D → Prop) : Es := endsOf [true, false, false] [d00, caseD es rs new, .str s] q x
abbrev MQ_ (es : List Tx) (rs : List Rule) (new s : Tx) (n : Nat) (q : D → List D → Prop) : Prop := ∀ d', Tub n d' → q (.bl true) [d', caseD es rs new, .str s]
def dueE (es : List Tx) (rs : List Rule) (new t : Tx) (b : Bool) (m : Int) : D := match decide (es.length = 6) || decide (rs.length = 8) with
  | true => badD MANY
  | false => tellD (caseD (es ++ [t]) (rs ++ [.elder es.length b m]) new)
def dueR (es : List Tx) (rs : List Rule) (new : Tx) (r : Rule) : D := match decide (rs.length = 8) with
  | true => badD MANY
  | false => tellD (caseD es (rs ++ [r]) new)
theorem cn_dueE (C : CaseOk es rs new) (t : Tx) (b : Bool) (m : Int) : Cn 6 (dueE es rs new t b m) := by
  have he := C.he
  have hr := C.hr
  unfold dueE
  split
  · exact cn_bad _
  · exact cn_tell (cn_case (by simp; omega) (by simp; omega))
theorem cn_dueR (C : CaseOk es rs new) (r : Rule) : Cn 6 (dueR es rs new r) := by
  have he := C.he
  have hr := C.hr
  unfold dueR
  split
  · exact cn_bad _
  · exact cn_tell (cn_case (by omega) (by simp; omega))
theorem wl_more9 {n : Nat} (hq : MQ_ es rs new s n q) (C : CaseOk es rs new) {d0 : D} {v3 : Option D} {t : Tx} {b : Bool} {m : Int} (hT : Tub n d0) :
    m__law_more_right_9 (ME_ es rs new s d00 q x) [some d0, some (caseD es rs new), some (.str s), v3, some (dueE es rs new t b m), some (.str t), some (.bl b), some (.int m)] := by
  have c1 := cn_dueE C t b m
  have hz := cn_fz ⟨6, c1⟩
  have he := C.he
  have hr := C.hr
  refine ⟨es, rs, new, ELDER, [.str t, .bl b, .int m], dueE es rs new t b m, rfl, C, Tells.elder t b m, ?_⟩
  conv => whnf
  rw [hz]
  conv => whnf
  rw [hz]
  refine ⟨_, _, rfl, ⟨6, c1⟩, c1, fun h => nsame c1 h, fun _ => ?_⟩
  refine ⟨es, rs, new, t, rfl, .tup (es.map D.str), rfl, .tup (rs.map rD), rfl, ?_⟩
  have c2 : Cn 6 (caseD es rs t) := cn_le (by decide) (cn_case (by omega) (by omega))
  refine ⟨caseD es rs t, caseD es rs t, rfl, ⟨6, c2⟩, c2, ?_⟩
  exact isame (q := fun d' => q d' _) c2 (hq d0 hT)
theorem wl_more7 {n : Nat} (hq : MQ_ es rs new s n q) (C : CaseOk es rs new) {d0 : D} {v3 v4 : Option D} {t : Tx} {b : Bool} {m : Int} (hT : Tub n d0) :
    m__law_more_right_7 (ME_ es rs new s d00 q x) [some d0, some (caseD es rs new), some (.str s), v3, v4, some (.str t), some (.bl b), some (.int m)] := by
  have he := C.he
  have hr := C.hr
  have el : ((es.map D.str).length : Int) = (es.length : Int) := by rw [List.length_map]
  have rl : ((rs.map rD).length : Int) = (rs.length : Int) := by rw [List.length_map]
  have e0 : decide (((rs.map rD).length : Int) = 8) = decide (rs.length = 8) := by
    rw [List.length_map]
    apply decide_eq_decide.mpr
    omega
  have e1 : decide (((es.map D.str).length : Int) = 6) = decide (es.length = 6) := by
    rw [List.length_map]
    apply decide_eq_decide.mpr
    omega
  refine ⟨.tup (es.map D.str), rfl, by simp; omega, .tup (rs.map rD), rfl, .tup (es.map D.str), rfl, by simp; omega, .str new, rfl, ?_⟩
  refine ⟨fun ρ => ρ = [some d0, some (caseD es rs new), some (.str s), v3, some (dueE es rs new t b m), some (.str t), some (.bl b), some (.int m)], ?_, ?_⟩
  · refine ⟨.tup (rs.map rD), rfl, fun h => ⟨fun _ => ?_, fun h => ab_tf h⟩, fun h => ⟨.tup (es.map D.str), rfl, fun h2 => ?_, fun h2 => ?_⟩⟩
    · have h : decide (((rs.map rD).length : Int) = 8) = true := h
      rw [e0] at h
      unfold dueE
      rw [h, Bool.or_true]
      rfl
    · have h2 : decide (((es.map D.str).length : Int) = 6) = true := h2
      rw [e1] at h2
      unfold dueE
      rw [h2, Bool.true_or]
      rfl
    · have h : decide (((rs.map rD).length : Int) = 8) = false := h
      have h2 : decide (((es.map D.str).length : Int) = 6) = false := h2
      rw [e0] at h
      rw [e1] at h2
      unfold dueE
      rw [h, h2]
      show [some d0, some (caseD es rs new), some (.str s), v3, some (D.tup [.str TOLD, .tup [.tup (es.map D.str ++ [.str t]), .tup (rs.map rD ++ [.tup [.str ELDER, .int ((es.map D.str).length : Int), .bl b, .int m]]), .str new]]), some (.str t), some (.bl b), some (.int m)] = [some d0, some (caseD es rs new), some (.str s), v3, some (D.tup [.str TOLD, .tup [.tup ((es ++ [t]).map D.str), .tup ((rs ++ [Rule.elder es.length b m]).map rD), .str new]]), some (.str t), some (.bl b), some (.int m)]
      rw [List.map_append, List.map_append, el]
      rfl
  · rintro ρ rfl
    exact wl_more9 hq C hT
theorem wl_more4 {n : Nat} (hq : MQ_ es rs new s n q) (C : CaseOk es rs new) (hs : SigOk s) {d0 : D} {v3 v4 : Option D} (hT : Tub (n + 53) d0) :
    m__law_more_right_4 (ME_ es rs new s d00 q x) [some d0, some (caseD es rs new), some (.str s), v3, v4, none, none, none] := by
  refine ⟨d0, n + 3, 6, s, rfl, hT, by decide, by decide, hs, ?_⟩
  clear hT; intro t d0 ht hT
  refine ⟨fun ρ => ∃ d0 b, ρ = [some d0, some (caseD es rs new), some (.str s), v3, v4, some (.str t), some (.bl b), none] ∧ Tub (n + 2) d0, ?_, ?_⟩
  · refine ⟨d0, _, 2, rfl, hT, by decide, by decide, ?_⟩
    clear hT; intro u d0 hu gu hT
    exact ⟨d0, _, rfl, hT⟩
  · rintro ρ ⟨d0, b, rfl, hT⟩
    refine ⟨fun ρ => ∃ d0 m, ρ = [some d0, some (caseD es rs new), some (.str s), v3, v4, some (.str t), some (.bl b), some (.int m)] ∧ Tub n d0, ?_, ?_⟩
    · refine ⟨d0, n, rfl, hT, ?_⟩
      clear hT; intro m d0 hT
      exact ⟨d0, m, rfl, hT⟩
    · rintro ρ ⟨d0, m, rfl, hT⟩
      exact wl_more7 hq C hT
theorem wl_more1 {n : Nat} (hq : MQ_ es rs new s n q) (C : CaseOk es rs new) (hs : SigOk s) {d0 : D} {r : Rule} (hT : Tub (n + 53) d0) :
    m__law_more_right_1 (ME_ es rs new s d00 q x) [some d0, some (caseD es rs new), some (.str s), some (rD r), none, none, none, none] := by
  have he := C.he
  have hr := C.hr
  have fz := rD_fz r
  have e0 : decide (((rs.map rD).length : Int) = 8) = decide (rs.length = 8) := by
    rw [List.length_map]
    apply decide_eq_decide.mpr
    omega
  refine ⟨fun ρ => ρ = [some d0, some (caseD es rs new), some (.str s), some (rD r), some (tellD (caseD es (rs ++ [r]) new)), none, none, none], ?_, ?_⟩
  · refine ⟨.tup (es.map D.str), rfl, .tup (rs.map rD), rfl, ?_⟩
    conv => whnf
    rw [fz]
    refine ⟨by simp; omega, .str new, rfl, ?_⟩
    show [some d0, some (caseD es rs new), some (.str s), some (rD r), some (D.tup [.str TOLD, .tup [.tup (es.map D.str), .tup (rs.map rD ++ [rD r]), .str new]]), none, none, none] = [some d0, some (caseD es rs new), some (.str s), some (rD r), some (D.tup [.str TOLD, .tup [.tup (es.map D.str), .tup ((rs ++ [r]).map rD), .str new]]), none, none, none]
    rw [List.map_append]
    rfl
  · rintro ρ rfl
    refine ⟨fun ρ => ρ = [some d0, some (caseD es rs new), some (.str s), some (rD r), some (dueR es rs new r), none, none, none], ?_, ?_⟩
    · refine ⟨.tup (rs.map rD), rfl, fun h => ?_, fun h => ?_⟩
      · have h : decide (((rs.map rD).length : Int) = 8) = true := h
        rw [e0] at h
        unfold dueR
        rw [h]
        rfl
      · have h : decide (((rs.map rD).length : Int) = 8) = false := h
        rw [e0] at h
        unfold dueR
        rw [h]
        rfl
    · rintro ρ rfl
      have c1 := cn_dueR C r
      have hz := cn_fz ⟨6, c1⟩
      refine ⟨fun ρ => ρ = [some d0, some (caseD es rs new), some (.str s), some (rD r), some (dueR es rs new r), none, none, none], ?_, ?_⟩
      · conv => whnf
        rw [fz]
        refine ⟨es, rs, new, WRULE, [rD r], dueR es rs new r, rfl, C, Tells.rule r, ?_⟩
        conv => whnf
        rw [hz]
        conv => whnf
        rw [hz]
        exact ⟨_, _, rfl, ⟨6, c1⟩, c1, fun h => nsame c1 h, fun _ => rfl⟩
      · rintro ρ rfl
        exact wl_more4 hq C hs hT
theorem wp__law_more_right : WpOk [true, false, false] 5 sp__law_more_right m__law_more_right := by
  rintro ds q x - ⟨es, rs, new, d0, n, s, rfl, C, hs, he, hT, hq⟩
  have el : ((es.map D.str).length : Int) = (es.length : Int) := by rw [List.length_map]
  refine ⟨fun ρ => ∃ d0 r, ρ = [some d0, some (caseD es rs new), some (.str s), some (rD r), none, none, none, none] ∧ Tub (n + 53) d0, ?_, ?_⟩
  · refine ⟨.tup (es.map D.str), rfl, d0, n + 53, 1, es.length, ?_, hT.mono (by omega), by decide, he, ?_⟩
    · show [d0, D.int 1, D.int ((es.map D.str).length : Int)] = _
      rw [el]
      rfl
    clear hT; intro rs' d0 hl _ hT
    obtain ⟨r, rfl⟩ : ∃ r, rs' = [r] := by
      match rs', hl with
      | [r], _ => exact ⟨r, rfl⟩
    exact ⟨rD r, rfl, d0, r, by show [some d0, some (caseD es rs new), some (D.str s), some (rD r), none, none, none, none] = _; rfl, hT⟩
  · rintro ρ ⟨d0, r, rfl, hT⟩
    exact wl_more1 hq C hs hT
end
/-! ### forms -/
section
variable {es : List Tx} {rs : List Rule} {new : Tx} {d00 : D} {q : D → List D → Prop} {x : Er → List D → Prop}
theorem wl_forms4 {n : Nat} (hq : NQ es rs new n q) (C : CaseOk es rs new) {d0 : D} (hT : Tub (n + 2) d0) :
    m__law_forms_right_4 (NE es rs new d00 q x) [some d0, some (caseD es rs new), some (.tup ((rs.filter isEl).map rD)), some (.int (new.length : Int)), none, none, none] := by
  have he := C.he
  have hr := C.hr
  have hn := C.hn
  have hfl : (rs.filter isEl).length ≤ 1000 := Nat.le_trans (List.length_filter_le _ _) hr
  refine ⟨fun _ => hq d0 (hT.mono (by omega)), fun h => ?_⟩
  have h := of_decide_eq_false (show decide ((new.length : Int) = 0) = false from h)
  refine ⟨fun ρ => ∃ d0, ∃ f : Nat, ρ = [some d0, some (caseD es rs new), some (.tup ((rs.filter isEl).map rD)), some (.int (new.length : Int)), some (.int (f : Int)), none, none] ∧ Tub (n + 1) d0 ∧ f < new.length, ?_, ?_⟩
  · refine ⟨d0, _, (new.length : Int), rfl, hT, by omega, by omega, ?_⟩
    clear hT; intro f d0 hf gf hT
    obtain ⟨f, rfl⟩ : ∃ k : Nat, f = k := ⟨f.toNat, by omega⟩
    exact ⟨d0, f, rfl, hT, by omega⟩
  · rintro ρ ⟨d0, f, rfl, hT, hf⟩
    refine ⟨d0, _, (new.length : Int) - (f : Int), rfl, hT, by omega, by omega, ?_⟩
    clear hT; intro u d0 hu gu hT
    obtain ⟨u, rfl⟩ : ∃ k : Nat, u = k := ⟨u.toNat, by omega⟩
    refine ⟨es, rs, new, f, f + 1 + u, rfl, hr, .tup (es.map D.str), rfl, .str new, rfl, ?_⟩
    have c1 : Cn 6 (caseD es (rs.filter isEl) (cutD new (some (f : Int)) (some ((f + 1 + u : Nat) : Int)))) := cn_le (by decide) (cn_case (by omega) (by omega))
    exact ⟨_, _, rfl, ⟨6, c1⟩, c1, isame (q := fun d' => q d' _) c1 (hq d0 hT)⟩
theorem wp__law_forms_right : WpOk [true, false] 5 sp__law_forms_right m__law_forms_right := by
  rintro ds q x - ⟨es, rs, new, d0, n, rfl, C, hT, hq⟩
  have he := C.he
  have hr := C.hr
  have hn := C.hn
  have hfl : (rs.filter isEl).length ≤ 1000 := Nat.le_trans (List.length_filter_le _ _) hr
  refine ⟨fun ρ => ρ = [some d0, some (caseD es rs new), some (.tup ((rs.filter isEl).map rD)), none, none, none, none], ⟨es, rs, new, rfl, hr, rfl⟩, ?_⟩
  rintro ρ rfl
  refine ⟨fun ρ => ρ = [some d0, some (caseD es rs new), some (.tup ((rs.filter isEl).map rD)), none, none, none, none], ?_, ?_⟩
  · have c1 : Cn 6 (caseD es (rs.filter isEl) new) := cn_le (by decide) (cn_case (by omega) (by omega))
    refine ⟨es, rs, new, rfl, hr, .tup (es.map D.str), rfl, .str new, rfl, ?_⟩
    exact ⟨_, _, rfl, ⟨6, c1⟩, c1, fun h => nsame c1 h, fun _ => rfl⟩
  rintro ρ rfl
  refine ⟨fun ρ => ρ = [some d0, some (caseD es rs new), some (.tup ((rs.filter isEl).map rD)), none, none, none, none], ?_, ?_⟩
  · have c1 : Cn 6 (caseD (es.map List.reverse) (rs.filter isEl) new.reverse) := cn_le (by decide) (cn_case (by simp; omega) (by omega))
    refine ⟨es, rs, new, rfl, he, hr, .tup (es.map D.str), rfl, ?_⟩
    refine lc_map (l := es) (f := D.str) (ρ1 := [some d0, some (caseD es rs new), some (.tup ((rs.filter isEl).map rD)), none, none, none, none]) (fun _ => true) (fun t => .str t.reverse) ?_ (by omega) ?_
    · intro k r hr A B hA hB
      exact ⟨fun _ => hA _ rfl rfl, fun h => ab_tf h⟩
    · rw [filt_all]
      refine ⟨.str new, rfl, caseD (es.map List.reverse) (rs.filter isEl) new.reverse, caseD (es.map List.reverse) (rs.filter isEl) new.reverse, ?_, ⟨6, c1⟩, c1, fun h => nsame c1 h, fun _ => rfl⟩
      show [caseD (es.map List.reverse) (rs.filter isEl) new.reverse, D.tup [.tup (es.map fun t => D.str t.reverse), .tup ((rs.filter isEl).map rD), .str new.reverse]] = [caseD (es.map List.reverse) (rs.filter isEl) new.reverse, D.tup [.tup ((es.map List.reverse).map D.str), .tup ((rs.filter isEl).map rD), .str new.reverse]]
      rw [List.map_map]
      rfl
  rintro ρ rfl
  refine ⟨fun ρ => ρ = [some d0, some (caseD es rs new), some (.tup ((rs.filter isEl).map rD)), some (.int (new.length : Int)), none, none, none], ⟨.str new, rfl, rfl⟩, ?_⟩
  rintro ρ rfl
  exact wl_forms4 hq C hT
end
end Lw
end

-- text K36i
section
set_option Elab.async false
set_option linter.all false
set_option maxRecDepth 100000
set_option maxHeartbeats 1000000
namespace Lw
open PySem PySem.Spec PyProof.Rows L2 Mi
theorem put_len {t p : Tx} {i j : Nat} (h : i < j) (h2 : j ≤ t.length) : (putIn t i j p).length = t.length - (j - i) + p.length := by
  unfold putIn
  rw [List.length_append, List.length_append, List.length_take, List.length_drop]
  omega
section
variable {es : List Tx} {rs : List Rule} {new s : Tx} {b : Bool} {d00 : D} {q : D → List D → Prop} {x : Er → List D → Prop}
abbrev EE (es : List Tx) (rs : List Rule) (new s : Tx) (b : Bool) (d00 : D) (q : D → List D → Prop) (x : Er → List D → Prop) : Es := endsOf [true, false, false, false] [d00, caseD es rs new, .str s, .bl b] q x
abbrev EQ_ (es : List Tx) (rs : List Rule) (new s : Tx) (b : Bool) (n : Nat) (q : D → List D → Prop) : Prop := ∀ d', Tub n d' → q (.bl true) [d', caseD es rs new, .str s, .bl b]
def dueA (es : List Tx) (rs : List Rule) (new p : Tx) : D := match decide (300 < (new ++ p).length) with
  | true => badD LONG
  | false => tellD (caseD es rs (new ++ p))
def dueX (es : List Tx) (rs : List Rule) (new : Tx) (i j : Nat) (p : Tx) : D := match decide (300 < (putIn new i j p).length) with
  | true => badD LONG
  | false => tellD (caseD es rs (putIn new i j p))
theorem cn_dueA (C : CaseOk es rs new) (p : Tx) : Cn 6 (dueA es rs new p) := by
  have he := C.he
  have hr := C.hr
  unfold dueA
  split
  · exact cn_bad _
  · exact cn_tell (cn_case (by omega) (by omega))
theorem cn_dueX (C : CaseOk es rs new) (i j : Nat) (p : Tx) : Cn 6 (dueX es rs new i j p) := by
  have he := C.he
  have hr := C.hr
  unfold dueX
  split
  · exact cn_bad _
  · exact cn_tell (cn_case (by omega) (by omega))
theorem wl_ed12 {n f e : Nat} {pc : Int} {p : Tx} (hq : EQ_ es rs new s b n q) (C : CaseOk es rs new) (hb : b = true → new.length ≤ 100) (hp : p.length ≤ 10) (hfe : f < e) (hen : e ≤ new.length) (hpc : b = true → pc = pcs es rs new) {d0 : D} (hT : Tub n d0) :
    m__law_edits_right_12 (EE es rs new s b d00 q x) [some d0, some (caseD es rs new), some (.str s), some (.bl b), some (.str new), some (.str p), some (dueX es rs new f e p), some (.int pc), some (.int (f : Int)), some (.int (e : Int))] := by
  have c1 := cn_dueX C f e p
  have hz := cn_fz ⟨6, c1⟩
  refine ⟨es, rs, new, WEDIT, [stD (f, e), .str p], dueX es rs new f e p, rfl, C, Tells.edit f e p (by omega) hfe hen, ?_⟩
  conv => whnf
  rw [hz]
  conv => whnf
  rw [hz]
  refine ⟨_, _, rfl, ⟨6, c1⟩, c1, fun h => nsame c1 h, fun _ => ?_⟩
  cases b with
  | false => exact ⟨fun _ => hq d0 hT, fun h => ab_tf h⟩
  | true =>
    have hb := hb rfl
    have hpc := hpc rfl
    subst hpc
    have pl := put_len (t := new) (p := p) hfe hen
    have e0 : dueX es rs new f e p = tellD (caseD es rs (putIn new f e p)) := by
      unfold dueX
      rw [decide_eq_false (by omega)]
    have C2 : CaseOk es rs (putIn new f e p) := case_new C (by omega)
    rw [e0]
    refine ⟨fun h => ab_ft h, fun _ => ⟨es, rs, new, f, e, p, rfl, C, by omega, hfe, hen, by omega, ?_⟩⟩
    refine ⟨caseD es rs (putIn new f e p), rfl, es, rs, putIn new f e p, rfl, C2, ?_⟩
    refine ⟨.int ((pcs es rs (putIn new f e p) : Int) - (pcs es rs new : Int)), .int ((pcs es rs (putIn new f e p) : Int) - (pcs es rs new : Int)), rfl, ⟨1, trivial⟩, trivial, ?_⟩
    exact isame (d := .int ((pcs es rs (putIn new f e p) : Int) - (pcs es rs new : Int))) (q := fun d' => q d' _) trivial (hq d0 hT)
theorem wl_ed10 {n f e : Nat} {pc : Int} {p : Tx} {v6 : Option D} (hq : EQ_ es rs new s b n q) (C : CaseOk es rs new) (hb : b = true → new.length ≤ 100) (hp : p.length ≤ 10) (hfe : f < e) (hen : e ≤ new.length) (hpc : b = true → pc = pcs es rs new) {d0 : D} (hT : Tub n d0) :
    m__law_edits_right_10 (EE es rs new s b d00 q x) [some d0, some (caseD es rs new), some (.str s), some (.bl b), some (.str new), some (.str p), v6, some (.int pc), some (.int (f : Int)), some (.int (e : Int))] := by
  have hn := C.hn
  have e1 : cutD new none (some (f : Int)) = new.take f := cutD_hin
  have e2 : cutD new (some (e : Int)) none = new.drop e := cutD_lon
  have l1 : (new.take f).length ≤ new.length := by rw [List.length_take]; omega
  have l2 : (new.drop e).length ≤ new.length := by rw [List.length_drop]; omega
  have pl := put_len (t := new) (p := p) hfe hen
  refine ⟨fun ρ => ρ = [some d0, some (caseD es rs new), some (.str s), some (.bl b), some (.str new), some (.str p), some (tellD (caseD es rs (putIn new f e p))), some (.int pc), some (.int (f : Int)), some (.int (e : Int))], ?_, ?_⟩
  · refine ⟨.tup (es.map D.str), rfl, .tup (rs.map rD), rfl, by rw [e1]; omega, by rw [e1, e2, List.length_append]; omega, ?_⟩
    show [some d0, some (caseD es rs new), some (.str s), some (.bl b), some (.str new), some (.str p), some (D.tup [.str TOLD, .tup [.tup (es.map D.str), .tup (rs.map rD), .str (cutD new none (some (f : Int)) ++ p ++ cutD new (some (e : Int)) none)]]), some (.int pc), some (.int (f : Int)), some (.int (e : Int))] = _
    rw [e1, e2]
    rfl
  · rintro ρ rfl
    have ed : decide ((300 : Int) < (new.length : Int) - ((e : Int) - (f : Int)) + (p.length : Int)) = decide (300 < (putIn new f e p).length) := by
      apply decide_eq_decide.mpr
      omega
    refine ⟨fun ρ => ρ = [some d0, some (caseD es rs new), some (.str s), some (.bl b), some (.str new), some (.str p), some (dueX es rs new f e p), some (.int pc), some (.int (f : Int)), some (.int (e : Int))], ?_, ?_⟩
    · refine ⟨fun h => ?_, fun h => ?_⟩
      · have h : decide ((300 : Int) < (new.length : Int) - ((e : Int) - (f : Int)) + (p.length : Int)) = true := h
        rw [ed] at h
        unfold dueX
        rw [h]
        rfl
      · have h : decide ((300 : Int) < (new.length : Int) - ((e : Int) - (f : Int)) + (p.length : Int)) = false := h
        rw [ed] at h
        unfold dueX
        rw [h]
        rfl
    · rintro ρ rfl
      exact wl_ed12 hq C hb hp hfe hen hpc hT
theorem wl_ed7 {n : Nat} {pc : Int} {p : Tx} {v6 : Option D} (hq : EQ_ es rs new s b n q) (C : CaseOk es rs new) (hb : b = true → new.length ≤ 100) (hp : p.length ≤ 10) (hpc : b = true → pc = pcs es rs new) {d0 : D} (hT : Tub (n + 2) d0) :
    m__law_edits_right_7 (EE es rs new s b d00 q x) [some d0, some (caseD es rs new), some (.str s), some (.bl b), some (.str new), some (.str p), v6, some (.int pc), none, none] := by
  have hn := C.hn
  refine ⟨fun _ => hq d0 (hT.mono (by omega)), fun h => ?_⟩
  have h := of_decide_eq_false (show decide (new = []) = false from h)
  have hpos : 0 < new.length := List.length_pos_iff.mpr h
  refine ⟨fun ρ => ∃ d0, ∃ f : Nat, ρ = [some d0, some (caseD es rs new), some (.str s), some (.bl b), some (.str new), some (.str p), v6, some (.int pc), some (.int (f : Int)), none] ∧ Tub (n + 1) d0 ∧ f < new.length, ?_, ?_⟩
  · refine ⟨d0, _, (new.length : Int), rfl, hT, by omega, by omega, ?_⟩
    clear hT; intro f d0 hf gf hT
    obtain ⟨f, rfl⟩ : ∃ k : Nat, f = k := ⟨f.toNat, by omega⟩
    exact ⟨d0, f, rfl, hT, by omega⟩
  · rintro ρ ⟨d0, f, rfl, hT, hf⟩
    refine ⟨fun ρ => ∃ d0, ∃ e : Nat, ρ = [some d0, some (caseD es rs new), some (.str s), some (.bl b), some (.str new), some (.str p), v6, some (.int pc), some (.int (f : Int)), some (.int (e : Int))] ∧ Tub n d0 ∧ f < e ∧ e ≤ new.length, ?_, ?_⟩
    · refine ⟨d0, _, 3, rfl, hT, by decide, by decide, ?_⟩
      clear hT; intro u d0 hu gu hT
      obtain ⟨u, rfl⟩ : ∃ k : Nat, u = k := ⟨u.toNat, by omega⟩
      have hmin : (fun (i j : Int) => if j < i then j else i) (new.length : Int) ((f : Int) + 1 + (u : Int)) = ((min new.length (f + 1 + u) : Nat) : Int) := by
        show (if (f : Int) + 1 + (u : Int) < (new.length : Int) then (f : Int) + 1 + (u : Int) else (new.length : Int)) = _
        split <;> omega
      refine ⟨d0, min new.length (f + 1 + u), ?_, hT, by omega, by omega⟩
      rw [← hmin]
      rfl
    · rintro ρ ⟨d0, e, rfl, hT, hfe, hen⟩
      exact wl_ed10 hq C hb hp hfe hen hpc hT
theorem wl_ed5 {n : Nat} {p : Tx} (hq : EQ_ es rs new s b n q) (C : CaseOk es rs new) (hb : b = true → new.length ≤ 100) (hp : p.length ≤ 10) {d0 : D} (hT : Tub (n + 2) d0) :
    m__law_edits_right_5 (EE es rs new s b d00 q x) [some d0, some (caseD es rs new), some (.str s), some (.bl b), some (.str new), some (.str p), some (dueA es rs new p), none, none, none] := by
  refine ⟨fun ρ => ∃ pc : Int, ρ = [some d0, some (caseD es rs new), some (.str s), some (.bl b), some (.str new), some (.str p), some (dueA es rs new p), some (.int pc), none, none] ∧ (b = true → pc = pcs es rs new), ?_, ?_⟩
  · cases b with
    | false => exact ⟨fun h => ab_ft h, fun _ => ⟨0, rfl, fun h => ab_ft h⟩⟩
    | true =>
      have hb := hb rfl
      have e0 : dueA es rs new p = tellD (caseD es rs (new ++ p)) := by
        unfold dueA
        rw [decide_eq_false (by rw [List.length_append]; omega)]
      have C2 : CaseOk es rs (new ++ p) := case_new C (by rw [List.length_append]; omega)
      rw [e0]
      refine ⟨fun _ => ⟨es, rs, new, rfl, C, ?_⟩, fun h => ab_tf h⟩
      refine ⟨es, rs, new, p, rfl, C, by omega, by rw [List.length_append]; omega, ?_⟩
      refine ⟨caseD es rs (new ++ p), rfl, es, rs, new ++ p, rfl, C2, ?_⟩
      refine ⟨.int ((pcs es rs (new ++ p) : Int) - (pcs es rs new : Int)), .int ((pcs es rs (new ++ p) : Int) - (pcs es rs new : Int)), rfl, ⟨1, trivial⟩, trivial, fun h => nsame (d := .int ((pcs es rs (new ++ p) : Int) - (pcs es rs new : Int))) trivial h, fun _ => ⟨_, rfl, fun _ => rfl⟩⟩
  · rintro ρ ⟨pc, rfl, hpc⟩
    exact wl_ed7 hq C hb hp hpc hT
theorem wl_ed2 {n : Nat} {p : Tx} (hq : EQ_ es rs new s b n q) (C : CaseOk es rs new) (hb : b = true → new.length ≤ 100) (hp : p.length ≤ 10) {d0 : D} (hT : Tub (n + 2) d0) :
    m__law_edits_right_2 (EE es rs new s b d00 q x) [some d0, some (caseD es rs new), some (.str s), some (.bl b), some (.str new), some (.str p), none, none, none, none] := by
  have hn := C.hn
  refine ⟨fun ρ => ρ = [some d0, some (caseD es rs new), some (.str s), some (.bl b), some (.str new), some (.str p), some (tellD (caseD es rs (new ++ p))), none, none, none], ⟨.tup (es.map D.str), rfl, .tup (rs.map rD), rfl, by omega, rfl⟩, ?_⟩
  rintro ρ rfl
  have ed : decide ((300 : Int) < (new.length : Int) + (p.length : Int)) = decide (300 < (new ++ p).length) := by
    rw [List.length_append]
    apply decide_eq_decide.mpr
    omega
  refine ⟨fun ρ => ρ = [some d0, some (caseD es rs new), some (.str s), some (.bl b), some (.str new), some (.str p), some (dueA es rs new p), none, none, none], ?_, ?_⟩
  · refine ⟨fun h => ?_, fun h => ?_⟩
    · have h : decide ((300 : Int) < (new.length : Int) + (p.length : Int)) = true := h
      rw [ed] at h
      unfold dueA
      rw [h]
      rfl
    · have h : decide ((300 : Int) < (new.length : Int) + (p.length : Int)) = false := h
      rw [ed] at h
      unfold dueA
      rw [h]
      rfl
  rintro ρ rfl
  have c1 := cn_dueA C p
  have hz := cn_fz ⟨6, c1⟩
  refine ⟨fun ρ => ρ = [some d0, some (caseD es rs new), some (.str s), some (.bl b), some (.str new), some (.str p), some (dueA es rs new p), none, none, none], ?_, ?_⟩
  · refine ⟨es, rs, new, WAPP, [.str p], dueA es rs new p, rfl, C, Tells.app p (by omega), ?_⟩
    conv => whnf
    rw [hz]
    conv => whnf
    rw [hz]
    exact ⟨_, _, rfl, ⟨6, c1⟩, c1, fun h => nsame c1 h, fun _ => rfl⟩
  rintro ρ rfl
  exact wl_ed5 hq C hb hp hT
theorem wp__law_edits_right : WpOk [true, false, false, false] 6 sp__law_edits_right m__law_edits_right := by
  rintro ds q x - ⟨es, rs, new, d0, n, s, b, rfl, C, hs, hb, hT, hq⟩
  refine ⟨.str new, rfl, ?_⟩
  refine ⟨fun ρ => ∃ d0, ∃ p : Tx, ρ = [some d0, some (caseD es rs new), some (.str s), some (.bl b), some (.str new), some (.str p), none, none, none, none] ∧ Tub (n + 2) d0 ∧ p.length ≤ 10, ?_, ?_⟩
  · refine ⟨d0, n + 2, 4, s, rfl, hT.mono (by omega), by decide, by decide, hs, ?_⟩
    clear hT; intro p d0 hp hT
    exact ⟨d0, p, rfl, hT, hp⟩
  · rintro ρ ⟨d0, p, rfl, hT, hp⟩
    exact wl_ed2 hq C hb hp hT
end
end Lw
end

-- text K36j
section
set_option Elab.async false
set_option linter.all false
set_option maxRecDepth 100000
set_option maxHeartbeats 1000000
namespace Lw
open PySem PySem.Spec PyProof.Rows L2 Mi
abbrev LE (ns : List Int) (q : D → List D → Prop) (x : Er → List D → Prop) : Es := endsOf [false] [.rol (ns.map D.int)] q x
theorem rep_one {α : Type} (k : Nat) (a : α) : (List.replicate k [a]).flatten = List.replicate k a := by
  induction k with
  | zero => rfl
  | succ k ih => rw [List.replicate_succ, List.replicate_succ, List.flatten_cons, ih]; rfl
section
variable {ns : List Int} {q : D → List D → Prop} {x : Er → List D → Prop}
theorem wl_17 (hq : q (.bl true) [.rol (ns.map D.int)]) {d0 : D} {s : Tx} {v3 v4 v5 v6 v7 v8 v9 v10 v11 : Option D} (hT : Tub 1000 d0) (hs : SigOk s) :
    m_law_17 (LE ns q x) [some (.rol (ns.map D.int)), some d0, some (.str s), v3, v4, v5, v6, v7, v8, v9, v10, v11, none, none] := by
  refine ⟨⟨by simp, by decide, by decide, by decide⟩, ?_⟩
  refine ⟨d0, _, 2, rfl, hT, by decide, by decide, ?_⟩
  clear hT; intro u d0 hu gu hT
  obtain ⟨u, rfl⟩ : ∃ k : Nat, u = k := ⟨u.toNat, by omega⟩
  refine ⟨⟨by simp, by omega, by omega, by decide⟩, ?_⟩
  have e1 : D.tup [.tup (List.replicate (6 : Int).toNat [D.str [97]]).flatten, .tup (List.replicate (7 + (u : Int)).toNat [D.tup [.str BACK, .int 1, .bl false, .bl false, .int 2]]).flatten, .str [97, 97]] = caseD (List.replicate 6 [97]) (List.replicate (7 + u) (.back 1 false false 2)) [97, 97] := by
    rw [rep_one, rep_one, show (7 + (u : Int)).toNat = 7 + u by omega]
    unfold caseD
    rw [List.map_replicate, List.map_replicate]
    rfl
  have C : CaseOk (List.replicate 6 [97]) (List.replicate (7 + u) (.back 1 false false 2)) [97, 97] := by
    refine ⟨by simp, by simp; omega, by simp, fun e he => ?_, fun r hr => ?_⟩
    · rw [(List.mem_replicate.mp he).2]
      simp
    · rw [(List.mem_replicate.mp hr).2]
      exact ⟨by decide, by decide⟩
  have go : ∀ cd : D, cd = caseD (List.replicate 6 [97]) (List.replicate (7 + u) (.back 1 false false 2)) [97, 97] → cd.fz = true → (mRet (mAndV (mCall sp__law_more_right [true, false, false] (mcRef 1 (mcVal (mVarF 12) (mcVal (mVarF 2) mcNil)))) (mAndV (mCall sp__law_numbers_right [true, false] (mcRef 1 (mcVal (mVarF 12) mcNil))) (mCall sp__law_forms_right [true, false] (mcRef 1 (mcVal (mVarF 12) mcNil)))))) (LE ns q x) [some (.rol (ns.map D.int)), some d0, some (.str s), v3, v4, v5, v6, v7, v8, v9, v10, v11, some cd, none] := by
    rintro cd rfl _
    refine ⟨_, _, _, d0, 700, s, rfl, C, hs, by simp, hT.mono (by decide), ?_⟩
    clear hT; intro d0 hT
    refine ⟨fun _ => ?_, fun h => ab_tf h⟩
    refine ⟨_, _, _, d0, 500, rfl, C, hT.mono (by decide), ?_⟩
    clear hT; intro d0 hT
    refine ⟨fun _ => ?_, fun h => ab_tf h⟩
    refine ⟨_, _, _, d0, 100, rfl, C, hT.mono (by decide), ?_⟩
    clear hT; intro d0 hT
    exact hq
  exact go _ e1 rfl
theorem wl_13 (hq : q (.bl true) [.rol (ns.map D.int)]) {d0 : D} {s : Tx} {v3 v4 v5 v6 v7 v8 v9 : Option D} (hT : Tub 1001 d0) (hs : SigOk s) :
    m_law_13 (LE ns q x) [some (.rol (ns.map D.int)), some d0, some (.str s), v3, v4, v5, v6, v7, v8, v9, none, none, none, none] := by
  obtain ⟨cc, hcc, hcl, hcd⟩ : ∃ cc : Tx, cc = (List.replicate (300 : Int).toNat [99]).flatten ∧ cc.length = 300 ∧ cc.drop 299 = [99] := by
    refine ⟨_, rfl, ?_, ?_⟩
    · rw [rep_one]; simp
    · rw [rep_one, List.drop_replicate]
      rfl
  refine ⟨fun ρ => ∃ d0, ∃ dd : Tx, ρ = [some (.rol (ns.map D.int)), some d0, some (.str s), v3, v4, v5, v6, v7, v8, v9, some (.tup [.str cc, stD (0, 299), .str dd]), none, none, none] ∧ Tub 1000 d0 ∧ 299 ≤ dd.length ∧ dd.length ≤ 300, ?_, ?_⟩
  · refine ⟨⟨by decide, by decide, by decide⟩, ?_⟩
    refine ⟨d0, _, 2, rfl, hT, by decide, by decide, ?_⟩
    clear hT; intro u d0 hu gu hT
    obtain ⟨u, rfl⟩ : ∃ k : Nat, u = k := ⟨u.toNat, by omega⟩
    have hu : (299 + (u : Int)).toNat = 299 + u := by omega
    refine ⟨⟨by omega, by omega, by rw [hu]; show 1 * (299 + u) ≤ _; omega⟩, d0, (List.replicate (299 + u) [100]).flatten, ?_, hT, by rw [rep_one]; simp, by rw [rep_one]; simp; omega⟩
    rw [hcc, ← hu]
    rfl
  · rintro ρ ⟨d0, dd, rfl, hT, h1, h2⟩
    refine ⟨fun ρ => ρ = [some (.rol (ns.map D.int)), some d0, some (.str s), v3, v4, v5, v6, v7, v8, v9, some (.tup [.str cc, stD (0, 299), .str dd]), some (tellD (caseD [] [] (dd ++ [99]))), none, none], ⟨.str dd, rfl, by show dd.length + 1 ≤ _; omega, rfl⟩, ?_⟩
    rintro ρ rfl
    have pe : putIn cc 0 299 dd = dd ++ [99] := by
      unfold putIn
      rw [hcd]
      rfl
    have ed : decide ((299 : Int) < (dd.length : Int)) = decide (300 < (putIn cc 0 299 dd).length) := by
      rw [pe, List.length_append]
      apply decide_eq_decide.mpr
      simp
      omega
    refine ⟨fun ρ => ρ = [some (.rol (ns.map D.int)), some d0, some (.str s), v3, v4, v5, v6, v7, v8, v9, some (.tup [.str cc, stD (0, 299), .str dd]), some (dueX [] [] cc 0 299 dd), none, none], ?_, ?_⟩
    · refine ⟨.str dd, rfl, fun h => ?_, fun h => ?_⟩
      · have h : decide ((299 : Int) < (dd.length : Int)) = true := h
        rw [ed] at h
        unfold dueX
        rw [h]
        rfl
      · have h : decide ((299 : Int) < (dd.length : Int)) = false := h
        rw [ed] at h
        unfold dueX
        rw [h, pe]
        rfl
    rintro ρ rfl
    have C : CaseOk [] [] cc := ⟨by simp, by simp, by omega, fun e he => (nomatch he), fun r hr => (nomatch hr)⟩
    have c1 := cn_dueX C 0 299 dd
    have hz := cn_fz ⟨6, c1⟩
    refine ⟨fun ρ => ρ = [some (.rol (ns.map D.int)), some d0, some (.str s), v3, v4, v5, v6, v7, v8, v9, some (.tup [.str cc, stD (0, 299), .str dd]), some (dueX [] [] cc 0 299 dd), none, none], ?_, ?_⟩
    · refine ⟨.str cc, rfl, stD (0, 299), rfl, .str dd, rfl, [], [], cc, WEDIT, [stD (0, 299), .str dd], dueX [] [] cc 0 299 dd, rfl, C, Tells.edit 0 299 dd (by omega) (by decide) (by omega), ?_⟩
      conv => whnf
      rw [hz]
      conv => whnf
      rw [hz]
      exact ⟨_, _, rfl, ⟨6, c1⟩, c1, fun h => nsame c1 h, fun _ => rfl⟩
    rintro ρ rfl
    exact wl_17 hq hT hs
theorem wl_11 (hq : q (.bl true) [.rol (ns.map D.int)]) {d0 : D} {s : Tx} {es : List Tx} {v3 v4 v6 v7 v8 : Option D} (hT : Tub 2000 d0) (hs : SigOk s) (he : es.length ≤ 6) (hel : ∀ e ∈ es, e.length ≤ 10) :
    m_law_11 (LE ns q x) [some (.rol (ns.map D.int)), some d0, some (.str s), v3, v4, some (.tup (es.map D.str)), v6, v7, v8, none, none, none, none, none] := by
  refine ⟨fun ρ => ∃ d0, ∃ z : Nat, ρ = [some (.rol (ns.map D.int)), some d0, some (.str s), v3, v4, some (.tup (es.map D.str)), v6, v7, v8, some (.int (z : Int)), none, none, none, none] ∧ Tub 1999 d0 ∧ z ≤ 300, ?_, ?_⟩
  · refine ⟨d0, _, 5, rfl, hT, by decide, by decide, ?_⟩
    clear hT; intro u d0 hu gu hT
    obtain ⟨u, rfl⟩ : ∃ k : Nat, u = k := ⟨u.toNat, by omega⟩
    exact ⟨d0, 296 + u, rfl, hT, by omega⟩
  · rintro ρ ⟨d0, z, rfl, hT, hz⟩
    refine ⟨fun ρ => ∃ d0, ρ = [some (.rol (ns.map D.int)), some d0, some (.str s), v3, v4, some (.tup (es.map D.str)), v6, v7, v8, some (.int (z : Int)), none, none, none, none] ∧ Tub 1001 d0, ?_, ?_⟩
    · have hn : (cutD (List.replicate (150 : Int).toNat [97, 98]).flatten none (some (z : Int))).length ≤ 300 := by
        rw [cutD_hin, List.length_take]
        omega
      have C : CaseOk es [] (cutD (List.replicate (150 : Int).toNat [97, 98]).flatten none (some (z : Int))) := ⟨by omega, by simp, by omega, fun e h => by have := hel e h; omega, fun r hr => (nomatch hr)⟩
      refine ⟨⟨by decide, by decide, by decide⟩, es, [], _, d0, 1001, s, false, rfl, C, hs, fun h => ab_ft h, hT.mono (by decide), ?_⟩
      clear hT; intro d0 hT
      exact ⟨fun h => ab_ft h, fun _ => ⟨d0, rfl, hT⟩⟩
    · rintro ρ ⟨d0, rfl, hT⟩
      exact wl_13 hq hT hs
theorem wl_8 (hq : q (.bl true) [.rol (ns.map D.int)]) {d0 : D} {s : Tx} {es : List Tx} {rs : List Rule} {new : Tx} {v3 v4 : Option D} (hT : Tub 3000 d0) (hs : SigOk s) (he : es.length ≤ 6) (hel : ∀ e ∈ es, e.length ≤ 10) (hn : new.length ≤ 10) (hr : rs.length ≤ 10) (hru : ∀ r ∈ rs, RuleOk es.length r) :
    m_law_8 (LE ns q x) [some (.rol (ns.map D.int)), some d0, some (.str s), v3, v4, some (.tup (es.map D.str)), some (.str new), some (caseD es rs new), none, none, none, none, none, none] := by
  have C : CaseOk es rs new := ⟨by omega, by omega, by omega, fun e h => by have := hel e h; omega, hru⟩
  refine ⟨fun ρ => ∃ d0, ρ = [some (.rol (ns.map D.int)), some d0, some (.str s), v3, v4, some (.tup (es.map D.str)), some (.str new), some (caseD es rs new), none, none, none, none, none, none] ∧ Tub 2500 d0, ?_, ?_⟩
  · refine ⟨es, rs, new, d0, 2900, rfl, C, hT.mono (by decide), ?_⟩
    clear hT; intro d0 hT
    refine ⟨fun h => ab_ft h, fun _ => ?_⟩
    refine ⟨es, rs, new, d0, 2700, s, rfl, C, hs, by omega, hT, ?_⟩
    clear hT; intro d0 hT
    refine ⟨fun h => ab_ft h, fun _ => ?_⟩
    refine ⟨es, rs, new, d0, 2500, rfl, C, hT.mono (by decide), ?_⟩
    clear hT; intro d0 hT
    exact ⟨fun h => ab_ft h, fun _ => ⟨d0, rfl, hT⟩⟩
  · rintro ρ ⟨d0, rfl, hT⟩
    have e3 : cutD (rs.map rD) none (some ((3 : Nat) : Int)) = (rs.take 3).map rD := by rw [cutD_hin, List.map_take]
    refine ⟨fun ρ => ρ = [some (.rol (ns.map D.int)), some d0, some (.str s), v3, v4, some (.tup (es.map D.str)), some (.str new), some (caseD es rs new), some (caseD es (rs.take 3) new), none, none, none, none, none], ?_, ?_⟩
    · refine ⟨.tup (rs.map rD), rfl, ?_⟩
      show [some (.rol (ns.map D.int)), some d0, some (.str s), v3, v4, some (.tup (es.map D.str)), some (.str new), some (caseD es rs new), some (D.tup [.tup (es.map D.str), .tup (cutD (rs.map rD) none (some ((3 : Nat) : Int))), .str new]), none, none, none, none, none] = _
      rw [e3]
      rfl
    rintro ρ rfl
    have C2 : CaseOk es (rs.take 3) new := ⟨by omega, by rw [List.length_take]; omega, by omega, fun e h => by have := hel e h; omega, fun r h => hru r (List.mem_of_mem_take h)⟩
    refine ⟨fun ρ => ∃ d0, ρ = [some (.rol (ns.map D.int)), some d0, some (.str s), v3, v4, some (.tup (es.map D.str)), some (.str new), some (caseD es rs new), some (caseD es (rs.take 3) new), none, none, none, none, none] ∧ Tub 2000 d0, ?_, ?_⟩
    · refine ⟨es, rs.take 3, new, d0, 2100, s, true, rfl, C2, hs, fun _ => by omega, hT.mono (by decide), ?_⟩
      clear hT; intro d0 hT
      refine ⟨fun h => ab_ft h, fun _ => ?_⟩
      refine ⟨es, rs.take 3, new, d0, 2000, rfl, C2, hT.mono (by decide), ?_⟩
      clear hT; intro d0 hT
      exact ⟨fun h => ab_ft h, fun _ => ⟨d0, rfl, hT⟩⟩
    · rintro ρ ⟨d0, rfl, hT⟩
      exact wl_11 hq hT hs he hel
theorem wl_6 (hq : q (.bl true) [.rol (ns.map D.int)]) {d0 : D} {s : Tx} {es : List Tx} {new : Tx} {m : Nat} {v3 : Option D} (hT : Tub 4000 d0) (hs : SigOk s) (hm : es.length = m) (he : es.length ≤ 6) (hel : ∀ e ∈ es, e.length ≤ 10) (hn : new.length ≤ 10) :
    m_law_6 (LE ns q x) [some (.rol (ns.map D.int)), some d0, some (.str s), v3, some (.int (m : Int)), some (.tup (es.map D.str)), some (.str new), none, none, none, none, none, none, none] := by
  refine ⟨fun ρ => ∃ d0, ∃ new : Tx, ρ = [some (.rol (ns.map D.int)), some d0, some (.str s), v3, some (.int (m : Int)), some (.tup (es.map D.str)), some (.str new), none, none, none, none, none, none, none] ∧ Tub 3999 d0 ∧ new.length ≤ 10, ?_, ?_⟩
  · refine ⟨fun h => ?_, fun h => ⟨fun h => ab_ft h, fun _ => ⟨d0, new, rfl, hT.mono (by decide), hn⟩⟩⟩
    have h := of_decide_eq_true (show decide (0 < (m : Int)) = true from h)
    have hpos : 0 < es.length := by omega
    refine ⟨d0, _, 2, rfl, hT, by decide, by decide, ?_⟩
    clear hT; intro u d0 hu gu hT
    refine ⟨fun _ => ?_, fun _ => ⟨d0, new, rfl, hT, hn⟩⟩
    have i0 : atI (es.map D.str) 0 = some (.str es[0]) := map_ix (k := 0) (List.getElem?_eq_getElem hpos)
    obtain ⟨l, hl⟩ : ∃ l, es.getLast? = some l := by
      cases z : es.getLast? with
      | none =>
        rw [List.getLast?_eq_none_iff] at z
        rw [z] at hpos
        simp at hpos
      | some l => exact ⟨l, rfl⟩
    have i1 : atI (es.map D.str) (-1) = some (.str l) := atI_last' (by rw [List.getLast?_map, hl]; rfl)
    have l0 := hel es[0] (List.getElem_mem hpos)
    have l1 := hel l (List.mem_of_getLast? hl)
    refine ⟨.str es[0], i0, .str l, i1, by omega, by rw [List.length_append]; omega, d0, cutD (es[0] ++ l ++ new) none (some ((9 : Nat) : Int)), rfl, hT, ?_⟩
    rw [cutD_hin, List.length_take]
    omega
  · rintro ρ ⟨d0, new, rfl, hT, hn⟩
    refine ⟨fun ρ => ∃ d0 rs, ρ = [some (.rol (ns.map D.int)), some d0, some (.str s), v3, some (.int (m : Int)), some (.tup (es.map D.str)), some (.str new), some (caseD es rs new), none, none, none, none, none, none] ∧ Tub 3000 d0 ∧ rs.length ≤ 10 ∧ ∀ r ∈ rs, RuleOk es.length r, ?_, ?_⟩
    · refine ⟨d0, _, 5, rfl, hT, by decide, by decide, ?_⟩
      clear hT; intro u d0 hu gu hT
      obtain ⟨d, ⟨k, rfl, hk⟩, hd⟩ := atI_al (xs := [D.int 3, .int 4, .int 8, .int 0, .int 7]) (BigI 10) hu gu ⟨bigI 3 (by decide), bigI 4 (by decide), bigI 8 (by decide), bigI 0 (by decide), bigI 7 (by decide), trivial⟩
      refine ⟨.int (k : Int), hd, d0, 3000, k, m, rfl, hT.mono (by decide), hk, by omega, ?_⟩
      clear hT; intro rs d0 hl hru hT
      exact ⟨d0, rs, rfl, hT, by omega, by rw [hm]; exact hru⟩
    · rintro ρ ⟨d0, rs, rfl, hT, hr, hru⟩
      exact wl_8 hq hT hs he hel hn hr hru
theorem wl_3 (hq : q (.bl true) [.rol (ns.map D.int)]) {d0 : D} {s : Tx} {f : Int} (hT : Tub 5000 d0) (hs : SigOk s) (hf0 : 0 ≤ f) (hf1 : f < 5) :
    m_law_3 (LE ns q x) [some (.rol (ns.map D.int)), some d0, some (.str s), some (.int f), none, none, none, none, none, none, none, none, none, none] := by
  obtain ⟨d, ⟨m, rfl, hm⟩, hd⟩ := atI_al (xs := [D.int 0, .int 1, .int 2, .int 3, .int 6]) (BigI 6) hf0 hf1 ⟨bigI 0 (by decide), bigI 1 (by decide), bigI 2 (by decide), bigI 3 (by decide), bigI 6 (by decide), trivial⟩
  refine ⟨.int (m : Int), hd, ?_⟩
  refine ⟨fun ρ => ∃ d0, ∃ es : List Tx, ρ = [some (.rol (ns.map D.int)), some d0, some (.str s), some (.int f), some (.int (m : Int)), some (.tup (es.map D.str)), none, none, none, none, none, none, none, none] ∧ Tub 4100 d0 ∧ es.length = m ∧ ∀ e ∈ es, e.length ≤ 10, ?_, ?_⟩
  · refine ⟨bd_of (by omega) (by omega), ?_⟩
    refine ⟨fun t acc ρ => ∃ d0, ∃ es : List Tx, ρ = [some (.rol (ns.map D.int)), some d0, some (.str s), some (.int f), some (.int (m : Int)), none, none, none, none, none, none, none, none, none] ∧ Tub (4100 + 50 * (6 - t)) d0 ∧ acc = es.map D.str ∧ es.length = t ∧ ∀ e ∈ es, e.length ≤ 10, ⟨d0, [], rfl, hT.mono (by decide), rfl, rfl, fun _ h => nomatch h⟩, ?_, by rw [rng_len]; omega, ?_⟩
    · rintro t d acc ρ hd ⟨d0, es, rfl, hT, rfl, rfl, hel⟩
      obtain ⟨hk, _⟩ := rng0_get hd
      have hk : es.length < (m : Int).toNat := hk
      refine ⟨fun _ => ?_, fun h => ab_tf h⟩
      refine ⟨d0, 4100 + 50 * (6 - (es.length + 1)), 6, s, rfl, hT.mono (by omega), by decide, by decide, hs, ?_⟩
      clear hT; intro t d0 ht hT
      refine ⟨d0, es ++ [t], rfl, hT, by rw [List.map_append]; rfl, by simp, ?_⟩
      intro z hz
      rcases List.mem_append.mp hz with hz | hz
      · exact hel z hz
      · rw [List.mem_singleton] at hz; subst hz; exact ht
    · rintro acc ρ ⟨d0, es, rfl, hT, rfl, hl, hel⟩
      rw [rng_len] at hl
      have hl : es.length = (m : Int).toNat := hl
      exact ⟨d0, es, rfl, hT.mono (by omega), by omega, hel⟩
  · rintro ρ ⟨d0, es, rfl, hT, hl, hel⟩
    refine ⟨fun ρ => ∃ d0, ∃ new : Tx, ρ = [some (.rol (ns.map D.int)), some d0, some (.str s), some (.int f), some (.int (m : Int)), some (.tup (es.map D.str)), some (.str new), none, none, none, none, none, none, none] ∧ Tub 4000 d0 ∧ new.length ≤ 10, ?_, ?_⟩
    · refine ⟨d0, 4000, 9, s, rfl, hT.mono (by decide), by decide, by decide, hs, ?_⟩
      clear hT; intro t d0 ht hT
      exact ⟨d0, t, rfl, hT, ht⟩
    · rintro ρ ⟨d0, new, rfl, hT, hn⟩
      exact wl_6 hq hT hs hl (by omega) hel hn
theorem wp_law : WpOk [false] 13 sp_law m_law := by
  rintro ds q x - ⟨ns, rfl, _, hq⟩
  refine ⟨ns, rfl, ?_⟩
  intro d0 hT
  refine ⟨d0, 6000, rfl, hT.mono (by decide), ?_⟩
  clear hT; intro s d0 hs hT
  refine ⟨fun ρ => ∃ d0 f, ρ = [some (.rol (ns.map D.int)), some d0, some (.str s), some (.int f), none, none, none, none, none, none, none, none, none, none] ∧ Tub 5000 d0 ∧ 0 ≤ f ∧ f < 5, ?_, ?_⟩
  · have hT' : Tub (5000 + 1) d0 := hT.mono (by decide)
    refine ⟨d0, 5000, 5, rfl, hT', by decide, by decide, ?_⟩
    intro f d0 hf gf hT
    exact ⟨d0, f, rfl, hT, hf, gf⟩
  · rintro ρ ⟨d0, f, rfl, hT, hf, gf⟩
    exact wl_3 hq hT hs hf gf
end
end Lw
end

-- text Der_k36
section
set_option Elab.async false
set_option linter.all false
set_option maxRecDepth 100000
set_option maxHeartbeats 4000000
namespace Lw
open PySem PySem.Spec PyProof.Rows L2 Mi
def topS (i : Nat) : Stmt := PySem.Challenge.pw_saidbefore_k36_caseedits.main.body.getD i (.Pass ⟨0, 0, 0, 0⟩)
abbrev s_is_number : Stmt := topS 9
theorem sc_is_number : FnScope ["thing"] ["thing"] (defScope s_is_number) := ⟨rfl, rfl, rfl, by decide +kernel, rfl, by decide +kernel, by decide +kernel⟩
abbrev s_check_stretch : Stmt := topS 10
theorem sc_check_stretch : FnScope ["text", "thing"] ["text", "thing"] (defScope s_check_stretch) := ⟨rfl, rfl, rfl, by decide +kernel, rfl, by decide +kernel, by decide +kernel⟩
abbrev s_spliced : Stmt := topS 11
theorem sc_spliced : FnScope ["text", "stretch", "part", "made"] ["text", "stretch", "part"] (defScope s_spliced) := ⟨rfl, rfl, rfl, by decide +kernel, rfl, by decide +kernel, by decide +kernel⟩
abbrev s_is_turning : Stmt := topS 14
theorem sc_is_turning : FnScope ["rule"] ["rule"] (defScope s_is_turning) := ⟨rfl, rfl, rfl, by decide +kernel, rfl, by decide +kernel, by decide +kernel⟩
abbrev s__heard_by : Stmt := topS 16
theorem sc__heard_by : FnScope ["case", "number", "first", "many", "elders", "rules", "new", "rule", "part", "low", "high", "at"] ["case", "number", "first", "many"] (defScope s__heard_by) := ⟨rfl, rfl, rfl, by decide +kernel, rfl, by decide +kernel, by decide +kernel⟩
abbrev s_is_heard : Stmt := topS 17
theorem sc_is_heard : FnScope ["case", "stretch", "many", "number"] ["case", "stretch"] (defScope s_is_heard) := ⟨rfl, rfl, rfl, by decide +kernel, rfl, by decide +kernel, by decide +kernel⟩
abbrev s_reach_table : Stmt := topS 18
theorem sc_reach_table : FnScope ["case", "new", "told", "end", "first"] ["case"] (defScope s_reach_table) := ⟨rfl, rfl, rfl, by decide +kernel, rfl, by decide +kernel, by decide +kernel⟩
abbrev s_greedy_cuts : Stmt := topS 20
theorem sc_greedy_cuts : FnScope ["case", "reach", "told", "at"] ["case"] (defScope s_greedy_cuts) := ⟨rfl, rfl, rfl, by decide +kernel, rfl, by decide +kernel, by decide +kernel⟩
abbrev s_fewest_count : Stmt := topS 21
theorem sc_fewest_count : FnScope ["case"] ["case"] (defScope s_fewest_count) := ⟨rfl, rfl, rfl, by decide +kernel, rfl, by decide +kernel, by decide +kernel⟩
abbrev s_piece_count : Stmt := topS 22
theorem sc_piece_count : FnScope ["case"] ["case"] (defScope s_piece_count) := ⟨rfl, rfl, rfl, by decide +kernel, rfl, by decide +kernel, by decide +kernel⟩
abbrev s_with_new : Stmt := topS 24
theorem sc_with_new : FnScope ["case", "new"] ["case", "new"] (defScope s_with_new) := ⟨rfl, rfl, rfl, by decide +kernel, rfl, by decide +kernel, by decide +kernel⟩
abbrev s_with_rule : Stmt := topS 25
theorem sc_with_rule : FnScope ["case", "rule"] ["case", "rule"] (defScope s_with_rule) := ⟨rfl, rfl, rfl, by decide +kernel, rfl, by decide +kernel, by decide +kernel⟩
abbrev s_with_elder : Stmt := topS 26
theorem sc_with_elder : FnScope ["case", "text", "turned", "most", "rule"] ["case", "text", "turned", "most"] (defScope s_with_elder) := ⟨rfl, rfl, rfl, by decide +kernel, rfl, by decide +kernel, by decide +kernel⟩
abbrev s_without_elder : Stmt := topS 27
theorem sc_without_elder : FnScope ["case", "number", "elders", "rules", "new", "kept", "rule"] ["case", "number"] (defScope s_without_elder) := ⟨rfl, rfl, rfl, by decide +kernel, rfl, by decide +kernel, by decide +kernel⟩
abbrev s_turned_case : Stmt := topS 28
theorem sc_turned_case : FnScope ["case", "elders", "rules", "new", "kept", "rule", "text"] ["case"] (defScope s_turned_case) := ⟨rfl, rfl, rfl, by decide +kernel, rfl, by decide +kernel, by decide +kernel⟩
abbrev s_elder_case : Stmt := topS 29
theorem sc_elder_case : FnScope ["case", "rule"] ["case"] (defScope s_elder_case) := ⟨rfl, rfl, rfl, by decide +kernel, rfl, by decide +kernel, by decide +kernel⟩
abbrev s_part_case : Stmt := topS 30
theorem sc_part_case : FnScope ["case", "stretch", "elders", "rules", "new"] ["case", "stretch"] (defScope s_part_case) := ⟨rfl, rfl, rfl, by decide +kernel, rfl, by decide +kernel, by decide +kernel⟩
abbrev s_appended_case : Stmt := topS 31
theorem sc_appended_case : FnScope ["case", "text"] ["case", "text"] (defScope s_appended_case) := ⟨rfl, rfl, rfl, by decide +kernel, rfl, by decide +kernel, by decide +kernel⟩
abbrev s_edited_case : Stmt := topS 32
theorem sc_edited_case : FnScope ["case", "stretch", "part"] ["case", "stretch", "part"] (defScope s_edited_case) := ⟨rfl, rfl, rfl, by decide +kernel, rfl, by decide +kernel, by decide +kernel⟩
abbrev s_edit_effect : Stmt := topS 33
theorem sc_edit_effect : FnScope ["case", "stretch", "part"] ["case", "stretch", "part"] (defScope s_edit_effect) := ⟨rfl, rfl, rfl, by decide +kernel, rfl, by decide +kernel, by decide +kernel⟩
abbrev s_append_effect : Stmt := topS 34
theorem sc_append_effect : FnScope ["case", "text"] ["case", "text"] (defScope s_append_effect) := ⟨rfl, rfl, rfl, by decide +kernel, rfl, by decide +kernel, by decide +kernel⟩
abbrev s_back_case : Stmt := topS 35
theorem sc_back_case : FnScope ["case", "number", "rules"] ["case", "number"] (defScope s_back_case) := ⟨rfl, rfl, rfl, by decide +kernel, rfl, by decide +kernel, by decide +kernel⟩
abbrev s__law_tub : Stmt := topS 37
theorem sc__law_tub : FnScope ["script", "figures", "cell", "size", "one", "other", "figure"] ["script"] (defScope s__law_tub) := ⟨rfl, rfl, rfl, by decide +kernel, rfl, by decide +kernel, by decide +kernel⟩
abbrev s__law_dip : Stmt := topS 38
theorem sc__law_dip : FnScope ["tub", "many", "turn", "figure", "mixed"] ["tub", "many"] (defScope s__law_dip) := ⟨rfl, rfl, rfl, by decide +kernel, rfl, by decide +kernel, by decide +kernel⟩
abbrev s__law_same : Stmt := topS 39
theorem sc__law_same : FnScope ["told", "due", "k"] ["told", "due"] (defScope s__law_same) := ⟨rfl, rfl, rfl, by decide +kernel, rfl, by decide +kernel, by decide +kernel⟩
abbrev s__law_signs : Stmt := topS 40
theorem sc__law_signs : FnScope ["tub", "habit", "every", "k"] ["tub"] (defScope s__law_signs) := ⟨rfl, rfl, rfl, by decide +kernel, rfl, by decide +kernel, by decide +kernel⟩
abbrev s__law_text : Stmt := topS 41
theorem sc__law_text : FnScope ["tub", "signs", "most", "size", "period", "text", "k"] ["tub", "signs", "most"] (defScope s__law_text) := ⟨rfl, rfl, rfl, by decide +kernel, rfl, by decide +kernel, by decide +kernel⟩
abbrev s__law_most : Stmt := topS 42
theorem sc__law_most : FnScope ["tub"] ["tub"] (defScope s__law_most) := ⟨rfl, rfl, rfl, by decide +kernel, rfl, by decide +kernel, by decide +kernel⟩
abbrev s__law_rules : Stmt := topS 43
theorem sc__law_rules : FnScope ["tub", "many", "elders", "rules", "k", "turned", "wide"] ["tub", "many", "elders"] (defScope s__law_rules) := ⟨rfl, rfl, rfl, by decide +kernel, rfl, by decide +kernel, by decide +kernel⟩
abbrev s__law_is_source : Stmt := topS 44
theorem sc__law_is_source : FnScope ["case", "first", "behind", "number", "at", "rule", "many", "text", "turned", "x", "place"] ["case", "first", "behind", "number", "at"] (defScope s__law_is_source) := ⟨rfl, rfl, rfl, by decide +kernel, rfl, by decide +kernel, by decide +kernel⟩
abbrev s__law_source : Stmt := topS 45
theorem sc__law_source : FnScope ["case", "first", "behind", "number", "rule", "text", "at"] ["case", "first", "behind"] (defScope s__law_source) := ⟨rfl, rfl, rfl, by decide +kernel, rfl, by decide +kernel, by decide +kernel⟩
abbrev s__law_reach : Stmt := topS 46
theorem sc__law_reach : FnScope ["case", "reach", "first", "behind"] ["case"] (defScope s__law_reach) := ⟨rfl, rfl, rfl, by decide +kernel, rfl, by decide +kernel, by decide +kernel⟩
abbrev s__law_pieces : Stmt := topS 47
theorem sc__law_pieces : FnScope ["case", "reach", "many", "at"] ["case"] (defScope s__law_pieces) := ⟨rfl, rfl, rfl, by decide +kernel, rfl, by decide +kernel, by decide +kernel⟩
abbrev s__law_told : Stmt := topS 48
theorem sc__law_told : FnScope ["way", "case", "things", "error"] ["way", "case", "things"] (defScope s__law_told) := ⟨rfl, rfl, rfl, by decide +kernel, rfl, by decide +kernel, by decide +kernel⟩
abbrev s__law_without : Stmt := topS 49
theorem sc__law_without : FnScope ["case", "number", "rules", "rule"] ["case", "number"] (defScope s__law_without) := ⟨rfl, rfl, rfl, by decide +kernel, rfl, by decide +kernel, by decide +kernel⟩
abbrev s__law_elder_rules : Stmt := topS 50
theorem sc__law_elder_rules : FnScope ["case", "rule"] ["case"] (defScope s__law_elder_rules) := ⟨rfl, rfl, rfl, by decide +kernel, rfl, by decide +kernel, by decide +kernel⟩
abbrev s__law_numbers_right : Stmt := topS 51
theorem sc__law_numbers_right : FnScope ["tub", "case", "many", "number", "rules", "odd", "way"] ["tub", "case"] (defScope s__law_numbers_right) := ⟨rfl, rfl, rfl, by decide +kernel, rfl, by decide +kernel, by decide +kernel⟩
abbrev s__law_more_right : Stmt := topS 52
theorem sc__law_more_right : FnScope ["tub", "case", "signs", "rule", "due", "text", "turned", "most"] ["tub", "case", "signs"] (defScope s__law_more_right) := ⟨rfl, rfl, rfl, by decide +kernel, rfl, by decide +kernel, by decide +kernel⟩
abbrev s__law_forms_right : Stmt := topS 53
theorem sc__law_forms_right : FnScope ["tub", "case", "rules", "size", "first", "end", "text"] ["tub", "case"] (defScope s__law_forms_right) := ⟨rfl, rfl, rfl, by decide +kernel, rfl, by decide +kernel, by decide +kernel⟩
abbrev s__law_edits_right : Stmt := topS 54
theorem sc__law_edits_right : FnScope ["tub", "case", "signs", "effects", "new", "part", "due", "pieces", "first", "end"] ["tub", "case", "signs", "effects"] (defScope s__law_edits_right) := ⟨rfl, rfl, rfl, by decide +kernel, rfl, by decide +kernel, by decide +kernel⟩
abbrev s_law : Stmt := topS 55
theorem sc_law : FnScope ["script", "tub", "signs", "full", "many", "elders", "new", "case", "few", "size", "whole", "due", "some", "k"] ["script"] (defScope s_law) := ⟨rfl, rfl, rfl, by decide +kernel, rfl, by decide +kernel, by decide +kernel⟩
abbrev si_NoSuch : Stmt := inClass (topS 4) 0
theorem sci_NoSuch : FnScope ["self", "word", "name"] ["self", "word", "name"] (defScope si_NoSuch) := ⟨rfl, rfl, rfl, by decide +kernel, rfl, by decide +kernel, by decide +kernel⟩
abbrev si_BadCall : Stmt := inClass (topS 5) 0
theorem sci_BadCall : FnScope ["self", "word"] ["self", "word"] (defScope si_BadCall) := ⟨rfl, rfl, rfl, by decide +kernel, rfl, by decide +kernel, by decide +kernel⟩
structure Top (K : Frg) (mg : Str → Option Value) : Prop where
  t_is_number : Mi.Tx K mg "is_number" s_is_number ["thing"]
  t_check_stretch : Mi.Tx K mg "check_stretch" s_check_stretch ["text", "thing"]
  t_spliced : Mi.Tx K mg "spliced" s_spliced ["text", "stretch", "part"]
  t_is_turning : Mi.Tx K mg "is_turning" s_is_turning ["rule"]
  t__heard_by : Mi.Tx K mg "_heard_by" s__heard_by ["case", "number", "first", "many"]
  t_is_heard : Mi.Tx K mg "is_heard" s_is_heard ["case", "stretch"]
  t_reach_table : Mi.Tx K mg "reach_table" s_reach_table ["case"]
  t_greedy_cuts : Mi.Tx K mg "greedy_cuts" s_greedy_cuts ["case"]
  t_fewest_count : Mi.Tx K mg "fewest_count" s_fewest_count ["case"]
  t_piece_count : Mi.Tx K mg "piece_count" s_piece_count ["case"]
  t_with_new : Mi.Tx K mg "with_new" s_with_new ["case", "new"]
  t_with_rule : Mi.Tx K mg "with_rule" s_with_rule ["case", "rule"]
  t_with_elder : Mi.Tx K mg "with_elder" s_with_elder ["case", "text", "turned", "most"]
  t_without_elder : Mi.Tx K mg "without_elder" s_without_elder ["case", "number"]
  t_turned_case : Mi.Tx K mg "turned_case" s_turned_case ["case"]
  t_elder_case : Mi.Tx K mg "elder_case" s_elder_case ["case"]
  t_part_case : Mi.Tx K mg "part_case" s_part_case ["case", "stretch"]
  t_appended_case : Mi.Tx K mg "appended_case" s_appended_case ["case", "text"]
  t_edited_case : Mi.Tx K mg "edited_case" s_edited_case ["case", "stretch", "part"]
  t_edit_effect : Mi.Tx K mg "edit_effect" s_edit_effect ["case", "stretch", "part"]
  t_append_effect : Mi.Tx K mg "append_effect" s_append_effect ["case", "text"]
  t_back_case : Mi.Tx K mg "back_case" s_back_case ["case", "number"]
  t__law_tub : Mi.Tx K mg "_law_tub" s__law_tub ["script"]
  t__law_dip : Mi.Tx K mg "_law_dip" s__law_dip ["tub", "many"]
  t__law_same : Mi.Tx K mg "_law_same" s__law_same ["told", "due"]
  t__law_signs : Mi.Tx K mg "_law_signs" s__law_signs ["tub"]
  t__law_text : Mi.Tx K mg "_law_text" s__law_text ["tub", "signs", "most"]
  t__law_most : Mi.Tx K mg "_law_most" s__law_most ["tub"]
  t__law_rules : Mi.Tx K mg "_law_rules" s__law_rules ["tub", "many", "elders"]
  t__law_is_source : Mi.Tx K mg "_law_is_source" s__law_is_source ["case", "first", "behind", "number", "at"]
  t__law_source : Mi.Tx K mg "_law_source" s__law_source ["case", "first", "behind"]
  t__law_reach : Mi.Tx K mg "_law_reach" s__law_reach ["case"]
  t__law_pieces : Mi.Tx K mg "_law_pieces" s__law_pieces ["case"]
  t__law_told : Mi.Tx K mg "_law_told" s__law_told ["way", "case", "things"]
  t__law_without : Mi.Tx K mg "_law_without" s__law_without ["case", "number"]
  t__law_elder_rules : Mi.Tx K mg "_law_elder_rules" s__law_elder_rules ["case"]
  t__law_numbers_right : Mi.Tx K mg "_law_numbers_right" s__law_numbers_right ["tub", "case"]
  t__law_more_right : Mi.Tx K mg "_law_more_right" s__law_more_right ["tub", "case", "signs"]
  t__law_forms_right : Mi.Tx K mg "_law_forms_right" s__law_forms_right ["tub", "case"]
  t__law_edits_right : Mi.Tx K mg "_law_edits_right" s__law_edits_right ["tub", "case", "signs", "effects"]
  t_law : Mi.Tx K mg "law" s_law ["script"]
  n_abs : mg "abs" = none
  n_bool : mg "bool" = none
  n_int : mg "int" = none
  n_isinstance : mg "isinstance" = none
  n_len : mg "len" = none
  n_max : mg "max" = none
  n_min : mg "min" = none
  n_range : mg "range" = none
  n_str : mg "str" = none
  n_tuple : mg "tuple" = none
  c_MOST_ELDERS : ∃ t, mg "MOST_ELDERS" = some (.int 6 t)
  c_MOST_RULES : ∃ t, mg "MOST_RULES" = some (.int 8 t)
  c_MOST_SIGNS : ∃ t, mg "MOST_SIGNS" = some (.int 300 t)
  x_NoSuch : Mi.XTx K mg 12 "NoSuch.__init__" si_NoSuch ["self", "word", "name"]
  x_BadCall : Mi.XTx K mg 13 "BadCall.__init__" si_BadCall ["self", "word"]
  y_SaidError : Mi.XBs K mg 0
  y_NoSuch : Mi.XBs K mg 12
  y_BadCall : Mi.XBs K mg 13
section
variable {P : Program} {w : World} {K : Frg} {mg : Str → Option Value} {base : Heap}
theorem xok_NoSuch (T : Top K mg) : XOk P w K mg base 12 ["self", "word", "name"] (spI2 K (fname 1) (fname 2)) := xok_of T.x_NoSuch fun f fd F => xinit2 F sci_NoSuch fun cdv A outer s H E => (pss_cons (ps_ost (pv 0) (pv 1)) (pss_one (ps_ost (pv 0) (pv 2))))
theorem xok_BadCall (T : Top K mg) : XOk P w K mg base 13 ["self", "word"] (spI1 K (fname 1)) := xok_of T.x_BadCall fun f fd F => xinit1 F sci_BadCall fun cdv A outer s H E => (pss_one (ps_ost (pv 0) (pv 1)))
theorem fo_is_number (T : Top K mg) {f : Addr} {fd : FuncData} (F : Fun K "is_number" "is_number" s_is_number f fd) : FnOk P w K mg base (L2N.CX P w) 1 f fd ["thing"] (spOf K [false] sp_is_number) := by
  refine fn_ok [false] sp_is_number F sc_is_number rfl (fun cdv A outer s H E hr => ?_)
  have nd := sc_is_number.nd
  have hu := hr.units
  have tk : L2N.Takes (cxOf (L2N.CX P w) P w K mg base ["thing"] "is_number" (defScope s_is_number) f cdv A outer s H E) (fun cls d _ H => E cls d H) := L2N.takes_of rfl rfl rfl rfl
  exact bd_mk (t := m_is_number) (pss_one (ps_ret (pe_and (pe_callB call_isi (by rfl) T.n_isinstance (by decide +kernel) (pa_cons (pv 0) (pa_cons (pe_bltn (v := .ty "int") (by rfl) T.n_int (by decide +kernel) rfl) pa_nil))) (pe_one (pe_not (pe_callB call_isi (by rfl) T.n_isinstance (by decide +kernel) (pa_cons (pv 0) (pa_cons (pe_bltn (v := .ty "bool") (by rfl) T.n_bool (by decide +kernel) rfl) pa_nil)))))))) (ss_ret (sim_andV (sim_isi .int sim_varF) (sim_notV (sim_isi .bool sim_varF)))) wp_is_number
theorem ok_is_number (T : Top K mg) : Ok P w K mg base "is_number" s_is_number ["thing"] [false] 1 sp_is_number := ok_of T.t_is_number fun _ _ F => fo_is_number T F
theorem fo_check_stretch (T : Top K mg) {f : Addr} {fd : FuncData} (F : Fun K "check_stretch" "check_stretch" s_check_stretch f fd) : FnOk P w K mg base (L2N.CX P w) 3 f fd ["text", "thing"] (spOf K [false, false] sp_check_stretch) := by
  obtain ⟨f_is_number, fd_is_number, G_is_number⟩ := ok_is_number (P := P) (w := w) (base := base) T
  obtain ⟨C_NoSuch, fI_NoSuch, fd_NoSuch, gm_NoSuch, ox_NoSuch, gx_NoSuch, iC_NoSuch, tI_NoSuch, F_NoSuch, b_NoSuch⟩ := xok_NoSuch (P := P) (w := w) (base := base) T
  refine fn_ok [false, false] sp_check_stretch F sc_check_stretch rfl (fun cdv A outer s H E hr => ?_)
  have nd := sc_check_stretch.nd
  have hu := hr.units
  have tk : L2N.Takes (cxOf (L2N.CX P w) P w K mg base ["text", "thing"] "check_stretch" (defScope s_check_stretch) f cdv A outer s H E) (fun cls d _ H => E cls d H) := L2N.takes_of rfl rfl rfl rfl
  exact bd_mk (t := m_check_stretch) (pss_cons (ps_if (PW.pt (pw_or (pt_not (pt_val (pe_callB call_isi (by rfl) T.n_isinstance (by decide +kernel) (pa_cons (pv 1) (pa_cons (pe_bltn (v := .ty "tuple") (by rfl) T.n_tuple (by decide +kernel) rfl) pa_nil))))) (pw_or1 (pt_cmpR (op_neX hu) (pe_callB call_lenA (by rfl) T.n_len PySem.boot_len (pa_cons (pv 1) pa_nil)) pe_int (nomark _))))) (pss_one (L2N.ps_raise rfl tk (pmk_oexN ox_NoSuch iC_NoSuch tI_NoSuch F_NoSuch (hr.mono (by first | decide | omega)) b_NoSuch passF rfl gm_NoSuch (pa_cons pe_str (pa_cons (pv 1) pa_nil))))) pss_nil) (pss_cons (ps_if (PW.pt (pw_or (pt_not (pt_val (pe_callS G_is_number.2.2.2.2 (hr.mono (by first | decide | omega)) rfl G_is_number.1 G_is_number.2.1 G_is_number.2.2.1 (fun σ => L2N.passAt tk σ) (pa_cons (pe_ix ix_seq (pv 1) pe_int (fun _ _ => rfl)) pa_nil)))) (pw_or1 (pt_not (pt_val (pe_callS G_is_number.2.2.2.2 (hr.mono (by first | decide | omega)) rfl G_is_number.1 G_is_number.2.1 G_is_number.2.2.1 (fun σ => L2N.passAt tk σ) (pa_cons (pe_ix ix_seq (pv 1) pe_int (fun _ _ => rfl)) pa_nil))))))) (pss_one (L2N.ps_raise rfl tk (pmk_oexN ox_NoSuch iC_NoSuch tI_NoSuch F_NoSuch (hr.mono (by first | decide | omega)) b_NoSuch passF rfl gm_NoSuch (pa_cons pe_str (pa_cons (pv 1) pa_nil))))) pss_nil) (pss_cons (ps_if (pt_not (pt_chain3 (op_leA) (op_ltA) (op_leA) pe_int (pe_ix ix_seq (pv 1) pe_int (fun _ _ => rfl)) (pe_ix ix_seq (pv 1) pe_int (fun _ _ => rfl)) (pe_callB call_lenA (by rfl) T.n_len PySem.boot_len (pa_cons (pv 0) pa_nil)))) (pss_one (L2N.ps_raise rfl tk (pmk_oexN ox_NoSuch iC_NoSuch tI_NoSuch F_NoSuch (hr.mono (by first | decide | omega)) b_NoSuch passF rfl gm_NoSuch (pa_cons pe_str (pa_cons (pv 1) pa_nil))))) pss_nil) (pss_one (ps_ret (pe_op op_sub (pe_ix ix_seq (pv 1) pe_int (fun _ _ => rfl)) (pe_ix ix_seq (pv 1) pe_int (fun _ _ => rfl)))))))) (ss_cons (ss_if (simt_or (simt_not (simt_B (sim_isi .tup sim_varF))) (simt_test (sim_op rs_neA (sim_cb cs_len (sima_cons sim_varF sima_nil)) sim_int))) (ss_raise2 ox_NoSuch gx_NoSuch (sima_cons (sim_str [115, 116, 114, 101, 116, 99, 104] (by decide +kernel) (by decide)) (sima_cons sim_varF sima_nil))) ss_nil) (ss_cons (ss_if (simt_or (simt_not (simt_B (sim_call0 (sima_cons (sim_op rs_ix sim_varF sim_int) sima_nil)))) (simt_not (simt_B (sim_call0 (sima_cons (sim_op rs_ix sim_varF sim_int) sima_nil))))) (ss_raise2 ox_NoSuch gx_NoSuch (sima_cons (sim_str [115, 116, 114, 101, 116, 99, 104] (by decide +kernel) (by decide)) (sima_cons sim_varF sima_nil))) ss_nil) (ss_cons (ss_if (simt_not (simt_test (sim_chain3 rs_le rs_lt rs_le sim_int (sim_op rs_ix sim_varF sim_int) (sim_op rs_ix sim_varF sim_int) (sim_cb cs_len (sima_cons sim_varF sima_nil))))) (ss_raise2 ox_NoSuch gx_NoSuch (sima_cons (sim_str [115, 116, 114, 101, 116, 99, 104] (by decide +kernel) (by decide)) (sima_cons sim_varF sima_nil))) ss_nil) (ss_ret (sim_op rs_sub (sim_op rs_ix sim_varF sim_int) (sim_op rs_ix sim_varF sim_int)))))) wp_check_stretch
theorem ok_check_stretch (T : Top K mg) : Ok P w K mg base "check_stretch" s_check_stretch ["text", "thing"] [false, false] 3 sp_check_stretch := ok_of T.t_check_stretch fun _ _ F => fo_check_stretch T F
theorem fo_spliced (T : Top K mg) {f : Addr} {fd : FuncData} (F : Fun K "spliced" "spliced" s_spliced f fd) : FnOk P w K mg base (L2N.CX P w) 4 f fd ["text", "stretch", "part"] (spOf K [false, false, false] sp_spliced) := by
  obtain ⟨f_check_stretch, fd_check_stretch, G_check_stretch⟩ := ok_check_stretch (P := P) (w := w) (base := base) T
  obtain ⟨C_BadCall, fI_BadCall, fd_BadCall, gm_BadCall, ox_BadCall, gx_BadCall, iC_BadCall, tI_BadCall, F_BadCall, b_BadCall⟩ := xok_BadCall (P := P) (w := w) (base := base) T
  obtain ⟨t_MOST_SIGNS, gm_MOST_SIGNS⟩ := T.c_MOST_SIGNS
  refine fn_ok [false, false, false] sp_spliced F sc_spliced rfl (fun cdv A outer s H E hr => ?_)
  have nd := sc_spliced.nd
  have hu := hr.units
  have tk : L2N.Takes (cxOf (L2N.CX P w) P w K mg base ["text", "stretch", "part", "made"] "spliced" (defScope s_spliced) f cdv A outer s H E) (fun cls d _ H => E cls d H) := L2N.takes_of rfl rfl rfl rfl
  exact bd_mk (t := m_spliced) (pss_cons (ps_expr (pe_callS G_check_stretch.2.2.2.2 (hr.mono (by first | decide | omega)) rfl G_check_stretch.1 G_check_stretch.2.1 G_check_stretch.2.2.1 (fun σ => L2N.passAt tk σ) (pa_cons (pv 0) (pa_cons (pv 1) pa_nil)))) (pss_cons (ps_set (i := 3) nd rfl (by first | exact Or.inl rfl | exact Or.inr rfl) (pe_op op_addA (pe_op op_addA (pe_slice sl_any (pv 0) po_none (po_some (pe_ix ix_seq (pv 1) pe_int (fun _ _ => rfl)))) (pv 2)) (pe_slice sl_any (pv 0) (po_some (pe_ix ix_seq (pv 1) pe_int (fun _ _ => rfl))) po_none))) (pss_cons (ps_if (pt_cmpR (op_gtA) (pe_callB call_lenA (by rfl) T.n_len PySem.boot_len (pa_cons (pv 3) pa_nil)) (pe_glob (v := .int 300) rfl gm_MOST_SIGNS ⟨_, rfl⟩) (nomark _)) (pss_one (L2N.ps_raise rfl tk (pmk_oexN ox_BadCall iC_BadCall tI_BadCall F_BadCall (hr.mono (by first | decide | omega)) b_BadCall passF rfl gm_BadCall (pa_cons pe_str pa_nil)))) pss_nil) (pss_one (ps_ret (pv 3)))))) (ss_cons (ss_expr (sim_call0 (sima_cons sim_varF (sima_cons sim_varF sima_nil)))) (ss_cons (ss_asg (sim_op rs_add (sim_op rs_add (sim_sl sim_varF sim_no (sim_part (sim_op rs_ix sim_varF sim_int))) sim_varF) (sim_sl sim_varF (sim_part (sim_op rs_ix sim_varF sim_int)) sim_no)) (g_name 3)) (ss_cons (ss_if (simt_test (sim_op rs_gt (sim_cb cs_len (sima_cons sim_varF sima_nil)) sim_int)) (ss_raise1 ox_BadCall gx_BadCall (sima_cons (sim_str [108, 111, 110, 103] (by decide +kernel) (by decide)) sima_nil)) ss_nil) (ss_ret sim_varF)))) wp_spliced
theorem ok_spliced (T : Top K mg) : Ok P w K mg base "spliced" s_spliced ["text", "stretch", "part"] [false, false, false] 4 sp_spliced := ok_of T.t_spliced fun _ _ F => fo_spliced T F
theorem fo_is_turning (T : Top K mg) {f : Addr} {fd : FuncData} (F : Fun K "is_turning" "is_turning" s_is_turning f fd) : FnOk P w K mg base (L2N.CX P w) 1 f fd ["rule"] (spOf K [false] sp_is_turning) := by
  refine fn_ok [false] sp_is_turning F sc_is_turning rfl (fun cdv A outer s H E hr => ?_)
  have nd := sc_is_turning.nd
  have hu := hr.units
  have tk : L2N.Takes (cxOf (L2N.CX P w) P w K mg base ["rule"] "is_turning" (defScope s_is_turning) f cdv A outer s H E) (fun cls d _ H => E cls d H) := L2N.takes_of rfl rfl rfl rfl
  exact bd_mk (t := m_is_turning) (pss_one (ps_ret (pe_ix ix_seq (pv 0) (pe_un un_neg pe_int) (fun _ _ => rfl)))) (ss_ret (sim_op rs_ix sim_varF (sim_un us_neg sim_int))) wp_is_turning
theorem ok_is_turning (T : Top K mg) : Ok P w K mg base "is_turning" s_is_turning ["rule"] [false] 1 sp_is_turning := ok_of T.t_is_turning fun _ _ F => fo_is_turning T F
theorem fo__heard_by (T : Top K mg) {f : Addr} {fd : FuncData} (F : Fun K "_heard_by" "_heard_by" s__heard_by f fd) : FnOk P w K mg base (L2N.CX P w) 2 f fd ["case", "number", "first", "many"] (spOf K [false, false, false, false] sp__heard_by) := by
  obtain ⟨f_is_turning, fd_is_turning, G_is_turning⟩ := ok_is_turning (P := P) (w := w) (base := base) T
  refine fn_ok [false, false, false, false] sp__heard_by F sc__heard_by rfl (fun cdv A outer s H E hr => ?_)
  have nd := sc__heard_by.nd
  have hu := hr.units
  have tk : L2N.Takes (cxOf (L2N.CX P w) P w K mg base ["case", "number", "first", "many", "elders", "rules", "new", "rule", "part", "low", "high", "at"] "_heard_by" (defScope s__heard_by) f cdv A outer s H E) (fun cls d _ H => E cls d H) := L2N.takes_of rfl rfl rfl rfl
  exact bd_mk (t := m__heard_by) (pss_cons (ps_asg (pv 0) (pg_tup rfl (pgs_cons (pg_name (i := 4) nd rfl (by first | exact Or.inl rfl | exact Or.inr rfl)) (pgs_cons (pg_name (i := 5) nd rfl (by first | exact Or.inl rfl | exact Or.inr rfl)) (pgs_cons (pg_name (i := 6) nd rfl (by first | exact Or.inl rfl | exact Or.inr rfl)) pgs_nil))))) (pss_cons (ps_set (i := 7) nd rfl (by first | exact Or.inl rfl | exact Or.inr rfl) (pe_ix ix_seq (pv 5) (pv 1) (fun _ _ => rfl))) (pss_cons (ps_if (pt_cmpR (op_gtA) (pv 3) (pe_ix ix_seq (pv 7) (pe_un un_neg pe_int) (fun _ _ => rfl)) (nomark _)) (pss_one (ps_ret pe_bl)) pss_nil) (pss_cons (ps_set (i := 8) nd rfl (by first | exact Or.inl rfl | exact Or.inr rfl) (pe_slice sl_any (pv 6) (po_some (pv 2)) (po_some (pe_op op_addA (pv 2) (pv 3))))) (pss_cons (ps_if (pt_val (pe_callS G_is_turning.2.2.2.2 (hr.mono (by first | decide | omega)) rfl G_is_turning.1 G_is_turning.2.1 G_is_turning.2.2.1 (fun σ => L2N.passAt tk σ) (pa_cons (pv 7) pa_nil))) (pss_one (ps_set (i := 8) nd rfl (by first | exact Or.inl rfl | exact Or.inr rfl) (pe_rev (pv 8)))) pss_nil) (pss_cons (ps_if (pt_cmpR (op_eqX hu) (pe_ix ix_seq (pv 7) pe_int (fun _ _ => rfl)) pe_str (nomark _)) (pss_one (ps_ret (pe_cmpR (op_inX) (pv 8) (pe_ix ix_seq (pv 4) (pe_ix ix_seq (pv 7) pe_int (fun _ _ => rfl)) (fun _ _ => rfl)) (by rfl)))) pss_nil) (pss_cons (ps_set (i := 9) nd rfl (by first | exact Or.inl rfl | exact Or.inr rfl) (pe_op op_sub (pv 2) (pe_ix ix_seq (pv 7) pe_int (fun _ _ => rfl)))) (pss_cons (ps_set (i := 10) nd rfl (by first | exact Or.inl rfl | exact Or.inr rfl) (pe_op op_sub (pv 2) pe_int)) (pss_cons (ps_if (pt_val (pe_callS G_is_turning.2.2.2.2 (hr.mono (by first | decide | omega)) rfl G_is_turning.1 G_is_turning.2.1 G_is_turning.2.2.1 (fun σ => L2N.passAt tk σ) (pa_cons (pv 7) pa_nil))) (pss_one (ps_set (i := 9) nd rfl (by first | exact Or.inl rfl | exact Or.inr rfl) (pe_op op_sub (pe_op op_addA (pv 9) (pv 3)) pe_int))) pss_nil) (pss_cons (ps_if (PW.pt (pw_or (pt_val (pe_callS G_is_turning.2.2.2.2 (hr.mono (by first | decide | omega)) rfl G_is_turning.1 G_is_turning.2.1 G_is_turning.2.2.1 (fun σ => L2N.passAt tk σ) (pa_cons (pv 7) pa_nil))) (pw_or1 (pt_val (pe_ix ix_seq (pv 7) pe_int (fun _ _ => rfl)))))) (pss_one (ps_set (i := 10) nd rfl (by first | exact Or.inl rfl | exact Or.inr rfl) (pe_op op_sub (pv 2) (pv 3)))) pss_nil) (pss_cons (ps_for (passes_of rfl) rfl (pi_range2 rfl T.n_range (pa_cons (pe_callB (call_max2 rfl) (by rfl) T.n_max (by decide +kernel) (pa_cons pe_int (pa_cons (pv 9) pa_nil))) (pa_cons (pe_op op_addA (pv 10) pe_int) pa_nil))) (pg_name (i := 11) nd rfl (by first | exact Or.inl rfl | exact Or.inr rfl)) (pss_one (ps_if (pt_cmpR (op_eqX hu) (pe_slice sl_any (pv 6) (po_some (pv 11)) (po_some (pe_op op_addA (pv 11) (pv 3)))) (pv 8) (nomark _)) (pss_one (ps_ret pe_bl)) pss_nil))) (pss_one (ps_ret pe_bl))))))))))))) (ss_cons (ss_asg sim_varF (g_tup [4, 5, 6])) (ss_cons (ss_asg (sim_op rs_ix sim_varF sim_varF) (g_name 7)) (ss_cons (ss_if (simt_test (sim_op rs_gt sim_varF (sim_op rs_ix sim_varF (sim_un us_neg sim_int)))) (ss_ret sim_bl) ss_nil) (ss_cons (ss_asg (sim_sl sim_varF (sim_part sim_varF) (sim_part (sim_op rs_add sim_varF sim_varF))) (g_name 8)) (ss_cut (ss_if (simt_B (sim_call0 (sima_cons sim_varF sima_nil))) (ss_asg (sim_rev sim_varF) (g_name 8)) ss_nil) (ss_cons (ss_if (simt_test (sim_op rs_eqA (sim_op rs_ix sim_varF sim_int) (sim_str [101, 108, 100, 101, 114] (by decide +kernel) (by decide)))) (ss_ret (sim_op rs_inA sim_varF (sim_op rs_ix sim_varF (sim_op rs_ix sim_varF sim_int)))) ss_nil) (ss_cons (ss_asg (sim_op rs_sub sim_varF (sim_op rs_ix sim_varF sim_int)) (g_name 9)) (ss_cons (ss_asg (sim_op rs_sub sim_varF sim_int) (g_name 10)) (ss_cut (ss_if (simt_B (sim_call0 (sima_cons sim_varF sima_nil))) (ss_asg (sim_op rs_sub (sim_op rs_add sim_varF sim_varF) sim_int) (g_name 9)) ss_nil) (ss_cut (ss_if (simt_or (simt_B (sim_call0 (sima_cons sim_varF sima_nil))) (simt_B (sim_op rs_ix sim_varF sim_int))) (ss_asg (sim_op rs_sub sim_varF sim_varF) (g_name 10)) ss_nil) (ss_cons (ss_for (simi_rng2 (sim_cb cs_I2 (sima_cons sim_int (sima_cons sim_varF sima_nil))) (sim_op rs_add sim_varF sim_int)) (g_name 11) (ss_if (simt_test (sim_op rs_eqA (sim_sl sim_varF (sim_part sim_varF) (sim_part (sim_op rs_add sim_varF sim_varF))) sim_varF)) (ss_ret sim_bl) ss_nil)) (ss_ret sim_bl)))))))))))) wp__heard_by
theorem ok__heard_by (T : Top K mg) : Ok P w K mg base "_heard_by" s__heard_by ["case", "number", "first", "many"] [false, false, false, false] 2 sp__heard_by := ok_of T.t__heard_by fun _ _ F => fo__heard_by T F
theorem fo_is_heard (T : Top K mg) {f : Addr} {fd : FuncData} (F : Fun K "is_heard" "is_heard" s_is_heard f fd) : FnOk P w K mg base (L2N.CX P w) 4 f fd ["case", "stretch"] (spOf K [false, false] sp_is_heard) := by
  obtain ⟨f_check_stretch, fd_check_stretch, G_check_stretch⟩ := ok_check_stretch (P := P) (w := w) (base := base) T
  obtain ⟨f__heard_by, fd__heard_by, G__heard_by⟩ := ok__heard_by (P := P) (w := w) (base := base) T
  refine fn_ok [false, false] sp_is_heard F sc_is_heard rfl (fun cdv A outer s H E hr => ?_)
  have nd := sc_is_heard.nd
  have hu := hr.units
  have tk : L2N.Takes (cxOf (L2N.CX P w) P w K mg base ["case", "stretch", "many", "number"] "is_heard" (defScope s_is_heard) f cdv A outer s H E) (fun cls d _ H => E cls d H) := L2N.takes_of rfl rfl rfl rfl
  exact bd_mk (t := m_is_heard) (pss_cons (ps_set (i := 2) nd rfl (by first | exact Or.inl rfl | exact Or.inr rfl) (pe_callS G_check_stretch.2.2.2.2 (hr.mono (by first | decide | omega)) rfl G_check_stretch.1 G_check_stretch.2.1 G_check_stretch.2.2.1 (fun σ => L2N.passAt tk σ) (pa_cons (pe_ix ix_seq (pv 0) pe_int (fun _ _ => rfl)) (pa_cons (pv 1) pa_nil)))) (pss_cons (ps_if (pt_cmpR (op_eqX hu) (pv 2) pe_int (nomark _)) (pss_one (ps_ret pe_bl)) pss_nil) (pss_cons (ps_for (passes_of rfl) rfl (pi_range1 rfl T.n_range (pa_cons (pe_callB call_lenA (by rfl) T.n_len PySem.boot_len (pa_cons (pe_ix ix_seq (pv 0) pe_int (fun _ _ => rfl)) pa_nil)) pa_nil)) (pg_name (i := 3) nd rfl (by first | exact Or.inl rfl | exact Or.inr rfl)) (pss_one (ps_if (pt_val (pe_callS G__heard_by.2.2.2.2 (hr.mono (by first | decide | omega)) rfl G__heard_by.1 G__heard_by.2.1 G__heard_by.2.2.1 (fun σ => L2N.passAt tk σ) (pa_cons (pv 0) (pa_cons (pv 3) (pa_cons (pe_ix ix_seq (pv 1) pe_int (fun _ _ => rfl)) (pa_cons (pv 2) pa_nil)))))) (pss_one (ps_ret pe_bl)) pss_nil))) (pss_one (ps_ret pe_bl))))) (ss_cons (ss_asg (sim_call0 (sima_cons (sim_op rs_ix sim_varF sim_int) (sima_cons sim_varF sima_nil))) (g_name 2)) (ss_cons (ss_if (simt_test (sim_op rs_eqA sim_varF sim_int)) (ss_ret sim_bl) ss_nil) (ss_cons (ss_for (simi_rng1 (sim_cb cs_len (sima_cons (sim_op rs_ix sim_varF sim_int) sima_nil))) (g_name 3) (ss_if (simt_B (sim_call0 (sima_cons sim_varF (sima_cons sim_varF (sima_cons (sim_op rs_ix sim_varF sim_int) (sima_cons sim_varF sima_nil)))))) (ss_ret sim_bl) ss_nil)) (ss_ret sim_bl)))) wp_is_heard
theorem ok_is_heard (T : Top K mg) : Ok P w K mg base "is_heard" s_is_heard ["case", "stretch"] [false, false] 4 sp_is_heard := ok_of T.t_is_heard fun _ _ F => fo_is_heard T F
theorem fo_reach_table (T : Top K mg) {f : Addr} {fd : FuncData} (F : Fun K "reach_table" "reach_table" s_reach_table f fd) : FnOk P w K mg base (L2N.CX P w) 5 f fd ["case"] (spOf K [false] sp_reach_table) := by
  obtain ⟨f_is_heard, fd_is_heard, G_is_heard⟩ := ok_is_heard (P := P) (w := w) (base := base) T
  refine fn_ok [false] sp_reach_table F sc_reach_table rfl (fun cdv A outer s H E hr => ?_)
  have nd := sc_reach_table.nd
  have hu := hr.units
  have tk : L2N.Takes (cxOf (L2N.CX P w) P w K mg base ["case", "new", "told", "end", "first"] "reach_table" (defScope s_reach_table) f cdv A outer s H E) (fun cls d _ H => E cls d H) := L2N.takes_of rfl rfl rfl rfl
  exact bd_mk (t := m_reach_table) (pss_cons (ps_set (i := 1) nd rfl (by first | exact Or.inl rfl | exact Or.inr rfl) (pe_ix ix_seq (pv 0) pe_int (fun _ _ => rfl))) (pss_cons (ps_set (i := 2) nd rfl (by first | exact Or.inl rfl | exact Or.inr rfl) (pe_lst pa_nil)) (pss_cons (ps_set (i := 3) nd rfl (by first | exact Or.inl rfl | exact Or.inr rfl) pe_int) (pss_cons (ps_for (passes_of rfl) rfl (pi_range1 rfl T.n_range (pa_cons (pe_callB call_lenA (by rfl) T.n_len PySem.boot_len (pa_cons (pv 1) pa_nil)) pa_nil)) (pg_name (i := 4) nd rfl (by first | exact Or.inl rfl | exact Or.inr rfl)) (pss_cons (ps_set (i := 3) nd rfl (by first | exact Or.inl rfl | exact Or.inr rfl) (pe_callB (call_max2 rfl) (by rfl) T.n_max (by decide +kernel) (pa_cons (pv 3) (pa_cons (pe_op op_addA (pv 4) pe_int) pa_nil)))) (pss_cons (ps_while (passes_of rfl) (PW.pt (pw_and (pt_cmpR (op_ltA) (pv 3) (pe_callB call_lenA (by rfl) T.n_len PySem.boot_len (pa_cons (pv 1) pa_nil)) (nomark _)) (pw_and1 (pt_val (pe_callS G_is_heard.2.2.2.2 (hr.mono (by first | decide | omega)) rfl G_is_heard.1 G_is_heard.2.1 G_is_heard.2.2.1 (fun σ => L2N.passAt tk σ) (pa_cons (pv 0) (pa_cons (pe_tup (pa_cons (pv 4) (pa_cons (pe_op op_addA (pv 3) pe_int) pa_nil))) pa_nil))))))) (pss_one (ps_set (i := 3) nd rfl (by first | exact Or.inl rfl | exact Or.inr rfl) (pe_op op_addA (pv 3) pe_int)))) (pss_one (ps_expr (pe_bm PySem.F.plainAttrs_list PySem.F.slot_list_append PySem.F.type_list_append mt_append (pv 2) (pa_cons (pv 3) pa_nil))))))) (pss_one (ps_ret (pe_callTy call_tuple_of (by rfl) T.n_tuple (by decide +kernel) (pa_cons (pv 2) pa_nil)))))))) (ss_cons (ss_asg (sim_op rs_ix sim_varF sim_int) (g_name 1)) (ss_cons (ss_setM (i := 2) (simn_lst 0 sima_nil)) (ss_cons (ss_asg sim_int (g_name 3)) (ss_cons (ss_for (simi_rng1 (sim_cb cs_len (sima_cons sim_varF sima_nil))) (g_name 4) (ss_cons (ss_asg (sim_cb cs_I2 (sima_cons sim_varF (sima_cons (sim_op rs_add sim_varF sim_int) sima_nil))) (g_name 3)) (ss_cons (ss_while (simt_and (simt_test (sim_op rs_lt sim_varF (sim_cb cs_len (sima_cons sim_varF sima_nil)))) (simt_B (sim_call0 (sima_cons sim_varF (sima_cons (sim_tup 2 (sima_cons sim_varF (sima_cons (sim_op rs_add sim_varF sim_int) sima_nil))) sima_nil))))) (ss_asg (sim_op rs_add sim_varF sim_int) (g_name 3))) (ss_append sim_varF)))) (ss_ret (sim_cb cs_tuple (sima_cons sim_var sima_nil))))))) wp_reach_table
theorem ok_reach_table (T : Top K mg) : Ok P w K mg base "reach_table" s_reach_table ["case"] [false] 5 sp_reach_table := ok_of T.t_reach_table fun _ _ F => fo_reach_table T F
theorem fo_greedy_cuts (T : Top K mg) {f : Addr} {fd : FuncData} (F : Fun K "greedy_cuts" "greedy_cuts" s_greedy_cuts f fd) : FnOk P w K mg base (L2N.CX P w) 6 f fd ["case"] (spOf K [false] sp_greedy_cuts) := by
  obtain ⟨f_reach_table, fd_reach_table, G_reach_table⟩ := ok_reach_table (P := P) (w := w) (base := base) T
  refine fn_ok [false] sp_greedy_cuts F sc_greedy_cuts rfl (fun cdv A outer s H E hr => ?_)
  have nd := sc_greedy_cuts.nd
  have hu := hr.units
  have tk : L2N.Takes (cxOf (L2N.CX P w) P w K mg base ["case", "reach", "told", "at"] "greedy_cuts" (defScope s_greedy_cuts) f cdv A outer s H E) (fun cls d _ H => E cls d H) := L2N.takes_of rfl rfl rfl rfl
  exact bd_mk (t := m_greedy_cuts) (pss_cons (ps_set (i := 1) nd rfl (by first | exact Or.inl rfl | exact Or.inr rfl) (pe_callS G_reach_table.2.2.2.2 (hr.mono (by first | decide | omega)) rfl G_reach_table.1 G_reach_table.2.1 G_reach_table.2.2.1 (fun σ => L2N.passAt tk σ) (pa_cons (pv 0) pa_nil))) (pss_cons (ps_set (i := 2) nd rfl (by first | exact Or.inl rfl | exact Or.inr rfl) (pe_lst pa_nil)) (pss_cons (ps_set (i := 3) nd rfl (by first | exact Or.inl rfl | exact Or.inr rfl) pe_int) (pss_cons (ps_while (passes_of rfl) (PW.pt (pw_and (pt_cmpR (op_ltA) (pv 3) (pe_callB call_lenA (by rfl) T.n_len PySem.boot_len (pa_cons (pv 1) pa_nil)) (nomark _)) (pw_and1 (pt_cmpR (op_ltA) (pe_ix ix_seq (pv 1) (pv 3) (fun _ _ => rfl)) (pe_callB call_lenA (by rfl) T.n_len PySem.boot_len (pa_cons (pv 1) pa_nil)) (nomark _))))) (pss_cons (ps_set (i := 3) nd rfl (by first | exact Or.inl rfl | exact Or.inr rfl) (pe_ix ix_seq (pv 1) (pv 3) (fun _ _ => rfl))) (pss_one (ps_expr (pe_bm PySem.F.plainAttrs_list PySem.F.slot_list_append PySem.F.type_list_append mt_append (pv 2) (pa_cons (pv 3) pa_nil)))))) (pss_one (ps_ret (pe_callTy call_tuple_of (by rfl) T.n_tuple (by decide +kernel) (pa_cons (pv 2) pa_nil)))))))) (ss_cons (ss_asg (sim_call0 (sima_cons sim_varF sima_nil)) (g_name 1)) (ss_cons (ss_setM (i := 2) (simn_lst 0 sima_nil)) (ss_cons (ss_asg sim_int (g_name 3)) (ss_cons (ss_while (simt_and (simt_test (sim_op rs_lt sim_varF (sim_cb cs_len (sima_cons sim_varF sima_nil)))) (simt_test (sim_op rs_lt (sim_op rs_ix sim_varF sim_varF) (sim_cb cs_len (sima_cons sim_varF sima_nil))))) (ss_cons (ss_asg (sim_op rs_ix sim_varF sim_varF) (g_name 3)) (ss_append sim_varF))) (ss_ret (sim_cb cs_tuple (sima_cons sim_var sima_nil))))))) wp_greedy_cuts
theorem ok_greedy_cuts (T : Top K mg) : Ok P w K mg base "greedy_cuts" s_greedy_cuts ["case"] [false] 6 sp_greedy_cuts := ok_of T.t_greedy_cuts fun _ _ F => fo_greedy_cuts T F
theorem fo_fewest_count (T : Top K mg) {f : Addr} {fd : FuncData} (F : Fun K "fewest_count" "fewest_count" s_fewest_count f fd) : FnOk P w K mg base (L2N.CX P w) 7 f fd ["case"] (spOf K [false] sp_fewest_count) := by
  obtain ⟨f_greedy_cuts, fd_greedy_cuts, G_greedy_cuts⟩ := ok_greedy_cuts (P := P) (w := w) (base := base) T
  refine fn_ok [false] sp_fewest_count F sc_fewest_count rfl (fun cdv A outer s H E hr => ?_)
  have nd := sc_fewest_count.nd
  have hu := hr.units
  have tk : L2N.Takes (cxOf (L2N.CX P w) P w K mg base ["case"] "fewest_count" (defScope s_fewest_count) f cdv A outer s H E) (fun cls d _ H => E cls d H) := L2N.takes_of rfl rfl rfl rfl
  exact bd_mk (t := m_fewest_count) (pss_one (ps_ret (pe_callB call_lenA (by rfl) T.n_len PySem.boot_len (pa_cons (pe_callS G_greedy_cuts.2.2.2.2 (hr.mono (by first | decide | omega)) rfl G_greedy_cuts.1 G_greedy_cuts.2.1 G_greedy_cuts.2.2.1 (fun σ => L2N.passAt tk σ) (pa_cons (pv 0) pa_nil)) pa_nil)))) (ss_ret (sim_cb cs_len (sima_cons (sim_call0 (sima_cons sim_varF sima_nil)) sima_nil))) wp_fewest_count
theorem ok_fewest_count (T : Top K mg) : Ok P w K mg base "fewest_count" s_fewest_count ["case"] [false] 7 sp_fewest_count := ok_of T.t_fewest_count fun _ _ F => fo_fewest_count T F
theorem fo_piece_count (T : Top K mg) {f : Addr} {fd : FuncData} (F : Fun K "piece_count" "piece_count" s_piece_count f fd) : FnOk P w K mg base (L2N.CX P w) 8 f fd ["case"] (spOf K [false] sp_piece_count) := by
  obtain ⟨f_fewest_count, fd_fewest_count, G_fewest_count⟩ := ok_fewest_count (P := P) (w := w) (base := base) T
  refine fn_ok [false] sp_piece_count F sc_piece_count rfl (fun cdv A outer s H E hr => ?_)
  have nd := sc_piece_count.nd
  have hu := hr.units
  have tk : L2N.Takes (cxOf (L2N.CX P w) P w K mg base ["case"] "piece_count" (defScope s_piece_count) f cdv A outer s H E) (fun cls d _ H => E cls d H) := L2N.takes_of rfl rfl rfl rfl
  exact bd_mk (t := m_piece_count) (pss_one (ps_ret (pe_ifExp (pt_cmpR (op_eqX hu) (pe_ix ix_seq (pv 0) pe_int (fun _ _ => rfl)) pe_str (nomark _)) pe_int (pe_op op_addA (pe_callS G_fewest_count.2.2.2.2 (hr.mono (by first | decide | omega)) rfl G_fewest_count.1 G_fewest_count.2.1 G_fewest_count.2.2.1 (fun σ => L2N.passAt tk σ) (pa_cons (pv 0) pa_nil)) pe_int)))) (ss_ret (sim_ifE (simt_test (sim_op rs_eqA (sim_op rs_ix sim_varF sim_int) (sim_str [] (by decide +kernel) (by decide)))) sim_int (sim_op rs_add (sim_call0 (sima_cons sim_varF sima_nil)) sim_int))) wp_piece_count
theorem ok_piece_count (T : Top K mg) : Ok P w K mg base "piece_count" s_piece_count ["case"] [false] 8 sp_piece_count := ok_of T.t_piece_count fun _ _ F => fo_piece_count T F
theorem fo_with_new (T : Top K mg) {f : Addr} {fd : FuncData} (F : Fun K "with_new" "with_new" s_with_new f fd) : FnOk P w K mg base (L2N.CX P w) 1 f fd ["case", "new"] (spOf K [false, false] sp_with_new) := by
  refine fn_ok [false, false] sp_with_new F sc_with_new rfl (fun cdv A outer s H E hr => ?_)
  have nd := sc_with_new.nd
  have hu := hr.units
  have tk : L2N.Takes (cxOf (L2N.CX P w) P w K mg base ["case", "new"] "with_new" (defScope s_with_new) f cdv A outer s H E) (fun cls d _ H => E cls d H) := L2N.takes_of rfl rfl rfl rfl
  exact bd_mk (t := m_with_new) (pss_one (ps_ret (pe_tup (pa_cons (pe_ix ix_seq (pv 0) pe_int (fun _ _ => rfl)) (pa_cons (pe_ix ix_seq (pv 0) pe_int (fun _ _ => rfl)) (pa_cons (pv 1) pa_nil)))))) (ss_ret (sim_tup 3 (sima_cons (sim_op rs_ix sim_varF sim_int) (sima_cons (sim_op rs_ix sim_varF sim_int) (sima_cons sim_varF sima_nil))))) wp_with_new
theorem ok_with_new (T : Top K mg) : Ok P w K mg base "with_new" s_with_new ["case", "new"] [false, false] 1 sp_with_new := ok_of T.t_with_new fun _ _ F => fo_with_new T F
theorem fo_with_rule (T : Top K mg) {f : Addr} {fd : FuncData} (F : Fun K "with_rule" "with_rule" s_with_rule f fd) : FnOk P w K mg base (L2N.CX P w) 3 f fd ["case", "rule"] (spOf K [false, false] sp_with_rule) := by
  obtain ⟨C_BadCall, fI_BadCall, fd_BadCall, gm_BadCall, ox_BadCall, gx_BadCall, iC_BadCall, tI_BadCall, F_BadCall, b_BadCall⟩ := xok_BadCall (P := P) (w := w) (base := base) T
  obtain ⟨t_MOST_RULES, gm_MOST_RULES⟩ := T.c_MOST_RULES
  refine fn_ok [false, false] sp_with_rule F sc_with_rule rfl (fun cdv A outer s H E hr => ?_)
  have nd := sc_with_rule.nd
  have hu := hr.units
  have tk : L2N.Takes (cxOf (L2N.CX P w) P w K mg base ["case", "rule"] "with_rule" (defScope s_with_rule) f cdv A outer s H E) (fun cls d _ H => E cls d H) := L2N.takes_of rfl rfl rfl rfl
  exact bd_mk (t := m_with_rule) (pss_cons (ps_if (pt_cmpR (op_eqX hu) (pe_callB call_lenA (by rfl) T.n_len PySem.boot_len (pa_cons (pe_ix ix_seq (pv 0) pe_int (fun _ _ => rfl)) pa_nil)) (pe_glob (v := .int 8) rfl gm_MOST_RULES ⟨_, rfl⟩) (nomark _)) (pss_one (L2N.ps_raise rfl tk (pmk_oexN ox_BadCall iC_BadCall tI_BadCall F_BadCall (hr.mono (by first | decide | omega)) b_BadCall passF rfl gm_BadCall (pa_cons pe_str pa_nil)))) pss_nil) (pss_one (ps_ret (pe_tup (pa_cons (pe_ix ix_seq (pv 0) pe_int (fun _ _ => rfl)) (pa_cons (pe_op op_addA (pe_ix ix_seq (pv 0) pe_int (fun _ _ => rfl)) (pe_tup (pa_cons (pv 1) pa_nil))) (pa_cons (pe_ix ix_seq (pv 0) pe_int (fun _ _ => rfl)) pa_nil))))))) (ss_cons (ss_if (simt_test (sim_op rs_eqA (sim_cb cs_len (sima_cons (sim_op rs_ix sim_varF sim_int) sima_nil)) sim_int)) (ss_raise1 ox_BadCall gx_BadCall (sima_cons (sim_str [109, 97, 110, 121] (by decide +kernel) (by decide)) sima_nil)) ss_nil) (ss_ret (sim_tup 3 (sima_cons (sim_op rs_ix sim_varF sim_int) (sima_cons (sim_op rs_add (sim_op rs_ix sim_varF sim_int) (sim_tup 1 (sima_cons sim_varF sima_nil))) (sima_cons (sim_op rs_ix sim_varF sim_int) sima_nil)))))) wp_with_rule
theorem ok_with_rule (T : Top K mg) : Ok P w K mg base "with_rule" s_with_rule ["case", "rule"] [false, false] 3 sp_with_rule := ok_of T.t_with_rule fun _ _ F => fo_with_rule T F
theorem fo_with_elder (T : Top K mg) {f : Addr} {fd : FuncData} (F : Fun K "with_elder" "with_elder" s_with_elder f fd) : FnOk P w K mg base (L2N.CX P w) 3 f fd ["case", "text", "turned", "most"] (spOf K [false, false, false, false] sp_with_elder) := by
  obtain ⟨C_BadCall, fI_BadCall, fd_BadCall, gm_BadCall, ox_BadCall, gx_BadCall, iC_BadCall, tI_BadCall, F_BadCall, b_BadCall⟩ := xok_BadCall (P := P) (w := w) (base := base) T
  obtain ⟨t_MOST_ELDERS, gm_MOST_ELDERS⟩ := T.c_MOST_ELDERS
  obtain ⟨t_MOST_RULES, gm_MOST_RULES⟩ := T.c_MOST_RULES
  refine fn_ok [false, false, false, false] sp_with_elder F sc_with_elder rfl (fun cdv A outer s H E hr => ?_)
  have nd := sc_with_elder.nd
  have hu := hr.units
  have tk : L2N.Takes (cxOf (L2N.CX P w) P w K mg base ["case", "text", "turned", "most", "rule"] "with_elder" (defScope s_with_elder) f cdv A outer s H E) (fun cls d _ H => E cls d H) := L2N.takes_of rfl rfl rfl rfl
  exact bd_mk (t := m_with_elder) (pss_cons (ps_if (PW.pt (pw_or (pt_cmpR (op_eqX hu) (pe_callB call_lenA (by rfl) T.n_len PySem.boot_len (pa_cons (pe_ix ix_seq (pv 0) pe_int (fun _ _ => rfl)) pa_nil)) (pe_glob (v := .int 6) rfl gm_MOST_ELDERS ⟨_, rfl⟩) (nomark _)) (pw_or1 (pt_cmpR (op_eqX hu) (pe_callB call_lenA (by rfl) T.n_len PySem.boot_len (pa_cons (pe_ix ix_seq (pv 0) pe_int (fun _ _ => rfl)) pa_nil)) (pe_glob (v := .int 8) rfl gm_MOST_RULES ⟨_, rfl⟩) (nomark _))))) (pss_one (L2N.ps_raise rfl tk (pmk_oexN ox_BadCall iC_BadCall tI_BadCall F_BadCall (hr.mono (by first | decide | omega)) b_BadCall passF rfl gm_BadCall (pa_cons pe_str pa_nil)))) pss_nil) (pss_cons (ps_set (i := 4) nd rfl (by first | exact Or.inl rfl | exact Or.inr rfl) (pe_tup (pa_cons pe_str (pa_cons (pe_callB call_lenA (by rfl) T.n_len PySem.boot_len (pa_cons (pe_ix ix_seq (pv 0) pe_int (fun _ _ => rfl)) pa_nil)) (pa_cons (pv 2) (pa_cons (pv 3) pa_nil)))))) (pss_one (ps_ret (pe_tup (pa_cons (pe_op op_addA (pe_ix ix_seq (pv 0) pe_int (fun _ _ => rfl)) (pe_tup (pa_cons (pv 1) pa_nil))) (pa_cons (pe_op op_addA (pe_ix ix_seq (pv 0) pe_int (fun _ _ => rfl)) (pe_tup (pa_cons (pv 4) pa_nil))) (pa_cons (pe_ix ix_seq (pv 0) pe_int (fun _ _ => rfl)) pa_nil)))))))) (ss_cons (ss_if (simt_or (simt_test (sim_op rs_eqA (sim_cb cs_len (sima_cons (sim_op rs_ix sim_varF sim_int) sima_nil)) sim_int)) (simt_test (sim_op rs_eqA (sim_cb cs_len (sima_cons (sim_op rs_ix sim_varF sim_int) sima_nil)) sim_int))) (ss_raise1 ox_BadCall gx_BadCall (sima_cons (sim_str [109, 97, 110, 121] (by decide +kernel) (by decide)) sima_nil)) ss_nil) (ss_cons (ss_asg (sim_tup 4 (sima_cons (sim_str [101, 108, 100, 101, 114] (by decide +kernel) (by decide)) (sima_cons (sim_cb cs_len (sima_cons (sim_op rs_ix sim_varF sim_int) sima_nil)) (sima_cons sim_varF (sima_cons sim_varF sima_nil))))) (g_name 4)) (ss_ret (sim_tup 3 (sima_cons (sim_op rs_add (sim_op rs_ix sim_varF sim_int) (sim_tup 1 (sima_cons sim_varF sima_nil))) (sima_cons (sim_op rs_add (sim_op rs_ix sim_varF sim_int) (sim_tup 1 (sima_cons sim_varF sima_nil))) (sima_cons (sim_op rs_ix sim_varF sim_int) sima_nil))))))) wp_with_elder
theorem ok_with_elder (T : Top K mg) : Ok P w K mg base "with_elder" s_with_elder ["case", "text", "turned", "most"] [false, false, false, false] 3 sp_with_elder := ok_of T.t_with_elder fun _ _ F => fo_with_elder T F
theorem fo_without_elder (T : Top K mg) {f : Addr} {fd : FuncData} (F : Fun K "without_elder" "without_elder" s_without_elder f fd) : FnOk P w K mg base (L2N.CX P w) 3 f fd ["case", "number"] (spOf K [false, false] sp_without_elder) := by
  obtain ⟨C_NoSuch, fI_NoSuch, fd_NoSuch, gm_NoSuch, ox_NoSuch, gx_NoSuch, iC_NoSuch, tI_NoSuch, F_NoSuch, b_NoSuch⟩ := xok_NoSuch (P := P) (w := w) (base := base) T
  refine fn_ok [false, false] sp_without_elder F sc_without_elder rfl (fun cdv A outer s H E hr => ?_)
  have nd := sc_without_elder.nd
  have hu := hr.units
  have tk : L2N.Takes (cxOf (L2N.CX P w) P w K mg base ["case", "number", "elders", "rules", "new", "kept", "rule"] "without_elder" (defScope s_without_elder) f cdv A outer s H E) (fun cls d _ H => E cls d H) := L2N.takes_of rfl rfl rfl rfl
  exact bd_mk (t := m_without_elder) (pss_cons (ps_asg (pv 0) (pg_tup rfl (pgs_cons (pg_name (i := 2) nd rfl (by first | exact Or.inl rfl | exact Or.inr rfl)) (pgs_cons (pg_name (i := 3) nd rfl (by first | exact Or.inl rfl | exact Or.inr rfl)) (pgs_cons (pg_name (i := 4) nd rfl (by first | exact Or.inl rfl | exact Or.inr rfl)) pgs_nil))))) (pss_cons (ps_if (PW.pt (pw_or (pt_val (pe_callB call_isi (by rfl) T.n_isinstance (by decide +kernel) (pa_cons (pv 1) (pa_cons (pe_bltn (v := .ty "bool") (by rfl) T.n_bool (by decide +kernel) rfl) pa_nil)))) (pw_or (pt_not (pt_val (pe_callB call_isi (by rfl) T.n_isinstance (by decide +kernel) (pa_cons (pv 1) (pa_cons (pe_bltn (v := .ty "int") (by rfl) T.n_int (by decide +kernel) rfl) pa_nil))))) (pw_or1 (pt_not (pt_chain (op_leA) (op_ltA) pe_int (pv 1) (pe_callB call_lenA (by rfl) T.n_len PySem.boot_len (pa_cons (pv 2) pa_nil)))))))) (pss_one (L2N.ps_raise rfl tk (pmk_oexN ox_NoSuch iC_NoSuch tI_NoSuch F_NoSuch (hr.mono (by first | decide | omega)) b_NoSuch passF rfl gm_NoSuch (pa_cons pe_str (pa_cons (pv 1) pa_nil))))) pss_nil) (pss_cons (ps_set (i := 5) nd rfl (by first | exact Or.inl rfl | exact Or.inr rfl) (pe_lst pa_nil)) (pss_cons (ps_for (passes_of rfl) rfl (pi_any (pv 3)) (pg_name (i := 6) nd rfl (by first | exact Or.inl rfl | exact Or.inr rfl)) (pss_one (ps_if (PW.pt (pw_or (pt_cmpR (op_eqX hu) (pe_ix ix_seq (pv 6) pe_int (fun _ _ => rfl)) pe_str (nomark _)) (pw_or1 (pt_cmpR (op_ltA) (pe_ix ix_seq (pv 6) pe_int (fun _ _ => rfl)) (pv 1) (nomark _))))) (pss_one (ps_expr (pe_bm PySem.F.plainAttrs_list PySem.F.slot_list_append PySem.F.type_list_append mt_append (pv 5) (pa_cons (pv 6) pa_nil)))) (pss_one (ps_if (pt_cmpR (op_gtA) (pe_ix ix_seq (pv 6) pe_int (fun _ _ => rfl)) (pv 1) (nomark _)) (pss_one (ps_expr (pe_bm PySem.F.plainAttrs_list PySem.F.slot_list_append PySem.F.type_list_append mt_append (pv 5) (pa_cons (pe_op op_addA (pe_tup (pa_cons pe_str (pa_cons (pe_op op_sub (pe_ix ix_seq (pv 6) pe_int (fun _ _ => rfl)) pe_int) pa_nil))) (pe_slice sl_any (pv 6) (po_some pe_int) po_none)) pa_nil)))) pss_nil))))) (pss_one (ps_ret (pe_tup (pa_cons (pe_op op_addA (pe_slice sl_any (pv 2) po_none (po_some (pv 1))) (pe_slice sl_any (pv 2) (po_some (pe_op op_addA (pv 1) pe_int)) po_none)) (pa_cons (pe_callTy call_tuple_of (by rfl) T.n_tuple (by decide +kernel) (pa_cons (pv 5) pa_nil)) (pa_cons (pv 4) pa_nil)))))))))) (ss_cons (ss_asg sim_varF (g_tup [2, 3, 4])) (ss_cons (ss_if (simt_or (simt_B (sim_isi .bool sim_varF)) (simt_or (simt_not (simt_B (sim_isi .int sim_varF))) (simt_not (simt_test (sim_chain rs_le rs_lt sim_int sim_varF (sim_cb cs_len (sima_cons sim_varF sima_nil))))))) (ss_raise2 ox_NoSuch gx_NoSuch (sima_cons (sim_str [101, 108, 100, 101, 114] (by decide +kernel) (by decide)) (sima_cons sim_varF sima_nil))) ss_nil) (ss_cons (ss_setM (i := 5) (simn_lst 0 sima_nil)) (ss_cons (ss_for (simi_any sim_varF) (g_name 6) (ss_if (simt_or (simt_test (sim_op rs_eqA (sim_op rs_ix sim_varF sim_int) (sim_str [98, 97, 99, 107] (by decide +kernel) (by decide)))) (simt_test (sim_op rs_lt (sim_op rs_ix sim_varF sim_int) sim_varF))) (ss_append sim_varF) (ss_if (simt_test (sim_op rs_gt (sim_op rs_ix sim_varF sim_int) sim_varF)) (ss_append (sim_op rs_add (sim_tup 2 (sima_cons (sim_str [101, 108, 100, 101, 114] (by decide +kernel) (by decide)) (sima_cons (sim_op rs_sub (sim_op rs_ix sim_varF sim_int) sim_int) sima_nil))) (sim_sl sim_varF (sim_part sim_int) sim_no))) ss_nil))) (ss_ret (sim_tup 3 (sima_cons (sim_op rs_add (sim_sl sim_varF sim_no (sim_part sim_varF)) (sim_sl sim_varF (sim_part (sim_op rs_add sim_varF sim_int)) sim_no)) (sima_cons (sim_cb cs_tuple (sima_cons sim_var sima_nil)) (sima_cons sim_varF sima_nil))))))))) wp_without_elder
theorem ok_without_elder (T : Top K mg) : Ok P w K mg base "without_elder" s_without_elder ["case", "number"] [false, false] 3 sp_without_elder := ok_of T.t_without_elder fun _ _ F => fo_without_elder T F
theorem fo_turned_case (T : Top K mg) {f : Addr} {fd : FuncData} (F : Fun K "turned_case" "turned_case" s_turned_case f fd) : FnOk P w K mg base (L2N.CX P w) 1 f fd ["case"] (spOf K [false] sp_turned_case) := by
  refine fn_ok [false] sp_turned_case F sc_turned_case rfl (fun cdv A outer s H E hr => ?_)
  have nd := sc_turned_case.nd
  have hu := hr.units
  have tk : L2N.Takes (cxOf (L2N.CX P w) P w K mg base ["case", "elders", "rules", "new", "kept", "rule", "text"] "turned_case" (defScope s_turned_case) f cdv A outer s H E) (fun cls d _ H => E cls d H) := L2N.takes_of rfl rfl rfl rfl
  exact bd_mk (t := m_turned_case) (pss_cons (ps_asg (pv 0) (pg_tup rfl (pgs_cons (pg_name (i := 1) nd rfl (by first | exact Or.inl rfl | exact Or.inr rfl)) (pgs_cons (pg_name (i := 2) nd rfl (by first | exact Or.inl rfl | exact Or.inr rfl)) (pgs_cons (pg_name (i := 3) nd rfl (by first | exact Or.inl rfl | exact Or.inr rfl)) pgs_nil))))) (pss_cons (ps_set (i := 4) nd rfl (by first | exact Or.inl rfl | exact Or.inr rfl) (pe_callTy call_tuple_of (by rfl) T.n_tuple (by decide +kernel) (pa_cons (pe_lc (own := [("rule", 5)]) (g := (gName 5)) rfl nd (pi_any (pv 2)) (blkOk_by (N := ["case", "elders", "rules", "new", "kept", "rule", "text"]) (sc := defScope s_turned_case) (by decide +kernel)) (fun _ _ _ _ _ => (pg_name (i := 5) nd rfl (by first | exact Or.inl rfl | exact Or.inr rfl))) (fun _ _ _ _ _ => (pts_one (pt_cmpR (op_eqX hu) (pe_ix ix_seq (pv 5) pe_int (fun _ _ => rfl)) pe_str (nomark _)))) (fun _ _ _ _ _ => (pv 5))) pa_nil))) (pss_one (ps_ret (pe_tup (pa_cons (pe_callTy call_tuple_of (by rfl) T.n_tuple (by decide +kernel) (pa_cons (pe_lc (own := [("text", 6)]) (g := (gName 6)) rfl nd (pi_any (pv 1)) (blkOk_by (N := ["case", "elders", "rules", "new", "kept", "rule", "text"]) (sc := defScope s_turned_case) (by decide +kernel)) (fun _ _ _ _ _ => (pg_name (i := 6) nd rfl (by first | exact Or.inl rfl | exact Or.inr rfl))) (fun _ _ _ _ _ => pts_nil) (fun _ _ _ _ _ => (pe_rev (pv 6)))) pa_nil)) (pa_cons (pv 4) (pa_cons (pe_rev (pv 3)) pa_nil)))))))) (ss_cons (ss_asg sim_varF (g_tup [1, 2, 3])) (ss_cons (ss_asg (sim_cb cs_tuple (sima_cons (SimN.fz (simn_lc (simi_any sim_varF) (g_name 5) (simt_test (sim_op rs_eqA (sim_op rs_ix sim_varF sim_int) (sim_str [101, 108, 100, 101, 114] (by decide +kernel) (by decide)))) sim_varF)) sima_nil)) (g_name 4)) (ss_ret (sim_tup 3 (sima_cons (sim_cb cs_tuple (sima_cons (SimN.fz (simn_lc (simi_any sim_varF) (g_name 6) simt_yes (sim_rev sim_varF))) sima_nil)) (sima_cons sim_varF (sima_cons (sim_rev sim_varF) sima_nil))))))) wp_turned_case
theorem ok_turned_case (T : Top K mg) : Ok P w K mg base "turned_case" s_turned_case ["case"] [false] 1 sp_turned_case := ok_of T.t_turned_case fun _ _ F => fo_turned_case T F
theorem fo_elder_case (T : Top K mg) {f : Addr} {fd : FuncData} (F : Fun K "elder_case" "elder_case" s_elder_case f fd) : FnOk P w K mg base (L2N.CX P w) 1 f fd ["case"] (spOf K [false] sp_elder_case) := by
  refine fn_ok [false] sp_elder_case F sc_elder_case rfl (fun cdv A outer s H E hr => ?_)
  have nd := sc_elder_case.nd
  have hu := hr.units
  have tk : L2N.Takes (cxOf (L2N.CX P w) P w K mg base ["case", "rule"] "elder_case" (defScope s_elder_case) f cdv A outer s H E) (fun cls d _ H => E cls d H) := L2N.takes_of rfl rfl rfl rfl
  exact bd_mk (t := m_elder_case) (pss_one (ps_ret (pe_tup (pa_cons (pe_ix ix_seq (pv 0) pe_int (fun _ _ => rfl)) (pa_cons (pe_callTy call_tuple_of (by rfl) T.n_tuple (by decide +kernel) (pa_cons (pe_lc (own := [("rule", 1)]) (g := (gName 1)) rfl nd (pi_any (pe_ix ix_seq (pv 0) pe_int (fun _ _ => rfl))) (blkOk_by (N := ["case", "rule"]) (sc := defScope s_elder_case) (by decide +kernel)) (fun _ _ _ _ _ => (pg_name (i := 1) nd rfl (by first | exact Or.inl rfl | exact Or.inr rfl))) (fun _ _ _ _ _ => (pts_one (pt_cmpR (op_eqX hu) (pe_ix ix_seq (pv 1) pe_int (fun _ _ => rfl)) pe_str (nomark _)))) (fun _ _ _ _ _ => (pv 1))) pa_nil)) (pa_cons (pe_ix ix_seq (pv 0) pe_int (fun _ _ => rfl)) pa_nil)))))) (ss_ret (sim_tup 3 (sima_cons (sim_op rs_ix sim_varF sim_int) (sima_cons (sim_cb cs_tuple (sima_cons (SimN.fz (simn_lc (simi_any (sim_op rs_ix sim_varF sim_int)) (g_name 1) (simt_test (sim_op rs_eqA (sim_op rs_ix sim_varF sim_int) (sim_str [101, 108, 100, 101, 114] (by decide +kernel) (by decide)))) sim_varF)) sima_nil)) (sima_cons (sim_op rs_ix sim_varF sim_int) sima_nil))))) wp_elder_case
theorem ok_elder_case (T : Top K mg) : Ok P w K mg base "elder_case" s_elder_case ["case"] [false] 1 sp_elder_case := ok_of T.t_elder_case fun _ _ F => fo_elder_case T F
theorem fo_part_case (T : Top K mg) {f : Addr} {fd : FuncData} (F : Fun K "part_case" "part_case" s_part_case f fd) : FnOk P w K mg base (L2N.CX P w) 2 f fd ["case", "stretch"] (spOf K [false, false] sp_part_case) := by
  obtain ⟨f_elder_case, fd_elder_case, G_elder_case⟩ := ok_elder_case (P := P) (w := w) (base := base) T
  refine fn_ok [false, false] sp_part_case F sc_part_case rfl (fun cdv A outer s H E hr => ?_)
  have nd := sc_part_case.nd
  have hu := hr.units
  have tk : L2N.Takes (cxOf (L2N.CX P w) P w K mg base ["case", "stretch", "elders", "rules", "new"] "part_case" (defScope s_part_case) f cdv A outer s H E) (fun cls d _ H => E cls d H) := L2N.takes_of rfl rfl rfl rfl
  exact bd_mk (t := m_part_case) (pss_cons (ps_asg (pe_callS G_elder_case.2.2.2.2 (hr.mono (by first | decide | omega)) rfl G_elder_case.1 G_elder_case.2.1 G_elder_case.2.2.1 (fun σ => L2N.passAt tk σ) (pa_cons (pv 0) pa_nil)) (pg_tup rfl (pgs_cons (pg_name (i := 2) nd rfl (by first | exact Or.inl rfl | exact Or.inr rfl)) (pgs_cons (pg_name (i := 3) nd rfl (by first | exact Or.inl rfl | exact Or.inr rfl)) (pgs_cons (pg_name (i := 4) nd rfl (by first | exact Or.inl rfl | exact Or.inr rfl)) pgs_nil))))) (pss_one (ps_ret (pe_tup (pa_cons (pv 2) (pa_cons (pv 3) (pa_cons (pe_slice sl_any (pv 4) (po_some (pe_ix ix_seq (pv 1) pe_int (fun _ _ => rfl))) (po_some (pe_ix ix_seq (pv 1) pe_int (fun _ _ => rfl)))) pa_nil))))))) (ss_cons (ss_asg (sim_call0 (sima_cons sim_varF sima_nil)) (g_tup [2, 3, 4])) (ss_ret (sim_tup 3 (sima_cons sim_varF (sima_cons sim_varF (sima_cons (sim_sl sim_varF (sim_part (sim_op rs_ix sim_varF sim_int)) (sim_part (sim_op rs_ix sim_varF sim_int))) sima_nil)))))) wp_part_case
theorem ok_part_case (T : Top K mg) : Ok P w K mg base "part_case" s_part_case ["case", "stretch"] [false, false] 2 sp_part_case := ok_of T.t_part_case fun _ _ F => fo_part_case T F
theorem fo_appended_case (T : Top K mg) {f : Addr} {fd : FuncData} (F : Fun K "appended_case" "appended_case" s_appended_case f fd) : FnOk P w K mg base (L2N.CX P w) 3 f fd ["case", "text"] (spOf K [false, false] sp_appended_case) := by
  obtain ⟨C_BadCall, fI_BadCall, fd_BadCall, gm_BadCall, ox_BadCall, gx_BadCall, iC_BadCall, tI_BadCall, F_BadCall, b_BadCall⟩ := xok_BadCall (P := P) (w := w) (base := base) T
  obtain ⟨t_MOST_SIGNS, gm_MOST_SIGNS⟩ := T.c_MOST_SIGNS
  refine fn_ok [false, false] sp_appended_case F sc_appended_case rfl (fun cdv A outer s H E hr => ?_)
  have nd := sc_appended_case.nd
  have hu := hr.units
  have tk : L2N.Takes (cxOf (L2N.CX P w) P w K mg base ["case", "text"] "appended_case" (defScope s_appended_case) f cdv A outer s H E) (fun cls d _ H => E cls d H) := L2N.takes_of rfl rfl rfl rfl
  exact bd_mk (t := m_appended_case) (pss_cons (ps_if (pt_cmpR (op_gtA) (pe_op op_addA (pe_callB call_lenA (by rfl) T.n_len PySem.boot_len (pa_cons (pe_ix ix_seq (pv 0) pe_int (fun _ _ => rfl)) pa_nil)) (pe_callB call_lenA (by rfl) T.n_len PySem.boot_len (pa_cons (pv 1) pa_nil))) (pe_glob (v := .int 300) rfl gm_MOST_SIGNS ⟨_, rfl⟩) (nomark _)) (pss_one (L2N.ps_raise rfl tk (pmk_oexN ox_BadCall iC_BadCall tI_BadCall F_BadCall (hr.mono (by first | decide | omega)) b_BadCall passF rfl gm_BadCall (pa_cons pe_str pa_nil)))) pss_nil) (pss_one (ps_ret (pe_tup (pa_cons (pe_ix ix_seq (pv 0) pe_int (fun _ _ => rfl)) (pa_cons (pe_ix ix_seq (pv 0) pe_int (fun _ _ => rfl)) (pa_cons (pe_op op_addA (pe_ix ix_seq (pv 0) pe_int (fun _ _ => rfl)) (pv 1)) pa_nil))))))) (ss_cons (ss_if (simt_test (sim_op rs_gt (sim_op rs_add (sim_cb cs_len (sima_cons (sim_op rs_ix sim_varF sim_int) sima_nil)) (sim_cb cs_len (sima_cons sim_varF sima_nil))) sim_int)) (ss_raise1 ox_BadCall gx_BadCall (sima_cons (sim_str [108, 111, 110, 103] (by decide +kernel) (by decide)) sima_nil)) ss_nil) (ss_ret (sim_tup 3 (sima_cons (sim_op rs_ix sim_varF sim_int) (sima_cons (sim_op rs_ix sim_varF sim_int) (sima_cons (sim_op rs_add (sim_op rs_ix sim_varF sim_int) sim_varF) sima_nil)))))) wp_appended_case
theorem ok_appended_case (T : Top K mg) : Ok P w K mg base "appended_case" s_appended_case ["case", "text"] [false, false] 3 sp_appended_case := ok_of T.t_appended_case fun _ _ F => fo_appended_case T F
theorem fo_edited_case (T : Top K mg) {f : Addr} {fd : FuncData} (F : Fun K "edited_case" "edited_case" s_edited_case f fd) : FnOk P w K mg base (L2N.CX P w) 5 f fd ["case", "stretch", "part"] (spOf K [false, false, false] sp_edited_case) := by
  obtain ⟨f_spliced, fd_spliced, G_spliced⟩ := ok_spliced (P := P) (w := w) (base := base) T
  refine fn_ok [false, false, false] sp_edited_case F sc_edited_case rfl (fun cdv A outer s H E hr => ?_)
  have nd := sc_edited_case.nd
  have hu := hr.units
  have tk : L2N.Takes (cxOf (L2N.CX P w) P w K mg base ["case", "stretch", "part"] "edited_case" (defScope s_edited_case) f cdv A outer s H E) (fun cls d _ H => E cls d H) := L2N.takes_of rfl rfl rfl rfl
  exact bd_mk (t := m_edited_case) (pss_one (ps_ret (pe_tup (pa_cons (pe_ix ix_seq (pv 0) pe_int (fun _ _ => rfl)) (pa_cons (pe_ix ix_seq (pv 0) pe_int (fun _ _ => rfl)) (pa_cons (pe_callS G_spliced.2.2.2.2 (hr.mono (by first | decide | omega)) rfl G_spliced.1 G_spliced.2.1 G_spliced.2.2.1 (fun σ => L2N.passAt tk σ) (pa_cons (pe_ix ix_seq (pv 0) pe_int (fun _ _ => rfl)) (pa_cons (pv 1) (pa_cons (pv 2) pa_nil)))) pa_nil)))))) (ss_ret (sim_tup 3 (sima_cons (sim_op rs_ix sim_varF sim_int) (sima_cons (sim_op rs_ix sim_varF sim_int) (sima_cons (sim_call0 (sima_cons (sim_op rs_ix sim_varF sim_int) (sima_cons sim_varF (sima_cons sim_varF sima_nil)))) sima_nil))))) wp_edited_case
theorem ok_edited_case (T : Top K mg) : Ok P w K mg base "edited_case" s_edited_case ["case", "stretch", "part"] [false, false, false] 5 sp_edited_case := ok_of T.t_edited_case fun _ _ F => fo_edited_case T F
theorem fo_edit_effect (T : Top K mg) {f : Addr} {fd : FuncData} (F : Fun K "edit_effect" "edit_effect" s_edit_effect f fd) : FnOk P w K mg base (L2N.CX P w) 9 f fd ["case", "stretch", "part"] (spOf K [false, false, false] sp_edit_effect) := by
  obtain ⟨f_piece_count, fd_piece_count, G_piece_count⟩ := ok_piece_count (P := P) (w := w) (base := base) T
  obtain ⟨f_edited_case, fd_edited_case, G_edited_case⟩ := ok_edited_case (P := P) (w := w) (base := base) T
  refine fn_ok [false, false, false] sp_edit_effect F sc_edit_effect rfl (fun cdv A outer s H E hr => ?_)
  have nd := sc_edit_effect.nd
  have hu := hr.units
  have tk : L2N.Takes (cxOf (L2N.CX P w) P w K mg base ["case", "stretch", "part"] "edit_effect" (defScope s_edit_effect) f cdv A outer s H E) (fun cls d _ H => E cls d H) := L2N.takes_of rfl rfl rfl rfl
  exact bd_mk (t := m_edit_effect) (pss_one (ps_ret (pe_op op_sub (pe_callS G_piece_count.2.2.2.2 (hr.mono (by first | decide | omega)) rfl G_piece_count.1 G_piece_count.2.1 G_piece_count.2.2.1 (fun σ => L2N.passAt tk σ) (pa_cons (pe_callS G_edited_case.2.2.2.2 (hr.mono (by first | decide | omega)) rfl G_edited_case.1 G_edited_case.2.1 G_edited_case.2.2.1 (fun σ => L2N.passAt tk σ) (pa_cons (pv 0) (pa_cons (pv 1) (pa_cons (pv 2) pa_nil)))) pa_nil)) (pe_callS G_piece_count.2.2.2.2 (hr.mono (by first | decide | omega)) rfl G_piece_count.1 G_piece_count.2.1 G_piece_count.2.2.1 (fun σ => L2N.passAt tk σ) (pa_cons (pv 0) pa_nil))))) (ss_ret (sim_op rs_sub (sim_call0 (sima_cons (sim_call0 (sima_cons sim_varF (sima_cons sim_varF (sima_cons sim_varF sima_nil)))) sima_nil)) (sim_call0 (sima_cons sim_varF sima_nil)))) wp_edit_effect
theorem ok_edit_effect (T : Top K mg) : Ok P w K mg base "edit_effect" s_edit_effect ["case", "stretch", "part"] [false, false, false] 9 sp_edit_effect := ok_of T.t_edit_effect fun _ _ F => fo_edit_effect T F
theorem fo_append_effect (T : Top K mg) {f : Addr} {fd : FuncData} (F : Fun K "append_effect" "append_effect" s_append_effect f fd) : FnOk P w K mg base (L2N.CX P w) 9 f fd ["case", "text"] (spOf K [false, false] sp_append_effect) := by
  obtain ⟨f_piece_count, fd_piece_count, G_piece_count⟩ := ok_piece_count (P := P) (w := w) (base := base) T
  obtain ⟨f_appended_case, fd_appended_case, G_appended_case⟩ := ok_appended_case (P := P) (w := w) (base := base) T
  refine fn_ok [false, false] sp_append_effect F sc_append_effect rfl (fun cdv A outer s H E hr => ?_)
  have nd := sc_append_effect.nd
  have hu := hr.units
  have tk : L2N.Takes (cxOf (L2N.CX P w) P w K mg base ["case", "text"] "append_effect" (defScope s_append_effect) f cdv A outer s H E) (fun cls d _ H => E cls d H) := L2N.takes_of rfl rfl rfl rfl
  exact bd_mk (t := m_append_effect) (pss_one (ps_ret (pe_op op_sub (pe_callS G_piece_count.2.2.2.2 (hr.mono (by first | decide | omega)) rfl G_piece_count.1 G_piece_count.2.1 G_piece_count.2.2.1 (fun σ => L2N.passAt tk σ) (pa_cons (pe_callS G_appended_case.2.2.2.2 (hr.mono (by first | decide | omega)) rfl G_appended_case.1 G_appended_case.2.1 G_appended_case.2.2.1 (fun σ => L2N.passAt tk σ) (pa_cons (pv 0) (pa_cons (pv 1) pa_nil))) pa_nil)) (pe_callS G_piece_count.2.2.2.2 (hr.mono (by first | decide | omega)) rfl G_piece_count.1 G_piece_count.2.1 G_piece_count.2.2.1 (fun σ => L2N.passAt tk σ) (pa_cons (pv 0) pa_nil))))) (ss_ret (sim_op rs_sub (sim_call0 (sima_cons (sim_call0 (sima_cons sim_varF (sima_cons sim_varF sima_nil))) sima_nil)) (sim_call0 (sima_cons sim_varF sima_nil)))) wp_append_effect
theorem ok_append_effect (T : Top K mg) : Ok P w K mg base "append_effect" s_append_effect ["case", "text"] [false, false] 9 sp_append_effect := ok_of T.t_append_effect fun _ _ F => fo_append_effect T F
theorem fo_back_case (T : Top K mg) {f : Addr} {fd : FuncData} (F : Fun K "back_case" "back_case" s_back_case f fd) : FnOk P w K mg base (L2N.CX P w) 3 f fd ["case", "number"] (spOf K [false, false] sp_back_case) := by
  obtain ⟨C_NoSuch, fI_NoSuch, fd_NoSuch, gm_NoSuch, ox_NoSuch, gx_NoSuch, iC_NoSuch, tI_NoSuch, F_NoSuch, b_NoSuch⟩ := xok_NoSuch (P := P) (w := w) (base := base) T
  obtain ⟨t_MOST_SIGNS, gm_MOST_SIGNS⟩ := T.c_MOST_SIGNS
  refine fn_ok [false, false] sp_back_case F sc_back_case rfl (fun cdv A outer s H E hr => ?_)
  have nd := sc_back_case.nd
  have hu := hr.units
  have tk : L2N.Takes (cxOf (L2N.CX P w) P w K mg base ["case", "number", "rules"] "back_case" (defScope s_back_case) f cdv A outer s H E) (fun cls d _ H => E cls d H) := L2N.takes_of rfl rfl rfl rfl
  exact bd_mk (t := m_back_case) (pss_cons (ps_if (PW.pt (pw_or (pt_val (pe_callB call_isi (by rfl) T.n_isinstance (by decide +kernel) (pa_cons (pv 1) (pa_cons (pe_bltn (v := .ty "bool") (by rfl) T.n_bool (by decide +kernel) rfl) pa_nil)))) (pw_or (pt_not (pt_val (pe_callB call_isi (by rfl) T.n_isinstance (by decide +kernel) (pa_cons (pv 1) (pa_cons (pe_bltn (v := .ty "int") (by rfl) T.n_int (by decide +kernel) rfl) pa_nil))))) (pw_or1 (pt_not (pt_chain (op_leA) (op_ltA) pe_int (pv 1) (pe_callB call_lenA (by rfl) T.n_len PySem.boot_len (pa_cons (pe_ix ix_seq (pv 0) pe_int (fun _ _ => rfl)) pa_nil)))))))) (pss_one (L2N.ps_raise rfl tk (pmk_oexN ox_NoSuch iC_NoSuch tI_NoSuch F_NoSuch (hr.mono (by first | decide | omega)) b_NoSuch passF rfl gm_NoSuch (pa_cons pe_str (pa_cons (pv 1) pa_nil))))) pss_nil) (pss_cons (ps_set (i := 2) nd rfl (by first | exact Or.inl rfl | exact Or.inr rfl) (pe_tup (pa_cons (pe_tup (pa_cons pe_str (pa_cons pe_int (pa_cons pe_bl (pa_cons (pe_glob (v := .int 300) rfl gm_MOST_SIGNS ⟨_, rfl⟩) pa_nil))))) (pa_cons (pe_tup (pa_cons pe_str (pa_cons pe_int (pa_cons pe_bl (pa_cons (pe_glob (v := .int 300) rfl gm_MOST_SIGNS ⟨_, rfl⟩) pa_nil))))) pa_nil)))) (pss_one (ps_ret (pe_tup (pa_cons (pe_tup (pa_cons (pe_ix ix_seq (pv 0) pe_int (fun _ _ => rfl)) pa_nil)) (pa_cons (pv 2) (pa_cons (pe_ix ix_seq (pe_ix ix_seq (pv 0) pe_int (fun _ _ => rfl)) (pv 1) (fun _ _ => rfl)) pa_nil)))))))) (ss_cons (ss_if (simt_or (simt_B (sim_isi .bool sim_varF)) (simt_or (simt_not (simt_B (sim_isi .int sim_varF))) (simt_not (simt_test (sim_chain rs_le rs_lt sim_int sim_varF (sim_cb cs_len (sima_cons (sim_op rs_ix sim_varF sim_int) sima_nil))))))) (ss_raise2 ox_NoSuch gx_NoSuch (sima_cons (sim_str [101, 108, 100, 101, 114] (by decide +kernel) (by decide)) (sima_cons sim_varF sima_nil))) ss_nil) (ss_cons (ss_asg (sim_tup 2 (sima_cons (sim_tup 4 (sima_cons (sim_str [101, 108, 100, 101, 114] (by decide +kernel) (by decide)) (sima_cons sim_int (sima_cons sim_bl (sima_cons sim_int sima_nil))))) (sima_cons (sim_tup 4 (sima_cons (sim_str [101, 108, 100, 101, 114] (by decide +kernel) (by decide)) (sima_cons sim_int (sima_cons sim_bl (sima_cons sim_int sima_nil))))) sima_nil))) (g_name 2)) (ss_ret (sim_tup 3 (sima_cons (sim_tup 1 (sima_cons (sim_op rs_ix sim_varF sim_int) sima_nil)) (sima_cons sim_varF (sima_cons (sim_op rs_ix (sim_op rs_ix sim_varF sim_int) sim_varF) sima_nil))))))) wp_back_case
theorem ok_back_case (T : Top K mg) : Ok P w K mg base "back_case" s_back_case ["case", "number"] [false, false] 3 sp_back_case := ok_of T.t_back_case fun _ _ F => fo_back_case T F
theorem fo__law_tub (T : Top K mg) {f : Addr} {fd : FuncData} (F : Fun K "_law_tub" "_law_tub" s__law_tub f fd) : FnOk P w K mg base (L2N.CX P w) 1 f fd ["script"] (spOf K [false] sp__law_tub) := by
  refine fn_ok [false] sp__law_tub F sc__law_tub rfl (fun cdv A outer s H E hr => ?_)
  have nd := sc__law_tub.nd
  have hu := hr.units
  have tk : L2N.Takes (cxOf (L2N.CX P w) P w K mg base ["script", "figures", "cell", "size", "one", "other", "figure"] "_law_tub" (defScope s__law_tub) f cdv A outer s H E) (fun cls d _ H => E cls d H) := L2N.takes_of rfl rfl rfl rfl
  exact bd_mk (t := m__law_tub) (pss_cons (ps_set (i := 1) nd rfl (by first | exact Or.inl rfl | exact Or.inr rfl) (pe_lst pa_nil)) (pss_cons (ps_for (passes_of rfl) rfl (pi_any (pv 0)) (pg_name (i := 2) nd rfl (by first | exact Or.inl rfl | exact Or.inr rfl)) (pss_cons (ps_set (i := 3) nd rfl (by first | exact Or.inl rfl | exact Or.inr rfl) (pe_op op_addA (pe_op op_mulA pe_int (pe_callB call_abs (by rfl) T.n_abs (by decide +kernel) (pa_cons (pe_callTy call_int1 (by rfl) T.n_int (by decide +kernel) (pa_cons (pv 2) pa_nil)) pa_nil))) (pe_callTy call_int1 (by rfl) T.n_int (by decide +kernel) (pa_cons (pe_cmpR (op_ltA) (pe_callTy call_int1 (by rfl) T.n_int (by decide +kernel) (pa_cons (pv 2) pa_nil)) pe_int (nomark _)) pa_nil)))) (pss_cons (ps_expr (pe_bm PySem.F.plainAttrs_list PySem.F.slot_list_append PySem.F.type_list_append mt_append (pv 1) (pa_cons (pe_op op_modN (pe_callTy call_int1 (by rfl) T.n_int (by decide +kernel) (pa_cons (pv 3) pa_nil)) pe_int) pa_nil))) (pss_cons (ps_set (i := 3) nd rfl (by first | exact Or.inl rfl | exact Or.inr rfl) (pe_op op_fdivW (pv 3) pe_int)) (pss_cons (ps_while (passes_of rfl) (PW.pt (pw_and (pt_cmpR (op_gtA) (pv 3) pe_int (nomark _)) (pw_and1 (pt_cmpR (op_ltA) (pe_callB call_lenA (by rfl) T.n_len PySem.boot_len (pa_cons (pv 1) pa_nil)) pe_int (nomark _))))) (pss_cons (ps_expr (pe_bm PySem.F.plainAttrs_list PySem.F.slot_list_append PySem.F.type_list_append mt_append (pv 1) (pa_cons (pe_op op_modN (pe_callTy call_int1 (by rfl) T.n_int (by decide +kernel) (pa_cons (pv 3) pa_nil)) pe_int) pa_nil))) (pss_one (ps_set (i := 3) nd rfl (by first | exact Or.inl rfl | exact Or.inr rfl) (pe_op op_fdivW (pv 3) pe_int))))) (pss_one (ps_if (pt_cmpR (op_geA) (pe_callB call_lenA (by rfl) T.n_len PySem.boot_len (pa_cons (pv 1) pa_nil)) pe_int (nomark _)) (pss_one ps_break) pss_nil))))))) (pss_cons (ps_if (pt_cmpR (op_eqX hu) (pe_callB call_lenA (by rfl) T.n_len PySem.boot_len (pa_cons (pv 1) pa_nil)) pe_int (nomark _)) (pss_one (ps_expr (pe_bm PySem.F.plainAttrs_list PySem.F.slot_list_append PySem.F.type_list_append mt_append (pv 1) (pa_cons pe_int pa_nil)))) pss_nil) (pss_cons (ps_set (i := 4) nd rfl (by first | exact Or.inl rfl | exact Or.inr rfl) pe_int) (pss_cons (ps_set (i := 5) nd rfl (by first | exact Or.inl rfl | exact Or.inr rfl) pe_int) (pss_cons (ps_for (passes_of rfl) rfl (pi_any (pv 1)) (pg_name (i := 6) nd rfl (by first | exact Or.inl rfl | exact Or.inr rfl)) (pss_cons (ps_set (i := 4) nd rfl (by first | exact Or.inl rfl | exact Or.inr rfl) (pe_op op_modN (pe_callTy call_int1 (by rfl) T.n_int (by decide +kernel) (pa_cons (pe_op op_addA (pe_op op_addA (pe_op op_mulA (pv 4) pe_int) (pv 6)) pe_int) pa_nil)) pe_int)) (pss_one (ps_set (i := 5) nd rfl (by first | exact Or.inl rfl | exact Or.inr rfl) (pe_op op_modN (pe_callTy call_int1 (by rfl) T.n_int (by decide +kernel) (pa_cons (pe_op op_addA (pe_op op_addA (pe_op op_mulA (pv 5) pe_int) (pe_op op_mulA (pv 6) (pv 6))) pe_int) pa_nil)) pe_int))))) (pss_one (ps_ret (pe_op op_addA (pe_lst (pa_cons pe_int (pa_cons (pv 4) (pa_cons (pv 5) pa_nil)))) (pv 1)))))))))) (ss_cons (ss_setM (i := 1) (simn_lst 0 sima_nil)) (ss_cons (ss_for (simi_any sim_varF) (g_name 2) (ss_cons (ss_asg (sim_op rs_add (sim_op rs_mul sim_int (sim_cb cs_I1 (sima_cons (sim_cb cs_int (sima_cons sim_varF sima_nil)) sima_nil))) (sim_cb cs_int (sima_cons (sim_op rs_lt (sim_cb cs_int (sima_cons sim_varF sima_nil)) sim_int) sima_nil))) (g_name 3)) (ss_cons (ss_append (sim_op rs_mod (sim_cb cs_int (sima_cons sim_varF sima_nil)) sim_int)) (ss_cons (ss_asg (sim_op rs_div sim_varF sim_int) (g_name 3)) (ss_cons (ss_while (simt_and (simt_test (sim_op rs_gt sim_varF sim_int)) (simt_test (sim_op rs_lt (sim_cb cs_len (sima_cons sim_var sima_nil)) sim_int))) (ss_cons (ss_append (sim_op rs_mod (sim_cb cs_int (sima_cons sim_varF sima_nil)) sim_int)) (ss_asg (sim_op rs_div sim_varF sim_int) (g_name 3)))) (ss_if (simt_test (sim_op rs_ge (sim_cb cs_len (sima_cons sim_var sima_nil)) sim_int)) ss_brk ss_nil)))))) (ss_cut (ss_if (simt_test (sim_op rs_eqA (sim_cb cs_len (sima_cons sim_var sima_nil)) sim_int)) (ss_append sim_int) ss_nil) (ss_cons (ss_asg sim_int (g_name 4)) (ss_cut (ss_asg sim_int (g_name 5)) (ss_cons (ss_for (simi_any sim_keep) (g_name 6) (ss_cons (ss_asg (sim_op rs_mod (sim_cb cs_int (sima_cons (sim_op rs_add (sim_op rs_add (sim_op rs_mul sim_varF sim_int) sim_varF) sim_int) sima_nil)) sim_int) (g_name 4)) (ss_asg (sim_op rs_mod (sim_cb cs_int (sima_cons (sim_op rs_add (sim_op rs_add (sim_op rs_mul sim_varF sim_int) (sim_op rs_mul sim_varF sim_varF)) sim_int) sima_nil)) sim_int) (g_name 5)))) (ss_retW (SimN.own (simn_cat (sim_lst 3 (sima_cons sim_int (sima_cons sim_varF (sima_cons sim_varF sima_nil)))) sim_keep))))))))) wp__law_tub
theorem ok__law_tub (T : Top K mg) : Ok P w K mg base "_law_tub" s__law_tub ["script"] [false] 1 sp__law_tub := ok_of T.t__law_tub fun _ _ F => fo__law_tub T F
theorem fo__law_dip (T : Top K mg) {f : Addr} {fd : FuncData} (F : Fun K "_law_dip" "_law_dip" s__law_dip f fd) : FnOk P w K mg base (L2N.CX P w) 1 f fd ["tub", "many"] (spOf K [true, false] sp__law_dip) := by
  refine fn_ok [true, false] sp__law_dip F sc__law_dip rfl (fun cdv A outer s H E hr => ?_)
  have nd := sc__law_dip.nd
  have hu := hr.units
  have tk : L2N.Takes (cxOf (L2N.CX P w) P w K mg base ["tub", "many", "turn", "figure", "mixed"] "_law_dip" (defScope s__law_dip) f cdv A outer s H E) (fun cls d _ H => E cls d H) := L2N.takes_of rfl rfl rfl rfl
  exact bd_mk (t := m__law_dip) (pss_cons (ps_set (i := 2) nd rfl (by first | exact Or.inl rfl | exact Or.inr rfl) (pe_callTy call_int1 (by rfl) T.n_int (by decide +kernel) (pa_cons (pe_ix ix_seq (pv 0) pe_int (fun _ _ => rfl)) pa_nil))) (pss_cons (ps_asg (pe_op op_addA (pv 2) pe_int) (pg_sub (pv 0) pe_int set_list)) (pss_cons (ps_set (i := 3) nd rfl (by first | exact Or.inl rfl | exact Or.inr rfl) (pe_callTy call_int1 (by rfl) T.n_int (by decide +kernel) (pa_cons (pe_ix ix_seq (pv 0) (pe_op op_addA pe_int (pe_op op_modN (pv 2) (pe_op op_sub (pe_callB call_lenA (by rfl) T.n_len PySem.boot_len (pa_cons (pv 0) pa_nil)) pe_int))) (fun _ _ => rfl)) pa_nil))) (pss_cons (ps_set (i := 4) nd rfl (by first | exact Or.inl rfl | exact Or.inr rfl) (pe_op op_addA (pe_op op_mulA (pe_op op_addA (pe_callTy call_int1 (by rfl) T.n_int (by decide +kernel) (pa_cons (pe_ix ix_seq (pv 0) pe_int (fun _ _ => rfl)) pa_nil)) (pe_op op_mulA pe_int (pv 2))) (pe_op op_addA (pe_callTy call_int1 (by rfl) T.n_int (by decide +kernel) (pa_cons (pe_ix ix_seq (pv 0) pe_int (fun _ _ => rfl)) pa_nil)) (pe_op op_mulA (pv 2) (pv 2)))) (pe_op op_mulA (pv 3) (pe_op op_addA (pv 2) pe_int)))) (pss_cons (ps_set (i := 4) nd rfl (by first | exact Or.inl rfl | exact Or.inr rfl) (pe_op op_modN (pe_callTy call_int1 (by rfl) T.n_int (by decide +kernel) (pa_cons (pv 4) pa_nil)) pe_int)) (pss_one (ps_ret (pe_op op_modN (pe_op op_fdivW (pe_op op_modN (pe_callTy call_int1 (by rfl) T.n_int (by decide +kernel) (pa_cons (pe_op op_mulA (pv 4) (pv 4)) pa_nil)) pe_int) pe_int) (pv 1))))))))) (ss_cons (ss_asg (sim_cb cs_int (sima_cons (sim_op rs_ix sim_var sim_int) sima_nil)) (g_name 2)) (ss_cons (ss_setIx (sim_op rs_add sim_varF sim_int) sim_int) (ss_cut (ss_asg (sim_cb cs_int (sima_cons (sim_op rs_ix sim_var (sim_op rs_add sim_int (sim_op rs_mod sim_varF (sim_op rs_sub (sim_cb cs_len (sima_cons sim_var sima_nil)) sim_int)))) sima_nil)) (g_name 3)) (ss_cons (ss_asg (sim_op rs_add (sim_op rs_mul (sim_op rs_add (sim_cb cs_int (sima_cons (sim_op rs_ix sim_var sim_int) sima_nil)) (sim_op rs_mul sim_int sim_varF)) (sim_op rs_add (sim_cb cs_int (sima_cons (sim_op rs_ix sim_var sim_int) sima_nil)) (sim_op rs_mul sim_varF sim_varF))) (sim_op rs_mul sim_varF (sim_op rs_add sim_varF sim_int))) (g_name 4)) (ss_cons (ss_asg (sim_op rs_mod (sim_cb cs_int (sima_cons sim_varF sima_nil)) sim_int) (g_name 4)) (ss_ret (sim_op rs_mod (sim_op rs_div (sim_op rs_mod (sim_cb cs_int (sima_cons (sim_op rs_mul sim_varF sim_varF) sima_nil)) sim_int) sim_int) sim_varF))))))) wp__law_dip
theorem ok__law_dip (T : Top K mg) : Ok P w K mg base "_law_dip" s__law_dip ["tub", "many"] [true, false] 1 sp__law_dip := ok_of T.t__law_dip fun _ _ F => fo__law_dip T F
theorem fo__law_same (T : Top K mg) (rc sp : FS) (k : Nat) (hk : 0 ≤ k) (hwp : WpOk [false, false] 1 sp (m__law_same rc)) (G_rc : Ok P w K mg base "_law_same" s__law_same ["told", "due"] [false, false] k rc) {f : Addr} {fd : FuncData} (F : Fun K "_law_same" "_law_same" s__law_same f fd) : FnOk P w K mg base (L2N.CX P w) (k + 1) f fd ["told", "due"] (spOf K [false, false] sp) := by
  obtain ⟨f__law_same, fd__law_same, G__law_same⟩ := G_rc
  refine fn_ok [false, false] sp F sc__law_same rfl (fun cdv A outer s H E hr => ?_)
  have nd := sc__law_same.nd
  have hu := hr.units
  have tk : L2N.Takes (cxOf (L2N.CX P w) P w K mg base ["told", "due", "k"] "_law_same" (defScope s__law_same) f cdv A outer s H E) (fun cls d _ H => E cls d H) := L2N.takes_of rfl rfl rfl rfl
  exact bd_mk (t := m__law_same rc) (pss_cons (ps_if (pt_cmpR op_isN (pv 1) pe_non (nomark _)) (pss_one (ps_ret (pe_cmpR op_isN (pv 0) pe_non (nomark _)))) pss_nil) (pss_cons (ps_if (pt_val (pe_callB call_isi (by rfl) T.n_isinstance (by decide +kernel) (pa_cons (pv 1) (pa_cons (pe_bltn (v := .ty "bool") (by rfl) T.n_bool (by decide +kernel) rfl) pa_nil)))) (pss_one (ps_ret (pe_and (pe_callB call_isi (by rfl) T.n_isinstance (by decide +kernel) (pa_cons (pv 0) (pa_cons (pe_bltn (v := .ty "bool") (by rfl) T.n_bool (by decide +kernel) rfl) pa_nil))) (pe_one (pe_cmpR (op_eqX hu) (pv 0) (pv 1) (nomark _)))))) pss_nil) (pss_cons (ps_if (pt_val (pe_callB call_isi (by rfl) T.n_isinstance (by decide +kernel) (pa_cons (pv 1) (pa_cons (pe_bltn (v := .ty "int") (by rfl) T.n_int (by decide +kernel) rfl) pa_nil)))) (pss_one (ps_ret (pe_and (pe_callB call_isi (by rfl) T.n_isinstance (by decide +kernel) (pa_cons (pv 0) (pa_cons (pe_bltn (v := .ty "int") (by rfl) T.n_int (by decide +kernel) rfl) pa_nil))) (pe_and (pe_not (pe_callB call_isi (by rfl) T.n_isinstance (by decide +kernel) (pa_cons (pv 0) (pa_cons (pe_bltn (v := .ty "bool") (by rfl) T.n_bool (by decide +kernel) rfl) pa_nil)))) (pe_one (pe_cmpR (op_eqX hu) (pv 0) (pv 1) (nomark _))))))) pss_nil) (pss_cons (ps_if (pt_val (pe_callB call_isi (by rfl) T.n_isinstance (by decide +kernel) (pa_cons (pv 1) (pa_cons (pe_bltn (v := .ty "str") (by rfl) T.n_str (by decide +kernel) rfl) pa_nil)))) (pss_one (ps_ret (pe_and (pe_callB call_isi (by rfl) T.n_isinstance (by decide +kernel) (pa_cons (pv 0) (pa_cons (pe_bltn (v := .ty "str") (by rfl) T.n_str (by decide +kernel) rfl) pa_nil))) (pe_one (pe_cmpR (op_eqX hu) (pv 0) (pv 1) (nomark _)))))) pss_nil) (pss_cons (ps_if (PW.pt (pw_or (pt_not (pt_val (pe_callB call_isi (by rfl) T.n_isinstance (by decide +kernel) (pa_cons (pv 0) (pa_cons (pe_bltn (v := .ty "tuple") (by rfl) T.n_tuple (by decide +kernel) rfl) pa_nil))))) (pw_or1 (pt_not (pt_cmpR (op_eqX hu) (pe_callB call_lenA (by rfl) T.n_len PySem.boot_len (pa_cons (pv 0) pa_nil)) (pe_callB call_lenA (by rfl) T.n_len PySem.boot_len (pa_cons (pv 1) pa_nil)) (nomark _)))))) (pss_one (ps_ret pe_bl)) pss_nil) (pss_cons (ps_for (passes_of rfl) rfl (pi_range1 rfl T.n_range (pa_cons (pe_callB call_lenA (by rfl) T.n_len PySem.boot_len (pa_cons (pv 1) pa_nil)) pa_nil)) (pg_name (i := 2) nd rfl (by first | exact Or.inl rfl | exact Or.inr rfl)) (pss_one (ps_if (pt_not (pt_val (pe_callS G__law_same.2.2.2.2 (hr.mono (by first | decide | omega)) rfl G__law_same.1 G__law_same.2.1 G__law_same.2.2.1 (fun σ => L2N.passAt tk σ) (pa_cons (pe_ix ix_seq (pv 0) (pv 2) (fun _ _ => rfl)) (pa_cons (pe_ix ix_seq (pv 1) (pv 2) (fun _ _ => rfl)) pa_nil))))) (pss_one (ps_ret pe_bl)) pss_nil))) (pss_one (ps_ret pe_bl)))))))) (ss_cons (ss_if (simt_test (sim_op rs_isN sim_varF sim_non)) (ss_ret (sim_op rs_isN sim_varF sim_non)) ss_nil) (ss_cons (ss_if (simt_B (sim_isi .bool sim_varF)) (ss_ret (sim_andV (sim_isi .bool sim_varF) (sim_op rs_eqA sim_varF sim_varF))) ss_nil) (ss_cons (ss_if (simt_B (sim_isi .int sim_varF)) (ss_ret (sim_andV (sim_isi .int sim_varF) (sim_andV (sim_notV (sim_isi .bool sim_varF)) (sim_op rs_eqA sim_varF sim_varF)))) ss_nil) (ss_cons (ss_if (simt_B (sim_isi .str sim_varF)) (ss_ret (sim_andV (sim_isi .str sim_varF) (sim_op rs_eqA sim_varF sim_varF))) ss_nil) (ss_cons (ss_if (simt_or (simt_not (simt_B (sim_isi .tup sim_varF))) (simt_not (simt_test (sim_op rs_eqA (sim_cb cs_len (sima_cons sim_varF sima_nil)) (sim_cb cs_len (sima_cons sim_varF sima_nil)))))) (ss_ret sim_bl) ss_nil) (ss_cons (ss_for (simi_rng1 (sim_cb cs_len (sima_cons sim_varF sima_nil))) (g_name 2) (ss_if (simt_not (simt_B (sim_call0 (sima_cons (sim_op rs_ix sim_varF sim_varF) (sima_cons (sim_op rs_ix sim_varF sim_varF) sima_nil))))) (ss_ret sim_bl) ss_nil)) (ss_ret sim_bl))))))) hwp
theorem okn__law_same (T : Top K mg) : ∀ n, Ok P w K mg base "_law_same" s__law_same ["told", "due"] [false, false] (n + 1) (spSame n)
  | 0 => ok_of T.t__law_same fun f fd F => ⟨spOf_len rfl, fun _ _ _ _ _ _ _ _ _ _ _ _ _ hs => False.elim (spSame_zero hs)⟩
  | n + 1 => ok_of T.t__law_same fun f fd F => fo__law_same T (spSame n) (spSame (n + 1)) (n + 1) (by omega) (wp__law_same n) (okn__law_same T n) F
theorem ok__law_same (T : Top K mg) : Ok P w K mg base "_law_same" s__law_same ["told", "due"] [false, false] 7 sp__law_same := okn__law_same T 6
theorem fo__law_signs (T : Top K mg) {f : Addr} {fd : FuncData} (F : Fun K "_law_signs" "_law_signs" s__law_signs f fd) : FnOk P w K mg base (L2N.CX P w) 2 f fd ["tub"] (spOf K [true] sp__law_signs) := by
  obtain ⟨f__law_dip, fd__law_dip, G__law_dip⟩ := ok__law_dip (P := P) (w := w) (base := base) T
  refine fn_ok [true] sp__law_signs F sc__law_signs rfl (fun cdv A outer s H E hr => ?_)
  have nd := sc__law_signs.nd
  have hu := hr.units
  have tk : L2N.Takes (cxOf (L2N.CX P w) P w K mg base ["tub", "habit", "every", "k"] "_law_signs" (defScope s__law_signs) f cdv A outer s H E) (fun cls d _ H => E cls d H) := L2N.takes_of rfl rfl rfl rfl
  exact bd_mk (t := m__law_signs) (pss_cons (ps_set (i := 1) nd rfl (by first | exact Or.inl rfl | exact Or.inr rfl) (pe_callS G__law_dip.2.2.2.2 (hr.mono (by first | decide | omega)) rfl G__law_dip.1 G__law_dip.2.1 G__law_dip.2.2.1 (fun σ => L2N.passAt tk σ) (pa_cons (pv 0) (pa_cons pe_int pa_nil)))) (pss_cons (ps_if (pt_cmpR (op_ltA) (pv 1) pe_int (nomark _)) (pss_one (ps_ret (pe_ix ix_seq (pe_tup (pa_cons pe_str (pa_cons pe_str (pa_cons pe_str (pa_cons pe_str pa_nil))))) (pv 1) (fun _ _ => rfl)))) pss_nil) (pss_cons (ps_set (i := 2) nd rfl (by first | exact Or.inl rfl | exact Or.inr rfl) pe_str) (pss_one (ps_ret (pe_join pe_str (pe_lc (own := [("k", 3)]) (g := (gName 3)) rfl nd (pi_range1 rfl T.n_range (pa_cons (pe_op op_addA pe_int (pe_callS G__law_dip.2.2.2.2 (hr.mono (by first | decide | omega)) rfl G__law_dip.1 G__law_dip.2.1 G__law_dip.2.2.1 (fun σ => L2N.passAt tk σ) (pa_cons (pv 0) (pa_cons pe_int pa_nil)))) pa_nil)) (blkOk_by (N := ["tub", "habit", "every", "k"]) (sc := defScope s__law_signs) (by decide +kernel)) (fun _ _ _ _ _ => (pg_name (i := 3) nd rfl (by first | exact Or.inl rfl | exact Or.inr rfl))) (fun _ _ _ _ _ => pts_nil) (fun _ _ _ _ _ => (pe_ix ix_seq (pv 2) (pe_callS G__law_dip.2.2.2.2 (hr.mono (by first | decide | omega)) rfl G__law_dip.1 G__law_dip.2.1 G__law_dip.2.2.1 (fun σ => L2N.passAt takes0N σ) (pa_cons (pv 0) (pa_cons (pe_callB call_lenA (by rfl) T.n_len PySem.boot_len (pa_cons (pv 2) pa_nil)) pa_nil))) (fun _ _ => rfl)))))))))) (ss_cons (ss_asg (sim_call (simc_ref (simc_val sim_int simc_nil))) (g_name 1)) (ss_cons (ss_if (simt_test (sim_op rs_lt sim_varF sim_int)) (ss_ret (sim_op rs_ix (sim_tup 4 (sima_cons (sim_str [97, 98] (by decide +kernel) (by decide)) (sima_cons (sim_str [97, 98, 99] (by decide +kernel) (by decide)) (sima_cons (sim_str [97, 126] (by decide +kernel) (by decide)) (sima_cons (sim_str [120, 32, 121] (by decide +kernel) (by decide)) sima_nil))))) sim_varF)) ss_nil) (ss_cons (ss_asg (sim_str [32, 33, 34, 35, 36, 38, 39, 40, 41, 42, 43, 44, 45, 46, 47, 48, 49, 50, 51, 52, 53, 54, 55, 56, 57, 58, 59, 60, 61, 62, 63, 64, 65, 66, 67, 68, 69, 70, 71, 72, 73, 74, 75, 76, 77, 78, 79, 80, 81, 82, 83, 84, 85, 86, 87, 88, 89, 90, 91, 92, 93, 94, 95, 96, 97, 98, 99, 100, 101, 102, 103, 104, 105, 106, 107, 108, 109, 110, 111, 112, 113, 114, 115, 116, 117, 118, 119, 120, 121, 122, 123, 124, 125, 126] (by decide +kernel) (by decide)) (g_name 2)) (ss_ret (sim_join (sim_str [] (by decide +kernel) (by decide)) (SimN.fz (simn_lc (simi_rng1 (sim_op rs_add sim_int (sim_call (simc_ref (simc_val sim_int simc_nil))))) (g_name 3) simt_yes (sim_op rs_ix sim_varF (sim_call (simc_ref (simc_val (sim_cb cs_len (sima_cons sim_varF sima_nil)) simc_nil))))))))))) wp__law_signs
theorem ok__law_signs (T : Top K mg) : Ok P w K mg base "_law_signs" s__law_signs ["tub"] [true] 2 sp__law_signs := ok_of T.t__law_signs fun _ _ F => fo__law_signs T F
theorem fo__law_text (T : Top K mg) {f : Addr} {fd : FuncData} (F : Fun K "_law_text" "_law_text" s__law_text f fd) : FnOk P w K mg base (L2N.CX P w) 2 f fd ["tub", "signs", "most"] (spOf K [true, false, false] sp__law_text) := by
  obtain ⟨f__law_dip, fd__law_dip, G__law_dip⟩ := ok__law_dip (P := P) (w := w) (base := base) T
  refine fn_ok [true, false, false] sp__law_text F sc__law_text rfl (fun cdv A outer s H E hr => ?_)
  have nd := sc__law_text.nd
  have hu := hr.units
  have tk : L2N.Takes (cxOf (L2N.CX P w) P w K mg base ["tub", "signs", "most", "size", "period", "text", "k"] "_law_text" (defScope s__law_text) f cdv A outer s H E) (fun cls d _ H => E cls d H) := L2N.takes_of rfl rfl rfl rfl
  exact bd_mk (t := m__law_text) (pss_cons (ps_set (i := 3) nd rfl (by first | exact Or.inl rfl | exact Or.inr rfl) (pe_ix ix_seq (pe_tup (pa_cons (pv 2) (pa_cons (pe_callS G__law_dip.2.2.2.2 (hr.mono (by first | decide | omega)) rfl G__law_dip.1 G__law_dip.2.1 G__law_dip.2.2.1 (fun σ => L2N.passAt tk σ) (pa_cons (pv 0) (pa_cons (pe_op op_addA (pv 2) pe_int) pa_nil))) (pa_cons (pe_callS G__law_dip.2.2.2.2 (hr.mono (by first | decide | omega)) rfl G__law_dip.1 G__law_dip.2.1 G__law_dip.2.2.1 (fun σ => L2N.passAt tk σ) (pa_cons (pv 0) (pa_cons (pe_op op_addA (pv 2) pe_int) pa_nil))) pa_nil)))) (pe_callS G__law_dip.2.2.2.2 (hr.mono (by first | decide | omega)) rfl G__law_dip.1 G__law_dip.2.1 G__law_dip.2.2.1 (fun σ => L2N.passAt tk σ) (pa_cons (pv 0) (pa_cons pe_int pa_nil))) (fun _ _ => rfl))) (pss_cons (ps_set (i := 4) nd rfl (by first | exact Or.inl rfl | exact Or.inr rfl) (pe_ix ix_seq (pe_tup (pa_cons (pv 3) (pa_cons pe_int (pa_cons pe_int (pa_cons pe_int pa_nil))))) (pe_callS G__law_dip.2.2.2.2 (hr.mono (by first | decide | omega)) rfl G__law_dip.1 G__law_dip.2.1 G__law_dip.2.2.1 (fun σ => L2N.passAt tk σ) (pa_cons (pv 0) (pa_cons pe_int pa_nil))) (fun _ _ => rfl))) (pss_cons (ps_set (i := 5) nd rfl (by first | exact Or.inl rfl | exact Or.inr rfl) pe_str) (pss_cons (ps_for (passes_of rfl) rfl (pi_range1 rfl T.n_range (pa_cons (pv 3) pa_nil)) (pg_name (i := 6) nd rfl (by first | exact Or.inl rfl | exact Or.inr rfl)) (pss_one (ps_if (PW.pt (pw_or (pt_cmpR (op_ltA) (pv 6) (pv 4) (nomark _)) (pw_or1 (pt_cmpR (op_eqX hu) (pe_callS G__law_dip.2.2.2.2 (hr.mono (by first | decide | omega)) rfl G__law_dip.1 G__law_dip.2.1 G__law_dip.2.2.1 (fun σ => L2N.passAt tk σ) (pa_cons (pv 0) (pa_cons pe_int pa_nil))) pe_int (nomark _))))) (pss_one (ps_set (i := 5) nd rfl (by first | exact Or.inl rfl | exact Or.inr rfl) (pe_op op_addA (pv 5) (pe_ix ix_seq (pv 1) (pe_callS G__law_dip.2.2.2.2 (hr.mono (by first | decide | omega)) rfl G__law_dip.1 G__law_dip.2.1 G__law_dip.2.2.1 (fun σ => L2N.passAt tk σ) (pa_cons (pv 0) (pa_cons (pe_callB call_lenA (by rfl) T.n_len PySem.boot_len (pa_cons (pv 1) pa_nil)) pa_nil))) (fun _ _ => rfl))))) (pss_one (ps_set (i := 5) nd rfl (by first | exact Or.inl rfl | exact Or.inr rfl) (pe_op op_addA (pv 5) (pe_ix ix_seq (pv 5) (pe_op op_sub (pv 6) (pv 4)) (fun _ _ => rfl)))))))) (pss_one (ps_ret (pv 5))))))) (ss_cons (ss_asg (sim_op rs_ix (sim_tup 3 (sima_cons sim_varF (sima_cons (sim_call (simc_ref (simc_val (sim_op rs_add sim_varF sim_int) simc_nil))) (sima_cons (sim_call (simc_ref (simc_val (sim_op rs_add sim_varF sim_int) simc_nil))) sima_nil)))) (sim_call (simc_ref (simc_val sim_int simc_nil)))) (g_name 3)) (ss_cut (ss_asg (sim_op rs_ix (sim_tup 4 (sima_cons sim_varF (sima_cons sim_int (sima_cons sim_int (sima_cons sim_int sima_nil))))) (sim_call (simc_ref (simc_val sim_int simc_nil)))) (g_name 4)) (ss_cut (ss_asg (sim_str [] (by decide +kernel) (by decide)) (g_name 5)) (ss_cons (ss_for (simi_rng1 sim_varF) (g_name 6) (ss_if (simt_or (simt_test (sim_op rs_lt sim_varF sim_varF)) (simt_test (sim_op rs_eqA (sim_call (simc_ref (simc_val sim_int simc_nil))) sim_int))) (ss_asg (sim_op rs_add sim_varF (sim_op rs_ix sim_varF (sim_call (simc_ref (simc_val (sim_cb cs_len (sima_cons sim_varF sima_nil)) simc_nil))))) (g_name 5)) (ss_asg (sim_op rs_add sim_varF (sim_op rs_ix sim_varF (sim_op rs_sub sim_varF sim_varF))) (g_name 5)))) (ss_ret sim_varF))))) wp__law_text
theorem ok__law_text (T : Top K mg) : Ok P w K mg base "_law_text" s__law_text ["tub", "signs", "most"] [true, false, false] 2 sp__law_text := ok_of T.t__law_text fun _ _ F => fo__law_text T F
theorem fo__law_most (T : Top K mg) {f : Addr} {fd : FuncData} (F : Fun K "_law_most" "_law_most" s__law_most f fd) : FnOk P w K mg base (L2N.CX P w) 2 f fd ["tub"] (spOf K [true] sp__law_most) := by
  obtain ⟨f__law_dip, fd__law_dip, G__law_dip⟩ := ok__law_dip (P := P) (w := w) (base := base) T
  refine fn_ok [true] sp__law_most F sc__law_most rfl (fun cdv A outer s H E hr => ?_)
  have nd := sc__law_most.nd
  have hu := hr.units
  have tk : L2N.Takes (cxOf (L2N.CX P w) P w K mg base ["tub"] "_law_most" (defScope s__law_most) f cdv A outer s H E) (fun cls d _ H => E cls d H) := L2N.takes_of rfl rfl rfl rfl
  exact bd_mk (t := m__law_most) (pss_one (ps_ret (pe_ix ix_seq (pe_tup (pa_cons pe_int (pa_cons pe_int (pa_cons pe_int (pa_cons (pe_op op_addA pe_int (pe_callS G__law_dip.2.2.2.2 (hr.mono (by first | decide | omega)) rfl G__law_dip.1 G__law_dip.2.1 G__law_dip.2.2.1 (fun σ => L2N.passAt tk σ) (pa_cons (pv 0) (pa_cons pe_int pa_nil)))) (pa_cons pe_int pa_nil)))))) (pe_callS G__law_dip.2.2.2.2 (hr.mono (by first | decide | omega)) rfl G__law_dip.1 G__law_dip.2.1 G__law_dip.2.2.1 (fun σ => L2N.passAt tk σ) (pa_cons (pv 0) (pa_cons pe_int pa_nil))) (fun _ _ => rfl)))) (ss_ret (sim_op rs_ix (sim_tup 5 (sima_cons sim_int (sima_cons sim_int (sima_cons sim_int (sima_cons (sim_op rs_add sim_int (sim_call (simc_ref (simc_val sim_int simc_nil)))) (sima_cons sim_int sima_nil)))))) (sim_call (simc_ref (simc_val sim_int simc_nil))))) wp__law_most
theorem ok__law_most (T : Top K mg) : Ok P w K mg base "_law_most" s__law_most ["tub"] [true] 2 sp__law_most := ok_of T.t__law_most fun _ _ F => fo__law_most T F
theorem fo__law_rules (T : Top K mg) {f : Addr} {fd : FuncData} (F : Fun K "_law_rules" "_law_rules" s__law_rules f fd) : FnOk P w K mg base (L2N.CX P w) 3 f fd ["tub", "many", "elders"] (spOf K [true, false, false] sp__law_rules) := by
  obtain ⟨f__law_dip, fd__law_dip, G__law_dip⟩ := ok__law_dip (P := P) (w := w) (base := base) T
  obtain ⟨f__law_most, fd__law_most, G__law_most⟩ := ok__law_most (P := P) (w := w) (base := base) T
  refine fn_ok [true, false, false] sp__law_rules F sc__law_rules rfl (fun cdv A outer s H E hr => ?_)
  have nd := sc__law_rules.nd
  have hu := hr.units
  have tk : L2N.Takes (cxOf (L2N.CX P w) P w K mg base ["tub", "many", "elders", "rules", "k", "turned", "wide"] "_law_rules" (defScope s__law_rules) f cdv A outer s H E) (fun cls d _ H => E cls d H) := L2N.takes_of rfl rfl rfl rfl
  exact bd_mk (t := m__law_rules) (pss_cons (ps_set (i := 3) nd rfl (by first | exact Or.inl rfl | exact Or.inr rfl) (pe_lst pa_nil)) (pss_cons (ps_for (passes_of rfl) rfl (pi_range1 rfl T.n_range (pa_cons (pv 1) pa_nil)) (pg_name (i := 4) nd rfl (by first | exact Or.inl rfl | exact Or.inr rfl)) (pss_cons (ps_set (i := 5) nd rfl (by first | exact Or.inl rfl | exact Or.inr rfl) (pe_cmpR (op_eqX hu) (pe_callS G__law_dip.2.2.2.2 (hr.mono (by first | decide | omega)) rfl G__law_dip.1 G__law_dip.2.1 G__law_dip.2.2.1 (fun σ => L2N.passAt tk σ) (pa_cons (pv 0) (pa_cons pe_int pa_nil))) pe_int (nomark _))) (pss_one (ps_if (PW.pt (pw_and (pt_cmpR (op_gtA) (pv 2) pe_int (nomark _)) (pw_and1 (pt_cmpR (op_gtA) (pe_callS G__law_dip.2.2.2.2 (hr.mono (by first | decide | omega)) rfl G__law_dip.1 G__law_dip.2.1 G__law_dip.2.2.1 (fun σ => L2N.passAt tk σ) (pa_cons (pv 0) (pa_cons pe_int pa_nil))) pe_int (nomark _))))) (pss_one (ps_expr (pe_bm PySem.F.plainAttrs_list PySem.F.slot_list_append PySem.F.type_list_append mt_append (pv 3) (pa_cons (pe_tup (pa_cons pe_str (pa_cons (pe_callS G__law_dip.2.2.2.2 (hr.mono (by first | decide | omega)) rfl G__law_dip.1 G__law_dip.2.1 G__law_dip.2.2.1 (fun σ => L2N.passAt tk σ) (pa_cons (pv 0) (pa_cons (pv 2) pa_nil))) (pa_cons (pv 5) (pa_cons (pe_callS G__law_most.2.2.2.2 (hr.mono (by first | decide | omega)) rfl G__law_most.1 G__law_most.2.1 G__law_most.2.2.1 (fun σ => L2N.passAt tk σ) (pa_cons (pv 0) pa_nil)) pa_nil))))) pa_nil)))) (pss_cons (ps_set (i := 6) nd rfl (by first | exact Or.inl rfl | exact Or.inr rfl) (pe_ix ix_seq (pe_tup (pa_cons pe_int (pa_cons pe_int (pa_cons pe_int (pa_cons (pe_op op_addA pe_int (pe_callS G__law_dip.2.2.2.2 (hr.mono (by first | decide | omega)) rfl G__law_dip.1 G__law_dip.2.1 G__law_dip.2.2.1 (fun σ => L2N.passAt tk σ) (pa_cons (pv 0) (pa_cons pe_int pa_nil)))) pa_nil))))) (pe_callS G__law_dip.2.2.2.2 (hr.mono (by first | decide | omega)) rfl G__law_dip.1 G__law_dip.2.1 G__law_dip.2.2.1 (fun σ => L2N.passAt tk σ) (pa_cons (pv 0) (pa_cons pe_int pa_nil))) (fun _ _ => rfl))) (pss_one (ps_expr (pe_bm PySem.F.plainAttrs_list PySem.F.slot_list_append PySem.F.type_list_append mt_append (pv 3) (pa_cons (pe_tup (pa_cons pe_str (pa_cons (pv 6) (pa_cons (pe_cmpR (op_eqX hu) (pe_callS G__law_dip.2.2.2.2 (hr.mono (by first | decide | omega)) rfl G__law_dip.1 G__law_dip.2.1 G__law_dip.2.2.1 (fun σ => L2N.passAt tk σ) (pa_cons (pv 0) (pa_cons pe_int pa_nil))) pe_int (nomark _)) (pa_cons (pv 5) (pa_cons (pe_callS G__law_most.2.2.2.2 (hr.mono (by first | decide | omega)) rfl G__law_most.1 G__law_most.2.1 G__law_most.2.2.1 (fun σ => L2N.passAt tk σ) (pa_cons (pv 0) pa_nil)) pa_nil)))))) pa_nil))))))))) (pss_one (ps_ret (pe_callTy call_tuple_of (by rfl) T.n_tuple (by decide +kernel) (pa_cons (pv 3) pa_nil)))))) (ss_cons (ss_setM (i := 3) (simn_lst 0 sima_nil)) (ss_cons (ss_for (simi_rng1 sim_varF) (g_name 4) (ss_cons (ss_asg (sim_op rs_eqA (sim_call (simc_ref (simc_val sim_int simc_nil))) sim_int) (g_name 5)) (ss_if (simt_and (simt_test (sim_op rs_gt sim_varF sim_int)) (simt_test (sim_op rs_gt (sim_call (simc_ref (simc_val sim_int simc_nil))) sim_int))) (ss_append (sim_tup 4 (sima_cons (sim_str [101, 108, 100, 101, 114] (by decide +kernel) (by decide)) (sima_cons (sim_call (simc_ref (simc_val sim_varF simc_nil))) (sima_cons sim_varF (sima_cons (sim_call (simc_ref simc_nil)) sima_nil)))))) (ss_cons (ss_asg (sim_op rs_ix (sim_tup 4 (sima_cons sim_int (sima_cons sim_int (sima_cons sim_int (sima_cons (sim_op rs_add sim_int (sim_call (simc_ref (simc_val sim_int simc_nil)))) sima_nil))))) (sim_call (simc_ref (simc_val sim_int simc_nil)))) (g_name 6)) (ss_append (sim_tup 5 (sima_cons (sim_str [98, 97, 99, 107] (by decide +kernel) (by decide)) (sima_cons sim_varF (sima_cons (sim_op rs_eqA (sim_call (simc_ref (simc_val sim_int simc_nil))) sim_int) (sima_cons sim_varF (sima_cons (sim_call (simc_ref simc_nil)) sima_nil))))))))))) (ss_ret (sim_cb cs_tuple (sima_cons sim_var sima_nil))))) wp__law_rules
theorem ok__law_rules (T : Top K mg) : Ok P w K mg base "_law_rules" s__law_rules ["tub", "many", "elders"] [true, false, false] 3 sp__law_rules := ok_of T.t__law_rules fun _ _ F => fo__law_rules T F
theorem fo__law_is_source (T : Top K mg) {f : Addr} {fd : FuncData} (F : Fun K "_law_is_source" "_law_is_source" s__law_is_source f fd) : FnOk P w K mg base (L2N.CX P w) 1 f fd ["case", "first", "behind", "number", "at"] (spOf K [false, false, false, false, false] sp__law_is_source) := by
  refine fn_ok [false, false, false, false, false] sp__law_is_source F sc__law_is_source rfl (fun cdv A outer s H E hr => ?_)
  have nd := sc__law_is_source.nd
  have hu := hr.units
  have tk : L2N.Takes (cxOf (L2N.CX P w) P w K mg base ["case", "first", "behind", "number", "at", "rule", "many", "text", "turned", "x", "place"] "_law_is_source" (defScope s__law_is_source) f cdv A outer s H E) (fun cls d _ H => E cls d H) := L2N.takes_of rfl rfl rfl rfl
  exact bd_mk (t := m__law_is_source) (pss_cons (ps_set (i := 5) nd rfl (by first | exact Or.inl rfl | exact Or.inr rfl) (pe_ix ix_seq (pe_ix ix_seq (pv 0) pe_int (fun _ _ => rfl)) (pv 3) (fun _ _ => rfl))) (pss_cons (ps_set (i := 6) nd rfl (by first | exact Or.inl rfl | exact Or.inr rfl) (pe_op op_sub (pv 2) (pv 1))) (pss_cons (ps_if (PW.pt (pw_or (pt_cmpR (op_gtA) (pv 6) (pe_ix ix_seq (pv 5) (pe_un un_neg pe_int) (fun _ _ => rfl)) (nomark _)) (pw_or1 (pt_cmpR (op_ltA) (pv 4) pe_int (nomark _))))) (pss_one (ps_ret pe_bl)) pss_nil) (pss_cons (ps_set (i := 7) nd rfl (by first | exact Or.inl rfl | exact Or.inr rfl) (pe_ix ix_seq (pv 0) pe_int (fun _ _ => rfl))) (pss_cons (ps_set (i := 8) nd rfl (by first | exact Or.inl rfl | exact Or.inr rfl) (pe_ix ix_seq (pv 5) (pe_un un_neg pe_int) (fun _ _ => rfl))) (pss_cons (ps_if (pt_cmpR (op_eqX hu) (pe_ix ix_seq (pv 5) pe_int (fun _ _ => rfl)) pe_str (nomark _)) (pss_one (ps_set (i := 7) nd rfl (by first | exact Or.inl rfl | exact Or.inr rfl) (pe_ix ix_seq (pe_ix ix_seq (pv 0) pe_int (fun _ _ => rfl)) (pe_ix ix_seq (pv 5) pe_int (fun _ _ => rfl)) (fun _ _ => rfl)))) pss_nil) (pss_cons (ps_for (passes_of rfl) rfl (pi_range1 rfl T.n_range (pa_cons (pv 6) pa_nil)) (pg_name (i := 9) nd rfl (by first | exact Or.inl rfl | exact Or.inr rfl)) (pss_cons (ps_set (i := 10) nd rfl (by first | exact Or.inl rfl | exact Or.inr rfl) (pe_op op_addA (pv 4) (pv 9))) (pss_cons (ps_if (pt_val (pv 8)) (pss_one (ps_set (i := 10) nd rfl (by first | exact Or.inl rfl | exact Or.inr rfl) (pe_op op_sub (pe_op op_sub (pe_op op_addA (pv 4) (pv 6)) pe_int) (pv 9)))) pss_nil) (pss_cons (ps_if (PW.pt (pw_or (pt_cmpR (op_geA) (pv 10) (pe_callB call_lenA (by rfl) T.n_len PySem.boot_len (pa_cons (pv 7) pa_nil)) (nomark _)) (pw_or1 (pt_not (pt_cmpR (op_eqX hu) (pe_ix ix_seq (pv 7) (pv 10) (fun _ _ => rfl)) (pe_ix ix_seq (pe_ix ix_seq (pv 0) pe_int (fun _ _ => rfl)) (pe_op op_addA (pv 1) (pv 9)) (fun _ _ => rfl)) (nomark _)))))) (pss_one (ps_ret pe_bl)) pss_nil) (pss_one (ps_if (pt_cmpR (op_eqX hu) (pe_ix ix_seq (pv 5) pe_int (fun _ _ => rfl)) pe_str (nomark _)) (pss_one (ps_if (PW.pt (pw_or (pt_cmpR (op_geA) (pv 10) (pe_op op_addA (pv 1) (pv 9)) (nomark _)) (pw_or (pt_cmpR (op_ltA) (pv 10) (pe_op op_sub (pe_op op_addA (pv 1) (pv 9)) (pe_ix ix_seq (pv 5) pe_int (fun _ _ => rfl))) (nomark _)) (pw_or1 (PW.pt (pw_and (pt_val (pe_ix ix_seq (pv 5) pe_int (fun _ _ => rfl))) (pw_and1 (pt_cmpR (op_geA) (pv 10) (pv 1) (nomark _))))))))) (pss_one (ps_ret pe_bl)) pss_nil)) pss_nil)))))) (pss_one (ps_ret pe_bl))))))))) (ss_cons (ss_asg (sim_op rs_ix (sim_op rs_ix sim_varF sim_int) sim_varF) (g_name 5)) (ss_cons (ss_asg (sim_op rs_sub sim_varF sim_varF) (g_name 6)) (ss_cons (ss_if (simt_or (simt_test (sim_op rs_gt sim_varF (sim_op rs_ix sim_varF (sim_un us_neg sim_int)))) (simt_test (sim_op rs_lt sim_varF sim_int))) (ss_ret sim_bl) ss_nil) (ss_cons (ss_asg (sim_op rs_ix sim_varF sim_int) (g_name 7)) (ss_cons (ss_asg (sim_op rs_ix sim_varF (sim_un us_neg sim_int)) (g_name 8)) (ss_cut (ss_if (simt_test (sim_op rs_eqA (sim_op rs_ix sim_varF sim_int) (sim_str [101, 108, 100, 101, 114] (by decide +kernel) (by decide)))) (ss_asg (sim_op rs_ix (sim_op rs_ix sim_varF sim_int) (sim_op rs_ix sim_varF sim_int)) (g_name 7)) ss_nil) (ss_cons (ss_for (simi_rng1 sim_varF) (g_name 9) (ss_cons (ss_asg (sim_op rs_add sim_varF sim_varF) (g_name 10)) (ss_cut (ss_if (simt_B sim_varF) (ss_asg (sim_op rs_sub (sim_op rs_sub (sim_op rs_add sim_varF sim_varF) sim_int) sim_varF) (g_name 10)) ss_nil) (ss_cons (ss_if (simt_or (simt_test (sim_op rs_ge sim_varF (sim_cb cs_len (sima_cons sim_varF sima_nil)))) (simt_not (simt_test (sim_op rs_eqA (sim_op rs_ix sim_varF sim_varF) (sim_op rs_ix (sim_op rs_ix sim_varF sim_int) (sim_op rs_add sim_varF sim_varF)))))) (ss_ret sim_bl) ss_nil) (ss_if (simt_test (sim_op rs_eqA (sim_op rs_ix sim_varF sim_int) (sim_str [98, 97, 99, 107] (by decide +kernel) (by decide)))) (ss_if (simt_or (simt_test (sim_op rs_ge sim_varF (sim_op rs_add sim_varF sim_varF))) (simt_or (simt_test (sim_op rs_lt sim_varF (sim_op rs_sub (sim_op rs_add sim_varF sim_varF) (sim_op rs_ix sim_varF sim_int)))) (simt_and (simt_B (sim_op rs_ix sim_varF sim_int)) (simt_test (sim_op rs_ge sim_varF sim_varF))))) (ss_ret sim_bl) ss_nil) ss_nil))))) (ss_ret sim_bl)))))))) wp__law_is_source
theorem ok__law_is_source (T : Top K mg) : Ok P w K mg base "_law_is_source" s__law_is_source ["case", "first", "behind", "number", "at"] [false, false, false, false, false] 1 sp__law_is_source := ok_of T.t__law_is_source fun _ _ F => fo__law_is_source T F
theorem fo__law_source (T : Top K mg) {f : Addr} {fd : FuncData} (F : Fun K "_law_source" "_law_source" s__law_source f fd) : FnOk P w K mg base (L2N.CX P w) 2 f fd ["case", "first", "behind"] (spOf K [false, false, false] sp__law_source) := by
  obtain ⟨f__law_is_source, fd__law_is_source, G__law_is_source⟩ := ok__law_is_source (P := P) (w := w) (base := base) T
  refine fn_ok [false, false, false] sp__law_source F sc__law_source rfl (fun cdv A outer s H E hr => ?_)
  have nd := sc__law_source.nd
  have hu := hr.units
  have tk : L2N.Takes (cxOf (L2N.CX P w) P w K mg base ["case", "first", "behind", "number", "rule", "text", "at"] "_law_source" (defScope s__law_source) f cdv A outer s H E) (fun cls d _ H => E cls d H) := L2N.takes_of rfl rfl rfl rfl
  exact bd_mk (t := m__law_source) (pss_cons (ps_for (passes_of rfl) rfl (pi_range1 rfl T.n_range (pa_cons (pe_callB call_lenA (by rfl) T.n_len PySem.boot_len (pa_cons (pe_ix ix_seq (pv 0) pe_int (fun _ _ => rfl)) pa_nil)) pa_nil)) (pg_name (i := 3) nd rfl (by first | exact Or.inl rfl | exact Or.inr rfl)) (pss_cons (ps_set (i := 4) nd rfl (by first | exact Or.inl rfl | exact Or.inr rfl) (pe_ix ix_seq (pe_ix ix_seq (pv 0) pe_int (fun _ _ => rfl)) (pv 3) (fun _ _ => rfl))) (pss_cons (ps_set (i := 5) nd rfl (by first | exact Or.inl rfl | exact Or.inr rfl) (pe_ix ix_seq (pv 0) pe_int (fun _ _ => rfl))) (pss_cons (ps_if (pt_cmpR (op_eqX hu) (pe_ix ix_seq (pv 4) pe_int (fun _ _ => rfl)) pe_str (nomark _)) (pss_one (ps_set (i := 5) nd rfl (by first | exact Or.inl rfl | exact Or.inr rfl) (pe_ix ix_seq (pe_ix ix_seq (pv 0) pe_int (fun _ _ => rfl)) (pe_ix ix_seq (pv 4) pe_int (fun _ _ => rfl)) (fun _ _ => rfl)))) pss_nil) (pss_one (ps_for (passes_of rfl) rfl (pi_range1 rfl T.n_range (pa_cons (pe_callB call_lenA (by rfl) T.n_len PySem.boot_len (pa_cons (pv 5) pa_nil)) pa_nil)) (pg_name (i := 6) nd rfl (by first | exact Or.inl rfl | exact Or.inr rfl)) (pss_one (ps_if (pt_val (pe_callS G__law_is_source.2.2.2.2 (hr.mono (by first | decide | omega)) rfl G__law_is_source.1 G__law_is_source.2.1 G__law_is_source.2.2.1 (fun σ => L2N.passAt tk σ) (pa_cons (pv 0) (pa_cons (pv 1) (pa_cons (pv 2) (pa_cons (pv 3) (pa_cons (pv 6) pa_nil))))))) (pss_one (ps_ret (pe_tup (pa_cons (pv 3) (pa_cons (pv 6) pa_nil))))) pss_nil)))))))) (pss_one (ps_ret pe_non))) (ss_cons (ss_for (simi_rng1 (sim_cb cs_len (sima_cons (sim_op rs_ix sim_varF sim_int) sima_nil))) (g_name 3) (ss_cons (ss_asg (sim_op rs_ix (sim_op rs_ix sim_varF sim_int) sim_varF) (g_name 4)) (ss_cons (ss_asg (sim_op rs_ix sim_varF sim_int) (g_name 5)) (ss_cut (ss_if (simt_test (sim_op rs_eqA (sim_op rs_ix sim_varF sim_int) (sim_str [101, 108, 100, 101, 114] (by decide +kernel) (by decide)))) (ss_asg (sim_op rs_ix (sim_op rs_ix sim_varF sim_int) (sim_op rs_ix sim_varF sim_int)) (g_name 5)) ss_nil) (ss_for (simi_rng1 (sim_cb cs_len (sima_cons sim_varF sima_nil))) (g_name 6) (ss_if (simt_B (sim_call0 (sima_cons sim_varF (sima_cons sim_varF (sima_cons sim_varF (sima_cons sim_varF (sima_cons sim_varF sima_nil))))))) (ss_ret (sim_tup 2 (sima_cons sim_varF (sima_cons sim_varF sima_nil)))) ss_nil)))))) (ss_ret sim_non)) wp__law_source
theorem ok__law_source (T : Top K mg) : Ok P w K mg base "_law_source" s__law_source ["case", "first", "behind"] [false, false, false] 2 sp__law_source := ok_of T.t__law_source fun _ _ F => fo__law_source T F
theorem fo__law_reach (T : Top K mg) {f : Addr} {fd : FuncData} (F : Fun K "_law_reach" "_law_reach" s__law_reach f fd) : FnOk P w K mg base (L2N.CX P w) 3 f fd ["case"] (spOf K [false] sp__law_reach) := by
  obtain ⟨f__law_source, fd__law_source, G__law_source⟩ := ok__law_source (P := P) (w := w) (base := base) T
  refine fn_ok [false] sp__law_reach F sc__law_reach rfl (fun cdv A outer s H E hr => ?_)
  have nd := sc__law_reach.nd
  have hu := hr.units
  have tk : L2N.Takes (cxOf (L2N.CX P w) P w K mg base ["case", "reach", "first", "behind"] "_law_reach" (defScope s__law_reach) f cdv A outer s H E) (fun cls d _ H => E cls d H) := L2N.takes_of rfl rfl rfl rfl
  exact bd_mk (t := m__law_reach) (pss_cons (ps_set (i := 1) nd rfl (by first | exact Or.inl rfl | exact Or.inr rfl) (pe_lst pa_nil)) (pss_cons (ps_for (passes_of rfl) rfl (pi_range1 rfl T.n_range (pa_cons (pe_callB call_lenA (by rfl) T.n_len PySem.boot_len (pa_cons (pe_ix ix_seq (pv 0) pe_int (fun _ _ => rfl)) pa_nil)) pa_nil)) (pg_name (i := 2) nd rfl (by first | exact Or.inl rfl | exact Or.inr rfl)) (pss_cons (ps_set (i := 3) nd rfl (by first | exact Or.inl rfl | exact Or.inr rfl) (pe_op op_addA (pv 2) pe_int)) (pss_cons (ps_while (passes_of rfl) (PW.pt (pw_and (pt_cmpR (op_ltA) (pv 3) (pe_callB call_lenA (by rfl) T.n_len PySem.boot_len (pa_cons (pe_ix ix_seq (pv 0) pe_int (fun _ _ => rfl)) pa_nil)) (nomark _)) (pw_and1 (pt_cmpR op_notN (pe_callS G__law_source.2.2.2.2 (hr.mono (by first | decide | omega)) rfl G__law_source.1 G__law_source.2.1 G__law_source.2.2.1 (fun σ => L2N.passAt tk σ) (pa_cons (pv 0) (pa_cons (pv 2) (pa_cons (pe_op op_addA (pv 3) pe_int) pa_nil)))) pe_non (nomark _))))) (pss_one (ps_set (i := 3) nd rfl (by first | exact Or.inl rfl | exact Or.inr rfl) (pe_op op_addA (pv 3) pe_int)))) (pss_one (ps_expr (pe_bm PySem.F.plainAttrs_list PySem.F.slot_list_append PySem.F.type_list_append mt_append (pv 1) (pa_cons (pv 3) pa_nil))))))) (pss_one (ps_ret (pv 1))))) (ss_cons (ss_setM (i := 1) (simn_lst 0 sima_nil)) (ss_cons (ss_for (simi_rng1 (sim_cb cs_len (sima_cons (sim_op rs_ix sim_varF sim_int) sima_nil))) (g_name 2) (ss_cons (ss_asg (sim_op rs_add sim_varF sim_int) (g_name 3)) (ss_cons (ss_while (simt_and (simt_test (sim_op rs_lt sim_varF (sim_cb cs_len (sima_cons (sim_op rs_ix sim_varF sim_int) sima_nil)))) (simt_test (sim_op rs_notN (sim_call0 (sima_cons sim_varF (sima_cons sim_varF (sima_cons (sim_op rs_add sim_varF sim_int) sima_nil)))) sim_non))) (ss_asg (sim_op rs_add sim_varF sim_int) (g_name 3))) (ss_append sim_varF)))) ss_retMv)) wp__law_reach
theorem ok__law_reach (T : Top K mg) : Ok P w K mg base "_law_reach" s__law_reach ["case"] [false] 3 sp__law_reach := ok_of T.t__law_reach fun _ _ F => fo__law_reach T F
theorem fo__law_pieces (T : Top K mg) {f : Addr} {fd : FuncData} (F : Fun K "_law_pieces" "_law_pieces" s__law_pieces f fd) : FnOk P w K mg base (L2N.CX P w) 4 f fd ["case"] (spOf K [false] sp__law_pieces) := by
  obtain ⟨f__law_reach, fd__law_reach, G__law_reach⟩ := ok__law_reach (P := P) (w := w) (base := base) T
  refine fn_ok [false] sp__law_pieces F sc__law_pieces rfl (fun cdv A outer s H E hr => ?_)
  have nd := sc__law_pieces.nd
  have hu := hr.units
  have tk : L2N.Takes (cxOf (L2N.CX P w) P w K mg base ["case", "reach", "many", "at"] "_law_pieces" (defScope s__law_pieces) f cdv A outer s H E) (fun cls d _ H => E cls d H) := L2N.takes_of rfl rfl rfl rfl
  exact bd_mk (t := m__law_pieces) (pss_cons (ps_set (i := 1) nd rfl (by first | exact Or.inl rfl | exact Or.inr rfl) (pe_callS G__law_reach.2.2.2.2 (hr.mono (by first | decide | omega)) rfl G__law_reach.1 G__law_reach.2.1 G__law_reach.2.2.1 (fun σ => L2N.passAt tk σ) (pa_cons (pv 0) pa_nil))) (pss_cons (ps_set (i := 2) nd rfl (by first | exact Or.inl rfl | exact Or.inr rfl) pe_int) (pss_cons (ps_set (i := 3) nd rfl (by first | exact Or.inl rfl | exact Or.inr rfl) pe_int) (pss_cons (ps_while (passes_of rfl) (pt_cmpR (op_ltA) (pv 3) (pe_callB call_lenA (by rfl) T.n_len PySem.boot_len (pa_cons (pv 1) pa_nil)) (nomark _)) (pss_cons (ps_set (i := 3) nd rfl (by first | exact Or.inl rfl | exact Or.inr rfl) (pe_ix ix_seq (pv 1) (pv 3) (fun _ _ => rfl))) (pss_one (ps_set (i := 2) nd rfl (by first | exact Or.inl rfl | exact Or.inr rfl) (pe_op op_addA (pv 2) pe_int))))) (pss_one (ps_ret (pv 2))))))) (ss_cons (ss_asg (sim_call0 (sima_cons sim_varF sima_nil)) (g_name 1)) (ss_cons (ss_asg sim_int (g_name 2)) (ss_cons (ss_asg sim_int (g_name 3)) (ss_cons (ss_while (simt_test (sim_op rs_lt sim_varF (sim_cb cs_len (sima_cons sim_varF sima_nil)))) (ss_cons (ss_asg (sim_op rs_ix sim_varF sim_varF) (g_name 3)) (ss_asg (sim_op rs_add sim_varF sim_int) (g_name 2)))) (ss_ret sim_varF))))) wp__law_pieces
theorem ok__law_pieces (T : Top K mg) : Ok P w K mg base "_law_pieces" s__law_pieces ["case"] [false] 4 sp__law_pieces := ok_of T.t__law_pieces fun _ _ F => fo__law_pieces T F
theorem fo__law_told (T : Top K mg) {f : Addr} {fd : FuncData} (F : Fun K "_law_told" "_law_told" s__law_told f fd) : FnOk P w K mg base (L2N.CX P w) 6 f fd ["way", "case", "things"] (spOf K [false, false, false] sp__law_told) := by
  obtain ⟨f_with_rule, fd_with_rule, G_with_rule⟩ := ok_with_rule (P := P) (w := w) (base := base) T
  obtain ⟨f_with_elder, fd_with_elder, G_with_elder⟩ := ok_with_elder (P := P) (w := w) (base := base) T
  obtain ⟨f_without_elder, fd_without_elder, G_without_elder⟩ := ok_without_elder (P := P) (w := w) (base := base) T
  obtain ⟨f_back_case, fd_back_case, G_back_case⟩ := ok_back_case (P := P) (w := w) (base := base) T
  obtain ⟨f_appended_case, fd_appended_case, G_appended_case⟩ := ok_appended_case (P := P) (w := w) (base := base) T
  obtain ⟨f_edited_case, fd_edited_case, G_edited_case⟩ := ok_edited_case (P := P) (w := w) (base := base) T
  obtain ⟨D_SaidError, gy_SaidError, yc_SaidError⟩ := T.y_SaidError
  obtain ⟨D_BadCall, gy_BadCall, yc_BadCall⟩ := T.y_BadCall
  obtain ⟨D_NoSuch, gy_NoSuch, yc_NoSuch⟩ := T.y_NoSuch
  refine fn_ok [false, false, false] sp__law_told F sc__law_told rfl (fun cdv A outer s H E hr => ?_)
  have nd := sc__law_told.nd
  have hu := hr.units
  have tk : L2N.Takes (cxOf (L2N.CX P w) P w K mg base ["way", "case", "things", "error"] "_law_told" (defScope s__law_told) f cdv A outer s H E) (fun cls d _ H => E cls d H) := L2N.takes_of rfl rfl rfl rfl
  have key : ∃ T, PSs (cxOf (L2N.CX P w) P w K mg base ["way", "case", "things", "error"] "_law_told" (defScope s__law_told) f cdv A outer s H E) (defBody s__law_told) T ∧ SimS K (npOf [false, false, false]) (fun cls d _ H => E cls d H) T m__law_told := by
    refine dv_try_as rfl rfl nd (i := 3) rfl rfl ⟨rfl, by decide, .inl gy_SaidError⟩ tk yc_SaidError ?_ ?_
    · refine dv_cons ⟨fun W => _, fun W pn xe tk po => (ps_if (pt_cmpR (r := rOr rEq (rEqD K)) (op_eqX hu) (pv 0) pe_str (nomark _)) (pss_one (ps_ret (pe_tup (pa_cons pe_str (pa_cons (pe_callS G_with_rule.2.2.2.2 (hr.mono (by first | decide | omega)) rfl G_with_rule.1 G_with_rule.2.1 G_with_rule.2.2.1 (fun σ => L2N.passAt tk σ) (pa_cons (pv 1) (pa_cons (pe_ix (r := rIx K) ix_seq (pv 2) pe_int (fun _ _ => rfl)) pa_nil))) pa_nil))))) pss_nil), fun W => (ss_if (simt_test (sim_op rs_eqA sim_varF (sim_str [114, 117, 108, 101] (by decide +kernel) (by decide)))) (ss_ret (sim_tup 2 (sima_cons (sim_str [116, 111, 108, 100] (by decide +kernel) (by decide)) (sima_cons (sim_call0 (sima_cons sim_varF (sima_cons (sim_op rs_ix sim_varF sim_int) sima_nil))) sima_nil)))) ss_nil)⟩ ?_
      refine dv_cons ⟨fun W => _, fun W pn xe tk po => (ps_if (pt_cmpR (r := rOr rEq (rEqD K)) (op_eqX hu) (pv 0) pe_str (nomark _)) (pss_one (ps_ret (pe_tup (pa_cons pe_str (pa_cons (pe_callS G_with_elder.2.2.2.2 (hr.mono (by first | decide | omega)) rfl G_with_elder.1 G_with_elder.2.1 G_with_elder.2.2.1 (fun σ => L2N.passAt tk σ) (pa_cons (pv 1) (pa_cons (pe_ix (r := rIx K) ix_seq (pv 2) pe_int (fun _ _ => rfl)) (pa_cons (pe_ix (r := rIx K) ix_seq (pv 2) pe_int (fun _ _ => rfl)) (pa_cons (pe_ix (r := rIx K) ix_seq (pv 2) pe_int (fun _ _ => rfl)) pa_nil))))) pa_nil))))) pss_nil), fun W => (ss_if (simt_test (sim_op rs_eqA sim_varF (sim_str [101, 108, 100, 101, 114] (by decide +kernel) (by decide)))) (ss_ret (sim_tup 2 (sima_cons (sim_str [116, 111, 108, 100] (by decide +kernel) (by decide)) (sima_cons (sim_call0 (sima_cons sim_varF (sima_cons (sim_op rs_ix sim_varF sim_int) (sima_cons (sim_op rs_ix sim_varF sim_int) (sima_cons (sim_op rs_ix sim_varF sim_int) sima_nil))))) sima_nil)))) ss_nil)⟩ ?_
      refine dv_cons ⟨fun W => _, fun W pn xe tk po => (ps_if (pt_cmpR (r := rOr rEq (rEqD K)) (op_eqX hu) (pv 0) pe_str (nomark _)) (pss_one (ps_ret (pe_tup (pa_cons pe_str (pa_cons (pe_callS G_without_elder.2.2.2.2 (hr.mono (by first | decide | omega)) rfl G_without_elder.1 G_without_elder.2.1 G_without_elder.2.2.1 (fun σ => L2N.passAt tk σ) (pa_cons (pv 1) (pa_cons (pe_ix (r := rIx K) ix_seq (pv 2) pe_int (fun _ _ => rfl)) pa_nil))) pa_nil))))) pss_nil), fun W => (ss_if (simt_test (sim_op rs_eqA sim_varF (sim_str [119, 105, 116, 104, 111, 117, 116] (by decide +kernel) (by decide)))) (ss_ret (sim_tup 2 (sima_cons (sim_str [116, 111, 108, 100] (by decide +kernel) (by decide)) (sima_cons (sim_call0 (sima_cons sim_varF (sima_cons (sim_op rs_ix sim_varF sim_int) sima_nil))) sima_nil)))) ss_nil)⟩ ?_
      refine dv_cons ⟨fun W => _, fun W pn xe tk po => (ps_if (pt_cmpR (r := rOr rEq (rEqD K)) (op_eqX hu) (pv 0) pe_str (nomark _)) (pss_one (ps_ret (pe_tup (pa_cons pe_str (pa_cons (pe_callS G_back_case.2.2.2.2 (hr.mono (by first | decide | omega)) rfl G_back_case.1 G_back_case.2.1 G_back_case.2.2.1 (fun σ => L2N.passAt tk σ) (pa_cons (pv 1) (pa_cons (pe_ix (r := rIx K) ix_seq (pv 2) pe_int (fun _ _ => rfl)) pa_nil))) pa_nil))))) pss_nil), fun W => (ss_if (simt_test (sim_op rs_eqA sim_varF (sim_str [98, 97, 99, 107] (by decide +kernel) (by decide)))) (ss_ret (sim_tup 2 (sima_cons (sim_str [116, 111, 108, 100] (by decide +kernel) (by decide)) (sima_cons (sim_call0 (sima_cons sim_varF (sima_cons (sim_op rs_ix sim_varF sim_int) sima_nil))) sima_nil)))) ss_nil)⟩ ?_
      refine dv_cons ⟨fun W => _, fun W pn xe tk po => (ps_if (pt_cmpR (r := rOr rEq (rEqD K)) (op_eqX hu) (pv 0) pe_str (nomark _)) (pss_one (ps_ret (pe_tup (pa_cons pe_str (pa_cons (pe_callS G_appended_case.2.2.2.2 (hr.mono (by first | decide | omega)) rfl G_appended_case.1 G_appended_case.2.1 G_appended_case.2.2.1 (fun σ => L2N.passAt tk σ) (pa_cons (pv 1) (pa_cons (pe_ix (r := rIx K) ix_seq (pv 2) pe_int (fun _ _ => rfl)) pa_nil))) pa_nil))))) pss_nil), fun W => (ss_if (simt_test (sim_op rs_eqA sim_varF (sim_str [97, 112, 112, 101, 110, 100, 101, 100] (by decide +kernel) (by decide)))) (ss_ret (sim_tup 2 (sima_cons (sim_str [116, 111, 108, 100] (by decide +kernel) (by decide)) (sima_cons (sim_call0 (sima_cons sim_varF (sima_cons (sim_op rs_ix sim_varF sim_int) sima_nil))) sima_nil)))) ss_nil)⟩ ?_
      exact dv_one ⟨fun W => _, fun W pn xe tk po => (ps_ret (pe_tup (pa_cons pe_str (pa_cons (pe_callS G_edited_case.2.2.2.2 (hr.mono (by first | decide | omega)) rfl G_edited_case.1 G_edited_case.2.1 G_edited_case.2.2.1 (fun σ => L2N.passAt tk σ) (pa_cons (pv 1) (pa_cons (pe_ix (r := rIx K) ix_seq (pv 2) pe_int (fun _ _ => rfl)) (pa_cons (pe_ix (r := rIx K) ix_seq (pv 2) pe_int (fun _ _ => rfl)) pa_nil)))) pa_nil)))), fun W => (ss_ret (sim_tup 2 (sima_cons (sim_str [116, 111, 108, 100] (by decide +kernel) (by decide)) (sima_cons (sim_call0 (sima_cons sim_varF (sima_cons (sim_op rs_ix sim_varF sim_int) (sima_cons (sim_op rs_ix sim_varF sim_int) sima_nil)))) sima_nil))))⟩
    · exact ⟨fun a cls d => _, fun a oe cls d pn hz hf => (pss_cons (ps_if (pt_val (pe_callB (call_isXs hz.zc hf) (by rfl) T.n_isinstance (by decide +kernel) (pa_cons (pv 3) (pa_cons (pe_glob (v := .ref D_BadCall) rfl gy_BadCall rfl) pa_nil)))) (pss_one (ps_ret (pe_tup (pa_cons pe_str (pa_cons (pe_xfs hz.zc hf (pv 3)) pa_nil))))) pss_nil) (pss_cons (ps_if (pt_val (pe_callB (call_isXs hz.zc hf) (by rfl) T.n_isinstance (by decide +kernel) (pa_cons (pv 3) (pa_cons (pe_glob (v := .ref D_NoSuch) rfl gy_NoSuch rfl) pa_nil)))) (pss_one (ps_ret (pe_tup (pa_cons pe_str (pa_cons (pe_xfs hz.zc hf (pv 3)) (pa_cons (pe_xfs hz.zc hf (pv 3)) pa_nil)))))) pss_nil) (pss_one (ps_ret (pe_tup (pa_cons pe_str pa_nil)))))), fun c => (ss_cons (ss_if (simt_B (sim_isX yc_BadCall sim_varF)) (ss_ret (sim_tup 2 (sima_cons (sim_str [66, 97, 100, 67, 97, 108, 108] (by decide +kernel) (by decide)) (sima_cons (sim_xf (f := 1) sim_varF) sima_nil)))) ss_nil) (ss_cons (ss_if (simt_B (sim_isX yc_NoSuch sim_varF)) (ss_ret (sim_tup 3 (sima_cons (sim_str [78, 111, 83, 117, 99, 104] (by decide +kernel) (by decide)) (sima_cons (sim_xf (f := 1) sim_varF) (sima_cons (sim_xf (f := 2) sim_varF) sima_nil))))) ss_nil) (ss_ret (sim_tup 1 (sima_cons (sim_str [111, 116, 104, 101, 114] (by decide +kernel) (by decide)) sima_nil)))))⟩
  obtain ⟨Tx, hP, hS⟩ := key
  exact bd_mk (t := m__law_told) hP hS wp__law_told
theorem ok__law_told (T : Top K mg) : Ok P w K mg base "_law_told" s__law_told ["way", "case", "things"] [false, false, false] 6 sp__law_told := ok_of T.t__law_told fun _ _ F => fo__law_told T F
theorem fo__law_without (T : Top K mg) {f : Addr} {fd : FuncData} (F : Fun K "_law_without" "_law_without" s__law_without f fd) : FnOk P w K mg base (L2N.CX P w) 1 f fd ["case", "number"] (spOf K [false, false] sp__law_without) := by
  refine fn_ok [false, false] sp__law_without F sc__law_without rfl (fun cdv A outer s H E hr => ?_)
  have nd := sc__law_without.nd
  have hu := hr.units
  have tk : L2N.Takes (cxOf (L2N.CX P w) P w K mg base ["case", "number", "rules", "rule"] "_law_without" (defScope s__law_without) f cdv A outer s H E) (fun cls d _ H => E cls d H) := L2N.takes_of rfl rfl rfl rfl
  exact bd_mk (t := m__law_without) (pss_cons (ps_set (i := 2) nd rfl (by first | exact Or.inl rfl | exact Or.inr rfl) (pe_lst pa_nil)) (pss_cons (ps_for (passes_of rfl) rfl (pi_any (pe_ix ix_seq (pv 0) pe_int (fun _ _ => rfl))) (pg_name (i := 3) nd rfl (by first | exact Or.inl rfl | exact Or.inr rfl)) (pss_one (ps_if (PW.pt (pw_or (pt_cmpR (op_eqX hu) (pe_ix ix_seq (pv 3) pe_int (fun _ _ => rfl)) pe_str (nomark _)) (pw_or1 (pt_cmpR (op_ltA) (pe_ix ix_seq (pv 3) pe_int (fun _ _ => rfl)) (pv 1) (nomark _))))) (pss_one (ps_expr (pe_bm PySem.F.plainAttrs_list PySem.F.slot_list_append PySem.F.type_list_append mt_append (pv 2) (pa_cons (pv 3) pa_nil)))) (pss_one (ps_if (pt_cmpR (op_gtA) (pe_ix ix_seq (pv 3) pe_int (fun _ _ => rfl)) (pv 1) (nomark _)) (pss_one (ps_expr (pe_bm PySem.F.plainAttrs_list PySem.F.slot_list_append PySem.F.type_list_append mt_append (pv 2) (pa_cons (pe_tup (pa_cons pe_str (pa_cons (pe_op op_sub (pe_ix ix_seq (pv 3) pe_int (fun _ _ => rfl)) pe_int) (pa_cons (pe_ix ix_seq (pv 3) pe_int (fun _ _ => rfl)) (pa_cons (pe_ix ix_seq (pv 3) pe_int (fun _ _ => rfl)) pa_nil))))) pa_nil)))) pss_nil))))) (pss_one (ps_ret (pe_tup (pa_cons (pe_op op_addA (pe_slice sl_any (pe_ix ix_seq (pv 0) pe_int (fun _ _ => rfl)) po_none (po_some (pv 1))) (pe_slice sl_any (pe_ix ix_seq (pv 0) pe_int (fun _ _ => rfl)) (po_some (pe_op op_addA (pv 1) pe_int)) po_none)) (pa_cons (pe_callTy call_tuple_of (by rfl) T.n_tuple (by decide +kernel) (pa_cons (pv 2) pa_nil)) (pa_cons (pe_ix ix_seq (pv 0) pe_int (fun _ _ => rfl)) pa_nil)))))))) (ss_cons (ss_setM (i := 2) (simn_lst 0 sima_nil)) (ss_cons (ss_for (simi_any (sim_op rs_ix sim_varF sim_int)) (g_name 3) (ss_if (simt_or (simt_test (sim_op rs_eqA (sim_op rs_ix sim_varF sim_int) (sim_str [98, 97, 99, 107] (by decide +kernel) (by decide)))) (simt_test (sim_op rs_lt (sim_op rs_ix sim_varF sim_int) sim_varF))) (ss_append sim_varF) (ss_if (simt_test (sim_op rs_gt (sim_op rs_ix sim_varF sim_int) sim_varF)) (ss_append (sim_tup 4 (sima_cons (sim_str [101, 108, 100, 101, 114] (by decide +kernel) (by decide)) (sima_cons (sim_op rs_sub (sim_op rs_ix sim_varF sim_int) sim_int) (sima_cons (sim_op rs_ix sim_varF sim_int) (sima_cons (sim_op rs_ix sim_varF sim_int) sima_nil)))))) ss_nil))) (ss_ret (sim_tup 3 (sima_cons (sim_op rs_add (sim_sl (sim_op rs_ix sim_varF sim_int) sim_no (sim_part sim_varF)) (sim_sl (sim_op rs_ix sim_varF sim_int) (sim_part (sim_op rs_add sim_varF sim_int)) sim_no)) (sima_cons (sim_cb cs_tuple (sima_cons sim_var sima_nil)) (sima_cons (sim_op rs_ix sim_varF sim_int) sima_nil))))))) wp__law_without
theorem ok__law_without (T : Top K mg) : Ok P w K mg base "_law_without" s__law_without ["case", "number"] [false, false] 1 sp__law_without := ok_of T.t__law_without fun _ _ F => fo__law_without T F
theorem fo__law_elder_rules (T : Top K mg) {f : Addr} {fd : FuncData} (F : Fun K "_law_elder_rules" "_law_elder_rules" s__law_elder_rules f fd) : FnOk P w K mg base (L2N.CX P w) 1 f fd ["case"] (spOf K [false] sp__law_elder_rules) := by
  refine fn_ok [false] sp__law_elder_rules F sc__law_elder_rules rfl (fun cdv A outer s H E hr => ?_)
  have nd := sc__law_elder_rules.nd
  have hu := hr.units
  have tk : L2N.Takes (cxOf (L2N.CX P w) P w K mg base ["case", "rule"] "_law_elder_rules" (defScope s__law_elder_rules) f cdv A outer s H E) (fun cls d _ H => E cls d H) := L2N.takes_of rfl rfl rfl rfl
  exact bd_mk (t := m__law_elder_rules) (pss_one (ps_ret (pe_callTy call_tuple_of (by rfl) T.n_tuple (by decide +kernel) (pa_cons (pe_lc (own := [("rule", 1)]) (g := (gName 1)) rfl nd (pi_any (pe_ix ix_seq (pv 0) pe_int (fun _ _ => rfl))) (blkOk_by (N := ["case", "rule"]) (sc := defScope s__law_elder_rules) (by decide +kernel)) (fun _ _ _ _ _ => (pg_name (i := 1) nd rfl (by first | exact Or.inl rfl | exact Or.inr rfl))) (fun _ _ _ _ _ => (pts_one (pt_cmpR (op_eqX hu) (pe_ix ix_seq (pv 1) pe_int (fun _ _ => rfl)) pe_str (nomark _)))) (fun _ _ _ _ _ => (pv 1))) pa_nil)))) (ss_ret (sim_cb cs_tuple (sima_cons (SimN.fz (simn_lc (simi_any (sim_op rs_ix sim_varF sim_int)) (g_name 1) (simt_test (sim_op rs_eqA (sim_op rs_ix sim_varF sim_int) (sim_str [101, 108, 100, 101, 114] (by decide +kernel) (by decide)))) sim_varF)) sima_nil))) wp__law_elder_rules
theorem ok__law_elder_rules (T : Top K mg) : Ok P w K mg base "_law_elder_rules" s__law_elder_rules ["case"] [false] 1 sp__law_elder_rules := ok_of T.t__law_elder_rules fun _ _ F => fo__law_elder_rules T F
theorem fo__law_numbers_right (T : Top K mg) {f : Addr} {fd : FuncData} (F : Fun K "_law_numbers_right" "_law_numbers_right" s__law_numbers_right f fd) : FnOk P w K mg base (L2N.CX P w) 8 f fd ["tub", "case"] (spOf K [true, false] sp__law_numbers_right) := by
  obtain ⟨f__law_same, fd__law_same, G__law_same⟩ := ok__law_same (P := P) (w := w) (base := base) T
  obtain ⟨f__law_without, fd__law_without, G__law_without⟩ := ok__law_without (P := P) (w := w) (base := base) T
  obtain ⟨f__law_told, fd__law_told, G__law_told⟩ := ok__law_told (P := P) (w := w) (base := base) T
  obtain ⟨f__law_dip, fd__law_dip, G__law_dip⟩ := ok__law_dip (P := P) (w := w) (base := base) T
  refine fn_ok [true, false] sp__law_numbers_right F sc__law_numbers_right rfl (fun cdv A outer s H E hr => ?_)
  have nd := sc__law_numbers_right.nd
  have hu := hr.units
  have tk : L2N.Takes (cxOf (L2N.CX P w) P w K mg base ["tub", "case", "many", "number", "rules", "odd", "way"] "_law_numbers_right" (defScope s__law_numbers_right) f cdv A outer s H E) (fun cls d _ H => E cls d H) := L2N.takes_of rfl rfl rfl rfl
  exact bd_mk (t := m__law_numbers_right) (pss_cons (ps_set (i := 2) nd rfl (by first | exact Or.inl rfl | exact Or.inr rfl) (pe_callB call_lenA (by rfl) T.n_len PySem.boot_len (pa_cons (pe_ix ix_seq (pv 1) pe_int (fun _ _ => rfl)) pa_nil))) (pss_cons (ps_for (passes_of rfl) rfl (pi_range1 rfl T.n_range (pa_cons (pv 2) pa_nil)) (pg_name (i := 3) nd rfl (by first | exact Or.inl rfl | exact Or.inr rfl)) (pss_cons (ps_if (pt_not (pt_val (pe_callS G__law_same.2.2.2.2 (hr.mono (by first | decide | omega)) rfl G__law_same.1 G__law_same.2.1 G__law_same.2.2.1 (fun σ => L2N.passAt tk σ) (pa_cons (pe_callS G__law_told.2.2.2.2 (hr.mono (by first | decide | omega)) rfl G__law_told.1 G__law_told.2.1 G__law_told.2.2.1 (fun σ => L2N.passAt tk σ) (pa_cons pe_str (pa_cons (pv 1) (pa_cons (pe_tup (pa_cons (pv 3) pa_nil)) pa_nil)))) (pa_cons (pe_tup (pa_cons pe_str (pa_cons (pe_callS G__law_without.2.2.2.2 (hr.mono (by first | decide | omega)) rfl G__law_without.1 G__law_without.2.1 G__law_without.2.2.1 (fun σ => L2N.passAt tk σ) (pa_cons (pv 1) (pa_cons (pv 3) pa_nil))) pa_nil))) pa_nil))))) (pss_one (ps_ret pe_bl)) pss_nil) (pss_cons (ps_set (i := 4) nd rfl (by first | exact Or.inl rfl | exact Or.inr rfl) (pe_tup (pa_cons (pe_tup (pa_cons pe_str (pa_cons pe_int (pa_cons pe_bl (pa_cons pe_int pa_nil))))) (pa_cons (pe_tup (pa_cons pe_str (pa_cons pe_int (pa_cons pe_bl (pa_cons pe_int pa_nil))))) pa_nil)))) (pss_one (ps_if (pt_not (pt_val (pe_callS G__law_same.2.2.2.2 (hr.mono (by first | decide | omega)) rfl G__law_same.1 G__law_same.2.1 G__law_same.2.2.1 (fun σ => L2N.passAt tk σ) (pa_cons (pe_callS G__law_told.2.2.2.2 (hr.mono (by first | decide | omega)) rfl G__law_told.1 G__law_told.2.1 G__law_told.2.2.1 (fun σ => L2N.passAt tk σ) (pa_cons pe_str (pa_cons (pv 1) (pa_cons (pe_tup (pa_cons (pv 3) pa_nil)) pa_nil)))) (pa_cons (pe_tup (pa_cons pe_str (pa_cons (pe_tup (pa_cons (pe_tup (pa_cons (pe_ix ix_seq (pv 1) pe_int (fun _ _ => rfl)) pa_nil)) (pa_cons (pv 4) (pa_cons (pe_ix ix_seq (pe_ix ix_seq (pv 1) pe_int (fun _ _ => rfl)) (pv 3) (fun _ _ => rfl)) pa_nil)))) pa_nil))) pa_nil))))) (pss_one (ps_ret pe_bl)) pss_nil))))) (pss_cons (ps_set (i := 5) nd rfl (by first | exact Or.inl rfl | exact Or.inr rfl) (pe_ix ix_seq (pe_tup (pa_cons (pv 2) (pa_cons (pe_un un_neg pe_int) (pa_cons pe_bl (pa_cons pe_non (pa_cons pe_str (pa_cons (pe_tup (pa_cons pe_int pa_nil)) (pa_cons (pe_op op_addA (pe_op op_addA (pv 2) pe_int) (pe_callS G__law_dip.2.2.2.2 (hr.mono (by first | decide | omega)) rfl G__law_dip.1 G__law_dip.2.1 G__law_dip.2.2.1 (fun σ => L2N.passAt tk σ) (pa_cons (pv 0) (pa_cons pe_int pa_nil)))) (pa_cons pe_bl (pa_cons (pe_op op_pow pe_int pe_int) pa_nil)))))))))) (pe_callS G__law_dip.2.2.2.2 (hr.mono (by first | decide | omega)) rfl G__law_dip.1 G__law_dip.2.1 G__law_dip.2.2.1 (fun σ => L2N.passAt tk σ) (pa_cons (pv 0) (pa_cons pe_int pa_nil))) (fun _ _ => rfl))) (pss_cons (ps_for (passes_of rfl) rfl (pi_any (pe_tup (pa_cons pe_str (pa_cons pe_str pa_nil)))) (pg_name (i := 6) nd rfl (by first | exact Or.inl rfl | exact Or.inr rfl)) (pss_one (ps_for (passes_of rfl) rfl (pi_any (pe_tup (pa_cons (pv 5) (pa_cons (pv 2) pa_nil)))) (pg_name (i := 3) nd rfl (by first | exact Or.inl rfl | exact Or.inr rfl)) (pss_one (ps_if (pt_not (pt_val (pe_callS G__law_same.2.2.2.2 (hr.mono (by first | decide | omega)) rfl G__law_same.1 G__law_same.2.1 G__law_same.2.2.1 (fun σ => L2N.passAt tk σ) (pa_cons (pe_callS G__law_told.2.2.2.2 (hr.mono (by first | decide | omega)) rfl G__law_told.1 G__law_told.2.1 G__law_told.2.2.1 (fun σ => L2N.passAt tk σ) (pa_cons (pv 6) (pa_cons (pv 1) (pa_cons (pe_tup (pa_cons (pv 3) pa_nil)) pa_nil)))) (pa_cons (pe_tup (pa_cons pe_str (pa_cons pe_str (pa_cons (pv 3) pa_nil)))) pa_nil))))) (pss_one (ps_ret pe_bl)) pss_nil))))) (pss_one (ps_ret pe_bl)))))) (ss_cut (ss_asg (sim_cb cs_len (sima_cons (sim_op rs_ix sim_varF sim_int) sima_nil)) (g_name 2)) (ss_cut (ss_for (simi_rng1 sim_varF) (g_name 3) (ss_cons (ss_if (simt_not (simt_B (sim_call0 (sima_cons (sim_call0 (sima_cons (sim_str [119, 105, 116, 104, 111, 117, 116] (by decide +kernel) (by decide)) (sima_cons sim_varF (sima_cons (sim_tup 1 (sima_cons sim_varF sima_nil)) sima_nil)))) (sima_cons (sim_tup 2 (sima_cons (sim_str [116, 111, 108, 100] (by decide +kernel) (by decide)) (sima_cons (sim_call0 (sima_cons sim_varF (sima_cons sim_varF sima_nil))) sima_nil))) sima_nil))))) (ss_ret sim_bl) ss_nil) (ss_cons (ss_asg (sim_tup 2 (sima_cons (sim_tup 4 (sima_cons (sim_str [101, 108, 100, 101, 114] (by decide +kernel) (by decide)) (sima_cons sim_int (sima_cons sim_bl (sima_cons sim_int sima_nil))))) (sima_cons (sim_tup 4 (sima_cons (sim_str [101, 108, 100, 101, 114] (by decide +kernel) (by decide)) (sima_cons sim_int (sima_cons sim_bl (sima_cons sim_int sima_nil))))) sima_nil))) (g_name 4)) (ss_if (simt_not (simt_B (sim_call0 (sima_cons (sim_call0 (sima_cons (sim_str [98, 97, 99, 107] (by decide +kernel) (by decide)) (sima_cons sim_varF (sima_cons (sim_tup 1 (sima_cons sim_varF sima_nil)) sima_nil)))) (sima_cons (sim_tup 2 (sima_cons (sim_str [116, 111, 108, 100] (by decide +kernel) (by decide)) (sima_cons (sim_tup 3 (sima_cons (sim_tup 1 (sima_cons (sim_op rs_ix sim_varF sim_int) sima_nil)) (sima_cons sim_varF (sima_cons (sim_op rs_ix (sim_op rs_ix sim_varF sim_int) sim_varF) sima_nil)))) sima_nil))) sima_nil))))) (ss_ret sim_bl) ss_nil)))) (ss_cut (ss_asg (sim_op rs_ix (sim_tup 9 (sima_cons sim_varF (sima_cons (sim_un us_neg sim_int) (sima_cons sim_bl (sima_cons sim_non (sima_cons (sim_str [48] (by decide +kernel) (by decide)) (sima_cons (sim_tup 1 (sima_cons sim_int sima_nil)) (sima_cons (sim_op rs_add (sim_op rs_add sim_varF sim_int) (sim_call (simc_ref (simc_val sim_int simc_nil)))) (sima_cons sim_bl (sima_cons (sim_op rs_pow sim_int sim_int) sima_nil)))))))))) (sim_call (simc_ref (simc_val sim_int simc_nil)))) (g_name 5)) (ss_cons (ss_for (simi_any (sim_tup 2 (sima_cons (sim_str [119, 105, 116, 104, 111, 117, 116] (by decide +kernel) (by decide)) (sima_cons (sim_str [98, 97, 99, 107] (by decide +kernel) (by decide)) sima_nil)))) (g_name 6) (ss_for (simi_any (sim_tup 2 (sima_cons sim_varF (sima_cons sim_varF sima_nil)))) (g_name 3) (ss_if (simt_not (simt_B (sim_call0 (sima_cons (sim_call0 (sima_cons sim_varF (sima_cons sim_varF (sima_cons (sim_tup 1 (sima_cons sim_varF sima_nil)) sima_nil)))) (sima_cons (sim_tup 3 (sima_cons (sim_str [78, 111, 83, 117, 99, 104] (by decide +kernel) (by decide)) (sima_cons (sim_str [101, 108, 100, 101, 114] (by decide +kernel) (by decide)) (sima_cons sim_varF sima_nil)))) sima_nil))))) (ss_ret sim_bl) ss_nil))) (ss_ret sim_bl))))) wp__law_numbers_right
theorem ok__law_numbers_right (T : Top K mg) : Ok P w K mg base "_law_numbers_right" s__law_numbers_right ["tub", "case"] [true, false] 8 sp__law_numbers_right := ok_of T.t__law_numbers_right fun _ _ F => fo__law_numbers_right T F
theorem fo__law_more_right (T : Top K mg) {f : Addr} {fd : FuncData} (F : Fun K "_law_more_right" "_law_more_right" s__law_more_right f fd) : FnOk P w K mg base (L2N.CX P w) 8 f fd ["tub", "case", "signs"] (spOf K [true, false, false] sp__law_more_right) := by
  obtain ⟨f__law_rules, fd__law_rules, G__law_rules⟩ := ok__law_rules (P := P) (w := w) (base := base) T
  obtain ⟨f__law_same, fd__law_same, G__law_same⟩ := ok__law_same (P := P) (w := w) (base := base) T
  obtain ⟨f__law_told, fd__law_told, G__law_told⟩ := ok__law_told (P := P) (w := w) (base := base) T
  obtain ⟨f__law_text, fd__law_text, G__law_text⟩ := ok__law_text (P := P) (w := w) (base := base) T
  obtain ⟨f__law_dip, fd__law_dip, G__law_dip⟩ := ok__law_dip (P := P) (w := w) (base := base) T
  obtain ⟨f__law_most, fd__law_most, G__law_most⟩ := ok__law_most (P := P) (w := w) (base := base) T
  obtain ⟨f_with_new, fd_with_new, G_with_new⟩ := ok_with_new (P := P) (w := w) (base := base) T
  refine fn_ok [true, false, false] sp__law_more_right F sc__law_more_right rfl (fun cdv A outer s H E hr => ?_)
  have nd := sc__law_more_right.nd
  have hu := hr.units
  have tk : L2N.Takes (cxOf (L2N.CX P w) P w K mg base ["tub", "case", "signs", "rule", "due", "text", "turned", "most"] "_law_more_right" (defScope s__law_more_right) f cdv A outer s H E) (fun cls d _ H => E cls d H) := L2N.takes_of rfl rfl rfl rfl
  exact bd_mk (t := m__law_more_right) (pss_cons (ps_set (i := 3) nd rfl (by first | exact Or.inl rfl | exact Or.inr rfl) (pe_ix ix_seq (pe_callS G__law_rules.2.2.2.2 (hr.mono (by first | decide | omega)) rfl G__law_rules.1 G__law_rules.2.1 G__law_rules.2.2.1 (fun σ => L2N.passAt tk σ) (pa_cons (pv 0) (pa_cons pe_int (pa_cons (pe_callB call_lenA (by rfl) T.n_len PySem.boot_len (pa_cons (pe_ix ix_seq (pv 1) pe_int (fun _ _ => rfl)) pa_nil)) pa_nil)))) pe_int (fun _ _ => rfl))) (pss_cons (ps_set (i := 4) nd rfl (by first | exact Or.inl rfl | exact Or.inr rfl) (pe_tup (pa_cons pe_str (pa_cons (pe_tup (pa_cons (pe_ix ix_seq (pv 1) pe_int (fun _ _ => rfl)) (pa_cons (pe_op op_addA (pe_ix ix_seq (pv 1) pe_int (fun _ _ => rfl)) (pe_tup (pa_cons (pv 3) pa_nil))) (pa_cons (pe_ix ix_seq (pv 1) pe_int (fun _ _ => rfl)) pa_nil)))) pa_nil)))) (pss_cons (ps_if (pt_cmpR (op_eqX hu) (pe_callB call_lenA (by rfl) T.n_len PySem.boot_len (pa_cons (pe_ix ix_seq (pv 1) pe_int (fun _ _ => rfl)) pa_nil)) pe_int (nomark _)) (pss_one (ps_set (i := 4) nd rfl (by first | exact Or.inl rfl | exact Or.inr rfl) (pe_tup (pa_cons pe_str (pa_cons pe_str pa_nil))))) pss_nil) (pss_cons (ps_if (pt_not (pt_val (pe_callS G__law_same.2.2.2.2 (hr.mono (by first | decide | omega)) rfl G__law_same.1 G__law_same.2.1 G__law_same.2.2.1 (fun σ => L2N.passAt tk σ) (pa_cons (pe_callS G__law_told.2.2.2.2 (hr.mono (by first | decide | omega)) rfl G__law_told.1 G__law_told.2.1 G__law_told.2.2.1 (fun σ => L2N.passAt tk σ) (pa_cons pe_str (pa_cons (pv 1) (pa_cons (pe_tup (pa_cons (pv 3) pa_nil)) pa_nil)))) (pa_cons (pv 4) pa_nil))))) (pss_one (ps_ret pe_bl)) pss_nil) (pss_cons (ps_set (i := 5) nd rfl (by first | exact Or.inl rfl | exact Or.inr rfl) (pe_callS G__law_text.2.2.2.2 (hr.mono (by first | decide | omega)) rfl G__law_text.1 G__law_text.2.1 G__law_text.2.2.1 (fun σ => L2N.passAt tk σ) (pa_cons (pv 0) (pa_cons (pv 2) (pa_cons pe_int pa_nil))))) (pss_cons (ps_set (i := 6) nd rfl (by first | exact Or.inl rfl | exact Or.inr rfl) (pe_cmpR (op_eqX hu) (pe_callS G__law_dip.2.2.2.2 (hr.mono (by first | decide | omega)) rfl G__law_dip.1 G__law_dip.2.1 G__law_dip.2.2.1 (fun σ => L2N.passAt tk σ) (pa_cons (pv 0) (pa_cons pe_int pa_nil))) pe_int (nomark _))) (pss_cons (ps_set (i := 7) nd rfl (by first | exact Or.inl rfl | exact Or.inr rfl) (pe_callS G__law_most.2.2.2.2 (hr.mono (by first | decide | omega)) rfl G__law_most.1 G__law_most.2.1 G__law_most.2.2.1 (fun σ => L2N.passAt tk σ) (pa_cons (pv 0) pa_nil))) (pss_cons (ps_set (i := 4) nd rfl (by first | exact Or.inl rfl | exact Or.inr rfl) (pe_tup (pa_cons pe_str (pa_cons (pe_tup (pa_cons (pe_op op_addA (pe_ix ix_seq (pv 1) pe_int (fun _ _ => rfl)) (pe_tup (pa_cons (pv 5) pa_nil))) (pa_cons (pe_op op_addA (pe_ix ix_seq (pv 1) pe_int (fun _ _ => rfl)) (pe_tup (pa_cons (pe_tup (pa_cons pe_str (pa_cons (pe_callB call_lenA (by rfl) T.n_len PySem.boot_len (pa_cons (pe_ix ix_seq (pv 1) pe_int (fun _ _ => rfl)) pa_nil)) (pa_cons (pv 6) (pa_cons (pv 7) pa_nil))))) pa_nil))) (pa_cons (pe_ix ix_seq (pv 1) pe_int (fun _ _ => rfl)) pa_nil)))) pa_nil)))) (pss_cons (ps_if (PW.pt (pw_or (pt_cmpR (op_eqX hu) (pe_callB call_lenA (by rfl) T.n_len PySem.boot_len (pa_cons (pe_ix ix_seq (pv 1) pe_int (fun _ _ => rfl)) pa_nil)) pe_int (nomark _)) (pw_or1 (pt_cmpR (op_eqX hu) (pe_callB call_lenA (by rfl) T.n_len PySem.boot_len (pa_cons (pe_ix ix_seq (pv 1) pe_int (fun _ _ => rfl)) pa_nil)) pe_int (nomark _))))) (pss_one (ps_set (i := 4) nd rfl (by first | exact Or.inl rfl | exact Or.inr rfl) (pe_tup (pa_cons pe_str (pa_cons pe_str pa_nil))))) pss_nil) (pss_cons (ps_if (pt_not (pt_val (pe_callS G__law_same.2.2.2.2 (hr.mono (by first | decide | omega)) rfl G__law_same.1 G__law_same.2.1 G__law_same.2.2.1 (fun σ => L2N.passAt tk σ) (pa_cons (pe_callS G__law_told.2.2.2.2 (hr.mono (by first | decide | omega)) rfl G__law_told.1 G__law_told.2.1 G__law_told.2.2.1 (fun σ => L2N.passAt tk σ) (pa_cons pe_str (pa_cons (pv 1) (pa_cons (pe_tup (pa_cons (pv 5) (pa_cons (pv 6) (pa_cons (pv 7) pa_nil)))) pa_nil)))) (pa_cons (pv 4) pa_nil))))) (pss_one (ps_ret pe_bl)) pss_nil) (pss_one (ps_ret (pe_callS G__law_same.2.2.2.2 (hr.mono (by first | decide | omega)) rfl G__law_same.1 G__law_same.2.1 G__law_same.2.2.1 (fun σ => L2N.passAt tk σ) (pa_cons (pe_callS G_with_new.2.2.2.2 (hr.mono (by first | decide | omega)) rfl G_with_new.1 G_with_new.2.1 G_with_new.2.2.1 (fun σ => L2N.passAt tk σ) (pa_cons (pv 1) (pa_cons (pv 5) pa_nil))) (pa_cons (pe_tup (pa_cons (pe_ix ix_seq (pv 1) pe_int (fun _ _ => rfl)) (pa_cons (pe_ix ix_seq (pv 1) pe_int (fun _ _ => rfl)) (pa_cons (pv 5) pa_nil)))) pa_nil))))))))))))))) (ss_cut (ss_asg (sim_op rs_ix (sim_call (simc_ref (simc_val sim_int (simc_val (sim_cb cs_len (sima_cons (sim_op rs_ix sim_varF sim_int) sima_nil)) simc_nil)))) sim_int) (g_name 3)) (ss_cut (ss_asg (sim_tup 2 (sima_cons (sim_str [116, 111, 108, 100] (by decide +kernel) (by decide)) (sima_cons (sim_tup 3 (sima_cons (sim_op rs_ix sim_varF sim_int) (sima_cons (sim_op rs_add (sim_op rs_ix sim_varF sim_int) (sim_tup 1 (sima_cons sim_varF sima_nil))) (sima_cons (sim_op rs_ix sim_varF sim_int) sima_nil)))) sima_nil))) (g_name 4)) (ss_cut (ss_if (simt_test (sim_op rs_eqA (sim_cb cs_len (sima_cons (sim_op rs_ix sim_varF sim_int) sima_nil)) sim_int)) (ss_asg (sim_tup 2 (sima_cons (sim_str [66, 97, 100, 67, 97, 108, 108] (by decide +kernel) (by decide)) (sima_cons (sim_str [109, 97, 110, 121] (by decide +kernel) (by decide)) sima_nil))) (g_name 4)) ss_nil) (ss_cut (ss_if (simt_not (simt_B (sim_call0 (sima_cons (sim_call0 (sima_cons (sim_str [114, 117, 108, 101] (by decide +kernel) (by decide)) (sima_cons sim_varF (sima_cons (sim_tup 1 (sima_cons sim_varF sima_nil)) sima_nil)))) (sima_cons sim_varF sima_nil))))) (ss_ret sim_bl) ss_nil) (ss_cons (ss_asg (sim_call (simc_ref (simc_val sim_varF (simc_val sim_int simc_nil)))) (g_name 5)) (ss_cut (ss_asg (sim_op rs_eqA (sim_call (simc_ref (simc_val sim_int simc_nil))) sim_int) (g_name 6)) (ss_cut (ss_asg (sim_call (simc_ref simc_nil)) (g_name 7)) (ss_cons (ss_asg (sim_tup 2 (sima_cons (sim_str [116, 111, 108, 100] (by decide +kernel) (by decide)) (sima_cons (sim_tup 3 (sima_cons (sim_op rs_add (sim_op rs_ix sim_varF sim_int) (sim_tup 1 (sima_cons sim_varF sima_nil))) (sima_cons (sim_op rs_add (sim_op rs_ix sim_varF sim_int) (sim_tup 1 (sima_cons (sim_tup 4 (sima_cons (sim_str [101, 108, 100, 101, 114] (by decide +kernel) (by decide)) (sima_cons (sim_cb cs_len (sima_cons (sim_op rs_ix sim_varF sim_int) sima_nil)) (sima_cons sim_varF (sima_cons sim_varF sima_nil))))) sima_nil))) (sima_cons (sim_op rs_ix sim_varF sim_int) sima_nil)))) sima_nil))) (g_name 4)) (ss_cut (ss_if (simt_or (simt_test (sim_op rs_eqA (sim_cb cs_len (sima_cons (sim_op rs_ix sim_varF sim_int) sima_nil)) sim_int)) (simt_test (sim_op rs_eqA (sim_cb cs_len (sima_cons (sim_op rs_ix sim_varF sim_int) sima_nil)) sim_int))) (ss_asg (sim_tup 2 (sima_cons (sim_str [66, 97, 100, 67, 97, 108, 108] (by decide +kernel) (by decide)) (sima_cons (sim_str [109, 97, 110, 121] (by decide +kernel) (by decide)) sima_nil))) (g_name 4)) ss_nil) (ss_cons (ss_if (simt_not (simt_B (sim_call0 (sima_cons (sim_call0 (sima_cons (sim_str [101, 108, 100, 101, 114] (by decide +kernel) (by decide)) (sima_cons sim_varF (sima_cons (sim_tup 3 (sima_cons sim_varF (sima_cons sim_varF (sima_cons sim_varF sima_nil)))) sima_nil)))) (sima_cons sim_varF sima_nil))))) (ss_ret sim_bl) ss_nil) (ss_ret (sim_call0 (sima_cons (sim_call0 (sima_cons sim_varF (sima_cons sim_varF sima_nil))) (sima_cons (sim_tup 3 (sima_cons (sim_op rs_ix sim_varF sim_int) (sima_cons (sim_op rs_ix sim_varF sim_int) (sima_cons sim_varF sima_nil)))) sima_nil)))))))))))))) wp__law_more_right
theorem ok__law_more_right (T : Top K mg) : Ok P w K mg base "_law_more_right" s__law_more_right ["tub", "case", "signs"] [true, false, false] 8 sp__law_more_right := ok_of T.t__law_more_right fun _ _ F => fo__law_more_right T F
theorem fo__law_forms_right (T : Top K mg) {f : Addr} {fd : FuncData} (F : Fun K "_law_forms_right" "_law_forms_right" s__law_forms_right f fd) : FnOk P w K mg base (L2N.CX P w) 8 f fd ["tub", "case"] (spOf K [true, false] sp__law_forms_right) := by
  obtain ⟨f__law_elder_rules, fd__law_elder_rules, G__law_elder_rules⟩ := ok__law_elder_rules (P := P) (w := w) (base := base) T
  obtain ⟨f__law_same, fd__law_same, G__law_same⟩ := ok__law_same (P := P) (w := w) (base := base) T
  obtain ⟨f_elder_case, fd_elder_case, G_elder_case⟩ := ok_elder_case (P := P) (w := w) (base := base) T
  obtain ⟨f_turned_case, fd_turned_case, G_turned_case⟩ := ok_turned_case (P := P) (w := w) (base := base) T
  obtain ⟨f__law_dip, fd__law_dip, G__law_dip⟩ := ok__law_dip (P := P) (w := w) (base := base) T
  obtain ⟨f_part_case, fd_part_case, G_part_case⟩ := ok_part_case (P := P) (w := w) (base := base) T
  refine fn_ok [true, false] sp__law_forms_right F sc__law_forms_right rfl (fun cdv A outer s H E hr => ?_)
  have nd := sc__law_forms_right.nd
  have hu := hr.units
  have tk : L2N.Takes (cxOf (L2N.CX P w) P w K mg base ["tub", "case", "rules", "size", "first", "end", "text"] "_law_forms_right" (defScope s__law_forms_right) f cdv A outer s H E) (fun cls d _ H => E cls d H) := L2N.takes_of rfl rfl rfl rfl
  exact bd_mk (t := m__law_forms_right) (pss_cons (ps_set (i := 2) nd rfl (by first | exact Or.inl rfl | exact Or.inr rfl) (pe_callS G__law_elder_rules.2.2.2.2 (hr.mono (by first | decide | omega)) rfl G__law_elder_rules.1 G__law_elder_rules.2.1 G__law_elder_rules.2.2.1 (fun σ => L2N.passAt tk σ) (pa_cons (pv 1) pa_nil))) (pss_cons (ps_if (pt_not (pt_val (pe_callS G__law_same.2.2.2.2 (hr.mono (by first | decide | omega)) rfl G__law_same.1 G__law_same.2.1 G__law_same.2.2.1 (fun σ => L2N.passAt tk σ) (pa_cons (pe_callS G_elder_case.2.2.2.2 (hr.mono (by first | decide | omega)) rfl G_elder_case.1 G_elder_case.2.1 G_elder_case.2.2.1 (fun σ => L2N.passAt tk σ) (pa_cons (pv 1) pa_nil)) (pa_cons (pe_tup (pa_cons (pe_ix ix_seq (pv 1) pe_int (fun _ _ => rfl)) (pa_cons (pv 2) (pa_cons (pe_ix ix_seq (pv 1) pe_int (fun _ _ => rfl)) pa_nil)))) pa_nil))))) (pss_one (ps_ret pe_bl)) pss_nil) (pss_cons (ps_if (pt_not (pt_val (pe_callS G__law_same.2.2.2.2 (hr.mono (by first | decide | omega)) rfl G__law_same.1 G__law_same.2.1 G__law_same.2.2.1 (fun σ => L2N.passAt tk σ) (pa_cons (pe_callS G_turned_case.2.2.2.2 (hr.mono (by first | decide | omega)) rfl G_turned_case.1 G_turned_case.2.1 G_turned_case.2.2.1 (fun σ => L2N.passAt tk σ) (pa_cons (pv 1) pa_nil)) (pa_cons (pe_tup (pa_cons (pe_callTy call_tuple_of (by rfl) T.n_tuple (by decide +kernel) (pa_cons (pe_lc (own := [("text", 6)]) (g := (gName 6)) rfl nd (pi_any (pe_ix ix_seq (pv 1) pe_int (fun _ _ => rfl))) (blkOk_by (N := ["tub", "case", "rules", "size", "first", "end", "text"]) (sc := defScope s__law_forms_right) (by decide +kernel)) (fun _ _ _ _ _ => (pg_name (i := 6) nd rfl (by first | exact Or.inl rfl | exact Or.inr rfl))) (fun _ _ _ _ _ => pts_nil) (fun _ _ _ _ _ => (pe_rev (pv 6)))) pa_nil)) (pa_cons (pv 2) (pa_cons (pe_rev (pe_ix ix_seq (pv 1) pe_int (fun _ _ => rfl))) pa_nil)))) pa_nil))))) (pss_one (ps_ret pe_bl)) pss_nil) (pss_cons (ps_set (i := 3) nd rfl (by first | exact Or.inl rfl | exact Or.inr rfl) (pe_callB call_lenA (by rfl) T.n_len PySem.boot_len (pa_cons (pe_ix ix_seq (pv 1) pe_int (fun _ _ => rfl)) pa_nil))) (pss_cons (ps_if (pt_cmpR (op_eqX hu) (pv 3) pe_int (nomark _)) (pss_one (ps_ret pe_bl)) pss_nil) (pss_cons (ps_set (i := 4) nd rfl (by first | exact Or.inl rfl | exact Or.inr rfl) (pe_callS G__law_dip.2.2.2.2 (hr.mono (by first | decide | omega)) rfl G__law_dip.1 G__law_dip.2.1 G__law_dip.2.2.1 (fun σ => L2N.passAt tk σ) (pa_cons (pv 0) (pa_cons (pv 3) pa_nil)))) (pss_cons (ps_set (i := 5) nd rfl (by first | exact Or.inl rfl | exact Or.inr rfl) (pe_op op_addA (pe_op op_addA (pv 4) pe_int) (pe_callS G__law_dip.2.2.2.2 (hr.mono (by first | decide | omega)) rfl G__law_dip.1 G__law_dip.2.1 G__law_dip.2.2.1 (fun σ => L2N.passAt tk σ) (pa_cons (pv 0) (pa_cons (pe_op op_sub (pv 3) (pv 4)) pa_nil))))) (pss_one (ps_ret (pe_callS G__law_same.2.2.2.2 (hr.mono (by first | decide | omega)) rfl G__law_same.1 G__law_same.2.1 G__law_same.2.2.1 (fun σ => L2N.passAt tk σ) (pa_cons (pe_callS G_part_case.2.2.2.2 (hr.mono (by first | decide | omega)) rfl G_part_case.1 G_part_case.2.1 G_part_case.2.2.1 (fun σ => L2N.passAt tk σ) (pa_cons (pv 1) (pa_cons (pe_tup (pa_cons (pv 4) (pa_cons (pv 5) pa_nil))) pa_nil))) (pa_cons (pe_tup (pa_cons (pe_ix ix_seq (pv 1) pe_int (fun _ _ => rfl)) (pa_cons (pv 2) (pa_cons (pe_slice sl_any (pe_ix ix_seq (pv 1) pe_int (fun _ _ => rfl)) (po_some (pv 4)) (po_some (pv 5))) pa_nil)))) pa_nil)))))))))))) (ss_cut (ss_asg (sim_call0 (sima_cons sim_varF sima_nil)) (g_name 2)) (ss_cut (ss_if (simt_not (simt_B (sim_call0 (sima_cons (sim_call0 (sima_cons sim_varF sima_nil)) (sima_cons (sim_tup 3 (sima_cons (sim_op rs_ix sim_varF sim_int) (sima_cons sim_varF (sima_cons (sim_op rs_ix sim_varF sim_int) sima_nil)))) sima_nil))))) (ss_ret sim_bl) ss_nil) (ss_cut (ss_if (simt_not (simt_B (sim_call0 (sima_cons (sim_call0 (sima_cons sim_varF sima_nil)) (sima_cons (sim_tup 3 (sima_cons (sim_cb cs_tuple (sima_cons (SimN.fz (simn_lc (simi_any (sim_op rs_ix sim_varF sim_int)) (g_name 6) simt_yes (sim_rev sim_varF))) sima_nil)) (sima_cons sim_varF (sima_cons (sim_rev (sim_op rs_ix sim_varF sim_int)) sima_nil)))) sima_nil))))) (ss_ret sim_bl) ss_nil) (ss_cut (ss_asg (sim_cb cs_len (sima_cons (sim_op rs_ix sim_varF sim_int) sima_nil)) (g_name 3)) (ss_cons (ss_if (simt_test (sim_op rs_eqA sim_varF sim_int)) (ss_ret sim_bl) ss_nil) (ss_cut (ss_asg (sim_call (simc_ref (simc_val sim_varF simc_nil))) (g_name 4)) (ss_cons (ss_asg (sim_op rs_add (sim_op rs_add sim_varF sim_int) (sim_call (simc_ref (simc_val (sim_op rs_sub sim_varF sim_varF) simc_nil)))) (g_name 5)) (ss_ret (sim_call0 (sima_cons (sim_call0 (sima_cons sim_varF (sima_cons (sim_tup 2 (sima_cons sim_varF (sima_cons sim_varF sima_nil))) sima_nil))) (sima_cons (sim_tup 3 (sima_cons (sim_op rs_ix sim_varF sim_int) (sima_cons sim_varF (sima_cons (sim_sl (sim_op rs_ix sim_varF sim_int) (sim_part sim_varF) (sim_part sim_varF)) sima_nil)))) sima_nil))))))))))) wp__law_forms_right
theorem ok__law_forms_right (T : Top K mg) : Ok P w K mg base "_law_forms_right" s__law_forms_right ["tub", "case"] [true, false] 8 sp__law_forms_right := ok_of T.t__law_forms_right fun _ _ F => fo__law_forms_right T F
theorem fo__law_edits_right (T : Top K mg) {f : Addr} {fd : FuncData} (F : Fun K "_law_edits_right" "_law_edits_right" s__law_edits_right f fd) : FnOk P w K mg base (L2N.CX P w) 10 f fd ["tub", "case", "signs", "effects"] (spOf K [true, false, false, false] sp__law_edits_right) := by
  obtain ⟨f__law_text, fd__law_text, G__law_text⟩ := ok__law_text (P := P) (w := w) (base := base) T
  obtain ⟨f__law_same, fd__law_same, G__law_same⟩ := ok__law_same (P := P) (w := w) (base := base) T
  obtain ⟨f__law_told, fd__law_told, G__law_told⟩ := ok__law_told (P := P) (w := w) (base := base) T
  obtain ⟨f__law_pieces, fd__law_pieces, G__law_pieces⟩ := ok__law_pieces (P := P) (w := w) (base := base) T
  obtain ⟨f_append_effect, fd_append_effect, G_append_effect⟩ := ok_append_effect (P := P) (w := w) (base := base) T
  obtain ⟨f__law_dip, fd__law_dip, G__law_dip⟩ := ok__law_dip (P := P) (w := w) (base := base) T
  obtain ⟨f_edit_effect, fd_edit_effect, G_edit_effect⟩ := ok_edit_effect (P := P) (w := w) (base := base) T
  refine fn_ok [true, false, false, false] sp__law_edits_right F sc__law_edits_right rfl (fun cdv A outer s H E hr => ?_)
  have nd := sc__law_edits_right.nd
  have hu := hr.units
  have tk : L2N.Takes (cxOf (L2N.CX P w) P w K mg base ["tub", "case", "signs", "effects", "new", "part", "due", "pieces", "first", "end"] "_law_edits_right" (defScope s__law_edits_right) f cdv A outer s H E) (fun cls d _ H => E cls d H) := L2N.takes_of rfl rfl rfl rfl
  exact bd_mk (t := m__law_edits_right) (pss_cons (ps_set (i := 4) nd rfl (by first | exact Or.inl rfl | exact Or.inr rfl) (pe_ix ix_seq (pv 1) pe_int (fun _ _ => rfl))) (pss_cons (ps_set (i := 5) nd rfl (by first | exact Or.inl rfl | exact Or.inr rfl) (pe_callS G__law_text.2.2.2.2 (hr.mono (by first | decide | omega)) rfl G__law_text.1 G__law_text.2.1 G__law_text.2.2.1 (fun σ => L2N.passAt tk σ) (pa_cons (pv 0) (pa_cons (pv 2) (pa_cons pe_int pa_nil))))) (pss_cons (ps_set (i := 6) nd rfl (by first | exact Or.inl rfl | exact Or.inr rfl) (pe_tup (pa_cons pe_str (pa_cons (pe_tup (pa_cons (pe_ix ix_seq (pv 1) pe_int (fun _ _ => rfl)) (pa_cons (pe_ix ix_seq (pv 1) pe_int (fun _ _ => rfl)) (pa_cons (pe_op op_addA (pv 4) (pv 5)) pa_nil)))) pa_nil)))) (pss_cons (ps_if (pt_cmpR (op_gtA) (pe_op op_addA (pe_callB call_lenA (by rfl) T.n_len PySem.boot_len (pa_cons (pv 4) pa_nil)) (pe_callB call_lenA (by rfl) T.n_len PySem.boot_len (pa_cons (pv 5) pa_nil))) pe_int (nomark _)) (pss_one (ps_set (i := 6) nd rfl (by first | exact Or.inl rfl | exact Or.inr rfl) (pe_tup (pa_cons pe_str (pa_cons pe_str pa_nil))))) pss_nil) (pss_cons (ps_if (pt_not (pt_val (pe_callS G__law_same.2.2.2.2 (hr.mono (by first | decide | omega)) rfl G__law_same.1 G__law_same.2.1 G__law_same.2.2.1 (fun σ => L2N.passAt tk σ) (pa_cons (pe_callS G__law_told.2.2.2.2 (hr.mono (by first | decide | omega)) rfl G__law_told.1 G__law_told.2.1 G__law_told.2.2.1 (fun σ => L2N.passAt tk σ) (pa_cons pe_str (pa_cons (pv 1) (pa_cons (pe_tup (pa_cons (pv 5) pa_nil)) pa_nil)))) (pa_cons (pv 6) pa_nil))))) (pss_one (ps_ret pe_bl)) pss_nil) (pss_cons (ps_set (i := 7) nd rfl (by first | exact Or.inl rfl | exact Or.inr rfl) pe_int) (pss_cons (ps_if (pt_val (pv 3)) (pss_cons (ps_set (i := 7) nd rfl (by first | exact Or.inl rfl | exact Or.inr rfl) (pe_callS G__law_pieces.2.2.2.2 (hr.mono (by first | decide | omega)) rfl G__law_pieces.1 G__law_pieces.2.1 G__law_pieces.2.2.1 (fun σ => L2N.passAt tk σ) (pa_cons (pv 1) pa_nil))) (pss_one (ps_if (pt_not (pt_val (pe_callS G__law_same.2.2.2.2 (hr.mono (by first | decide | omega)) rfl G__law_same.1 G__law_same.2.1 G__law_same.2.2.1 (fun σ => L2N.passAt tk σ) (pa_cons (pe_callS G_append_effect.2.2.2.2 (hr.mono (by first | decide | omega)) rfl G_append_effect.1 G_append_effect.2.1 G_append_effect.2.2.1 (fun σ => L2N.passAt tk σ) (pa_cons (pv 1) (pa_cons (pv 5) pa_nil))) (pa_cons (pe_op op_sub (pe_callS G__law_pieces.2.2.2.2 (hr.mono (by first | decide | omega)) rfl G__law_pieces.1 G__law_pieces.2.1 G__law_pieces.2.2.1 (fun σ => L2N.passAt tk σ) (pa_cons (pe_ix ix_seq (pv 6) pe_int (fun _ _ => rfl)) pa_nil)) (pv 7)) pa_nil))))) (pss_one (ps_ret pe_bl)) pss_nil))) pss_nil) (pss_cons (ps_if (pt_cmpR (op_eqX hu) (pv 4) pe_str (nomark _)) (pss_one (ps_ret pe_bl)) pss_nil) (pss_cons (ps_set (i := 8) nd rfl (by first | exact Or.inl rfl | exact Or.inr rfl) (pe_callS G__law_dip.2.2.2.2 (hr.mono (by first | decide | omega)) rfl G__law_dip.1 G__law_dip.2.1 G__law_dip.2.2.1 (fun σ => L2N.passAt tk σ) (pa_cons (pv 0) (pa_cons (pe_callB call_lenA (by rfl) T.n_len PySem.boot_len (pa_cons (pv 4) pa_nil)) pa_nil)))) (pss_cons (ps_set (i := 9) nd rfl (by first | exact Or.inl rfl | exact Or.inr rfl) (pe_callB (call_min2 rfl) (by rfl) T.n_min (by decide +kernel) (pa_cons (pe_callB call_lenA (by rfl) T.n_len PySem.boot_len (pa_cons (pv 4) pa_nil)) (pa_cons (pe_op op_addA (pe_op op_addA (pv 8) pe_int) (pe_callS G__law_dip.2.2.2.2 (hr.mono (by first | decide | omega)) rfl G__law_dip.1 G__law_dip.2.1 G__law_dip.2.2.1 (fun σ => L2N.passAt tk σ) (pa_cons (pv 0) (pa_cons pe_int pa_nil)))) pa_nil)))) (pss_cons (ps_set (i := 6) nd rfl (by first | exact Or.inl rfl | exact Or.inr rfl) (pe_tup (pa_cons pe_str (pa_cons (pe_tup (pa_cons (pe_ix ix_seq (pv 1) pe_int (fun _ _ => rfl)) (pa_cons (pe_ix ix_seq (pv 1) pe_int (fun _ _ => rfl)) (pa_cons (pe_op op_addA (pe_op op_addA (pe_slice sl_any (pv 4) po_none (po_some (pv 8))) (pv 5)) (pe_slice sl_any (pv 4) (po_some (pv 9)) po_none)) pa_nil)))) pa_nil)))) (pss_cons (ps_if (pt_cmpR (op_gtA) (pe_op op_addA (pe_op op_sub (pe_callB call_lenA (by rfl) T.n_len PySem.boot_len (pa_cons (pv 4) pa_nil)) (pe_op op_sub (pv 9) (pv 8))) (pe_callB call_lenA (by rfl) T.n_len PySem.boot_len (pa_cons (pv 5) pa_nil))) pe_int (nomark _)) (pss_one (ps_set (i := 6) nd rfl (by first | exact Or.inl rfl | exact Or.inr rfl) (pe_tup (pa_cons pe_str (pa_cons pe_str pa_nil))))) pss_nil) (pss_cons (ps_if (pt_not (pt_val (pe_callS G__law_same.2.2.2.2 (hr.mono (by first | decide | omega)) rfl G__law_same.1 G__law_same.2.1 G__law_same.2.2.1 (fun σ => L2N.passAt tk σ) (pa_cons (pe_callS G__law_told.2.2.2.2 (hr.mono (by first | decide | omega)) rfl G__law_told.1 G__law_told.2.1 G__law_told.2.2.1 (fun σ => L2N.passAt tk σ) (pa_cons pe_str (pa_cons (pv 1) (pa_cons (pe_tup (pa_cons (pe_tup (pa_cons (pv 8) (pa_cons (pv 9) pa_nil))) (pa_cons (pv 5) pa_nil))) pa_nil)))) (pa_cons (pv 6) pa_nil))))) (pss_one (ps_ret pe_bl)) pss_nil) (pss_one (ps_ret (pe_or (pe_not (pv 3)) (pe_one (pe_callS G__law_same.2.2.2.2 (hr.mono (by first | decide | omega)) rfl G__law_same.1 G__law_same.2.1 G__law_same.2.2.1 (fun σ => L2N.passAt tk σ) (pa_cons (pe_callS G_edit_effect.2.2.2.2 (hr.mono (by first | decide | omega)) rfl G_edit_effect.1 G_edit_effect.2.1 G_edit_effect.2.2.1 (fun σ => L2N.passAt tk σ) (pa_cons (pv 1) (pa_cons (pe_tup (pa_cons (pv 8) (pa_cons (pv 9) pa_nil))) (pa_cons (pv 5) pa_nil)))) (pa_cons (pe_op op_sub (pe_callS G__law_pieces.2.2.2.2 (hr.mono (by first | decide | omega)) rfl G__law_pieces.1 G__law_pieces.2.1 G__law_pieces.2.2.1 (fun σ => L2N.passAt tk σ) (pa_cons (pe_ix ix_seq (pv 6) pe_int (fun _ _ => rfl)) pa_nil)) (pv 7)) pa_nil)))))))))))))))))))) (ss_cons (ss_asg (sim_op rs_ix sim_varF sim_int) (g_name 4)) (ss_cut (ss_asg (sim_call (simc_ref (simc_val sim_varF (simc_val sim_int simc_nil)))) (g_name 5)) (ss_cut (ss_asg (sim_tup 2 (sima_cons (sim_str [116, 111, 108, 100] (by decide +kernel) (by decide)) (sima_cons (sim_tup 3 (sima_cons (sim_op rs_ix sim_varF sim_int) (sima_cons (sim_op rs_ix sim_varF sim_int) (sima_cons (sim_op rs_add sim_varF sim_varF) sima_nil)))) sima_nil))) (g_name 6)) (ss_cut (ss_if (simt_test (sim_op rs_gt (sim_op rs_add (sim_cb cs_len (sima_cons sim_varF sima_nil)) (sim_cb cs_len (sima_cons sim_varF sima_nil))) sim_int)) (ss_asg (sim_tup 2 (sima_cons (sim_str [66, 97, 100, 67, 97, 108, 108] (by decide +kernel) (by decide)) (sima_cons (sim_str [108, 111, 110, 103] (by decide +kernel) (by decide)) sima_nil))) (g_name 6)) ss_nil) (ss_cut (ss_if (simt_not (simt_B (sim_call0 (sima_cons (sim_call0 (sima_cons (sim_str [97, 112, 112, 101, 110, 100, 101, 100] (by decide +kernel) (by decide)) (sima_cons sim_varF (sima_cons (sim_tup 1 (sima_cons sim_varF sima_nil)) sima_nil)))) (sima_cons sim_varF sima_nil))))) (ss_ret sim_bl) ss_nil) (ss_cons (ss_asg sim_int (g_name 7)) (ss_cut (ss_if (simt_B sim_varF) (ss_cons (ss_asg (sim_call0 (sima_cons sim_varF sima_nil)) (g_name 7)) (ss_if (simt_not (simt_B (sim_call0 (sima_cons (sim_call0 (sima_cons sim_varF (sima_cons sim_varF sima_nil))) (sima_cons (sim_op rs_sub (sim_call0 (sima_cons (sim_op rs_ix sim_varF sim_int) sima_nil)) sim_varF) sima_nil))))) (ss_ret sim_bl) ss_nil)) ss_nil) (ss_cons (ss_if (simt_test (sim_op rs_eqA sim_varF (sim_str [] (by decide +kernel) (by decide)))) (ss_ret sim_bl) ss_nil) (ss_cut (ss_asg (sim_call (simc_ref (simc_val (sim_cb cs_len (sima_cons sim_varF sima_nil)) simc_nil))) (g_name 8)) (ss_cut (ss_asg (sim_cb cs_I2 (sima_cons (sim_cb cs_len (sima_cons sim_varF sima_nil)) (sima_cons (sim_op rs_add (sim_op rs_add sim_varF sim_int) (sim_call (simc_ref (simc_val sim_int simc_nil)))) sima_nil))) (g_name 9)) (ss_cut (ss_asg (sim_tup 2 (sima_cons (sim_str [116, 111, 108, 100] (by decide +kernel) (by decide)) (sima_cons (sim_tup 3 (sima_cons (sim_op rs_ix sim_varF sim_int) (sima_cons (sim_op rs_ix sim_varF sim_int) (sima_cons (sim_op rs_add (sim_op rs_add (sim_sl sim_varF sim_no (sim_part sim_varF)) sim_varF) (sim_sl sim_varF (sim_part sim_varF) sim_no)) sima_nil)))) sima_nil))) (g_name 6)) (ss_cut (ss_if (simt_test (sim_op rs_gt (sim_op rs_add (sim_op rs_sub (sim_cb cs_len (sima_cons sim_varF sima_nil)) (sim_op rs_sub sim_varF sim_varF)) (sim_cb cs_len (sima_cons sim_varF sima_nil))) sim_int)) (ss_asg (sim_tup 2 (sima_cons (sim_str [66, 97, 100, 67, 97, 108, 108] (by decide +kernel) (by decide)) (sima_cons (sim_str [108, 111, 110, 103] (by decide +kernel) (by decide)) sima_nil))) (g_name 6)) ss_nil) (ss_cons (ss_if (simt_not (simt_B (sim_call0 (sima_cons (sim_call0 (sima_cons (sim_str [101, 100, 105, 116, 101, 100] (by decide +kernel) (by decide)) (sima_cons sim_varF (sima_cons (sim_tup 2 (sima_cons (sim_tup 2 (sima_cons sim_varF (sima_cons sim_varF sima_nil))) (sima_cons sim_varF sima_nil))) sima_nil)))) (sima_cons sim_varF sima_nil))))) (ss_ret sim_bl) ss_nil) (ss_ret (sim_orV (sim_notV sim_varF) (sim_call0 (sima_cons (sim_call0 (sima_cons sim_varF (sima_cons (sim_tup 2 (sima_cons sim_varF (sima_cons sim_varF sima_nil))) (sima_cons sim_varF sima_nil)))) (sima_cons (sim_op rs_sub (sim_call0 (sima_cons (sim_op rs_ix sim_varF sim_int) sima_nil)) sim_varF) sima_nil)))))))))))))))))) wp__law_edits_right
theorem ok__law_edits_right (T : Top K mg) : Ok P w K mg base "_law_edits_right" s__law_edits_right ["tub", "case", "signs", "effects"] [true, false, false, false] 10 sp__law_edits_right := ok_of T.t__law_edits_right fun _ _ F => fo__law_edits_right T F
theorem fo_law (T : Top K mg) {f : Addr} {fd : FuncData} (F : Fun K "law" "law" s_law f fd) : FnOk P w K mg base (L2N.CX P w) 11 f fd ["script"] (spOf K [false] sp_law) := by
  obtain ⟨f__law_tub, fd__law_tub, G__law_tub⟩ := ok__law_tub (P := P) (w := w) (base := base) T
  obtain ⟨f__law_signs, fd__law_signs, G__law_signs⟩ := ok__law_signs (P := P) (w := w) (base := base) T
  obtain ⟨f__law_dip, fd__law_dip, G__law_dip⟩ := ok__law_dip (P := P) (w := w) (base := base) T
  obtain ⟨f__law_text, fd__law_text, G__law_text⟩ := ok__law_text (P := P) (w := w) (base := base) T
  obtain ⟨f__law_rules, fd__law_rules, G__law_rules⟩ := ok__law_rules (P := P) (w := w) (base := base) T
  obtain ⟨f__law_numbers_right, fd__law_numbers_right, G__law_numbers_right⟩ := ok__law_numbers_right (P := P) (w := w) (base := base) T
  obtain ⟨f__law_more_right, fd__law_more_right, G__law_more_right⟩ := ok__law_more_right (P := P) (w := w) (base := base) T
  obtain ⟨f__law_forms_right, fd__law_forms_right, G__law_forms_right⟩ := ok__law_forms_right (P := P) (w := w) (base := base) T
  obtain ⟨f__law_edits_right, fd__law_edits_right, G__law_edits_right⟩ := ok__law_edits_right (P := P) (w := w) (base := base) T
  obtain ⟨f__law_same, fd__law_same, G__law_same⟩ := ok__law_same (P := P) (w := w) (base := base) T
  obtain ⟨f__law_told, fd__law_told, G__law_told⟩ := ok__law_told (P := P) (w := w) (base := base) T
  refine fn_ok [false] sp_law F sc_law rfl (fun cdv A outer s H E hr => ?_)
  have nd := sc_law.nd
  have hu := hr.units
  have tk : L2N.Takes (cxOf (L2N.CX P w) P w K mg base ["script", "tub", "signs", "full", "many", "elders", "new", "case", "few", "size", "whole", "due", "some", "k"] "law" (defScope s_law) f cdv A outer s H E) (fun cls d _ H => E cls d H) := L2N.takes_of rfl rfl rfl rfl
  have key : T2 (npOf [false]) (fun cls d _ H => E cls d H) (cxOf (L2N.CX P w) P w K mg base ["script", "tub", "signs", "full", "many", "elders", "new", "case", "few", "size", "whole", "due", "some", "k"] "law" (defScope s_law) f cdv A outer s H E) (defBody s_law) m_law := by
    refine t_cons ⟨_, (ps_set (i := 1) nd rfl (by first | exact Or.inl rfl | exact Or.inr rfl) (pe_callS G__law_tub.2.2.2.2 (hr.mono (by first | decide | omega)) rfl G__law_tub.1 G__law_tub.2.1 G__law_tub.2.2.1 (fun σ => L2N.passAt tk σ) (pa_cons (pv 0) pa_nil))), (ss_setW (i := 1) (simw_call (simc_val sim_varF simc_nil)))⟩ ?_
    refine t_cons ⟨_, (ps_set (i := 2) nd rfl (by first | exact Or.inl rfl | exact Or.inr rfl) (pe_callS G__law_signs.2.2.2.2 (hr.mono (by first | decide | omega)) rfl G__law_signs.1 G__law_signs.2.1 G__law_signs.2.2.1 (fun σ => L2N.passAt tk σ) (pa_cons (pv 1) pa_nil))), (ss_asg (sim_call (simc_ref simc_nil)) (g_name 2))⟩ ?_
    refine t_cut ⟨_, (ps_set (i := 3) nd rfl (by first | exact Or.inl rfl | exact Or.inr rfl) (pe_callS G__law_dip.2.2.2.2 (hr.mono (by first | decide | omega)) rfl G__law_dip.1 G__law_dip.2.1 G__law_dip.2.2.1 (fun σ => L2N.passAt tk σ) (pa_cons (pv 1) (pa_cons pe_int pa_nil)))), (ss_asg (sim_call (simc_ref (simc_val sim_int simc_nil))) (g_name 3))⟩ ?_
    refine t_cons ⟨_, (ps_set (i := 4) nd rfl (by first | exact Or.inl rfl | exact Or.inr rfl) (pe_ix ix_seq (pe_tup (pa_cons pe_int (pa_cons pe_int (pa_cons pe_int (pa_cons pe_int (pa_cons pe_int pa_nil)))))) (pv 3) (fun _ _ => rfl))), (ss_asg (sim_op rs_ix (sim_tup 5 (sima_cons sim_int (sima_cons sim_int (sima_cons sim_int (sima_cons sim_int (sima_cons sim_int sima_nil)))))) sim_varF) (g_name 4))⟩ ?_
    refine t_cut ⟨_, (ps_set (i := 5) nd rfl (by first | exact Or.inl rfl | exact Or.inr rfl) (pe_callTy call_tuple_of (by rfl) T.n_tuple (by decide +kernel) (pa_cons (pe_lc (own := [("k", 13)]) (g := (gName 13)) rfl nd (pi_range1 rfl T.n_range (pa_cons (pv 4) pa_nil)) (blkOk_by (N := ["script", "tub", "signs", "full", "many", "elders", "new", "case", "few", "size", "whole", "due", "some", "k"]) (sc := defScope s_law) (by decide +kernel)) (fun _ _ _ _ _ => (pg_name (i := 13) nd rfl (by first | exact Or.inl rfl | exact Or.inr rfl))) (fun _ _ _ _ _ => pts_nil) (fun _ _ _ _ _ => (pe_callS G__law_text.2.2.2.2 (hr.mono (by first | decide | omega)) rfl G__law_text.1 G__law_text.2.1 G__law_text.2.2.1 (fun σ => L2N.passAt takes0N σ) (pa_cons (pv 1) (pa_cons (pv 2) (pa_cons pe_int pa_nil)))))) pa_nil))), (ss_asg (sim_cb cs_tuple (sima_cons (SimN.fz (simn_lc (simi_rng1 sim_varF) (g_name 13) simt_yes (sim_call (simc_ref (simc_val sim_varF (simc_val sim_int simc_nil)))))) sima_nil)) (g_name 5))⟩ ?_
    refine t_cut ⟨_, (ps_set (i := 6) nd rfl (by first | exact Or.inl rfl | exact Or.inr rfl) (pe_callS G__law_text.2.2.2.2 (hr.mono (by first | decide | omega)) rfl G__law_text.1 G__law_text.2.1 G__law_text.2.2.1 (fun σ => L2N.passAt tk σ) (pa_cons (pv 1) (pa_cons (pv 2) (pa_cons pe_int pa_nil))))), (ss_asg (sim_call (simc_ref (simc_val sim_varF (simc_val sim_int simc_nil)))) (g_name 6))⟩ ?_
    refine t_cut ⟨_, (ps_if (PW.pt (pw_and (pt_cmpR (op_gtA) (pv 4) pe_int (nomark _)) (pw_and1 (pt_cmpR (op_eqX hu) (pe_callS G__law_dip.2.2.2.2 (hr.mono (by first | decide | omega)) rfl G__law_dip.1 G__law_dip.2.1 G__law_dip.2.2.1 (fun σ => L2N.passAt tk σ) (pa_cons (pv 1) (pa_cons pe_int pa_nil))) pe_int (nomark _))))) (pss_one (ps_set (i := 6) nd rfl (by first | exact Or.inl rfl | exact Or.inr rfl) (pe_slice sl_any (pe_op op_addA (pe_op op_addA (pe_ix ix_seq (pv 5) pe_int (fun _ _ => rfl)) (pe_ix ix_seq (pv 5) (pe_un un_neg pe_int) (fun _ _ => rfl))) (pv 6)) po_none (po_some pe_int)))) pss_nil), (ss_if (simt_and (simt_test (sim_op rs_gt sim_varF sim_int)) (simt_test (sim_op rs_eqA (sim_call (simc_ref (simc_val sim_int simc_nil))) sim_int))) (ss_asg (sim_sl (sim_op rs_add (sim_op rs_add (sim_op rs_ix sim_varF sim_int) (sim_op rs_ix sim_varF (sim_un us_neg sim_int))) sim_varF) sim_no (sim_part sim_int)) (g_name 6)) ss_nil)⟩ ?_
    refine t_cut ⟨_, (ps_set (i := 7) nd rfl (by first | exact Or.inl rfl | exact Or.inr rfl) (pe_tup (pa_cons (pv 5) (pa_cons (pe_callS G__law_rules.2.2.2.2 (hr.mono (by first | decide | omega)) rfl G__law_rules.1 G__law_rules.2.1 G__law_rules.2.2.1 (fun σ => L2N.passAt tk σ) (pa_cons (pv 1) (pa_cons (pe_ix ix_seq (pe_tup (pa_cons pe_int (pa_cons pe_int (pa_cons pe_int (pa_cons pe_int (pa_cons pe_int pa_nil)))))) (pe_callS G__law_dip.2.2.2.2 (hr.mono (by first | decide | omega)) rfl G__law_dip.1 G__law_dip.2.1 G__law_dip.2.2.1 (fun σ => L2N.passAt tk σ) (pa_cons (pv 1) (pa_cons pe_int pa_nil))) (fun _ _ => rfl)) (pa_cons (pv 4) pa_nil)))) (pa_cons (pv 6) pa_nil))))), (ss_asg (sim_tup 3 (sima_cons sim_varF (sima_cons (sim_call (simc_ref (simc_val (sim_op rs_ix (sim_tup 5 (sima_cons sim_int (sima_cons sim_int (sima_cons sim_int (sima_cons sim_int (sima_cons sim_int sima_nil)))))) (sim_call (simc_ref (simc_val sim_int simc_nil)))) (simc_val sim_varF simc_nil)))) (sima_cons sim_varF sima_nil)))) (g_name 7))⟩ ?_
    refine t_cut ⟨_, (ps_if (PW.pt (pw_or (pt_not (pt_val (pe_callS G__law_numbers_right.2.2.2.2 (hr.mono (by first | decide | omega)) rfl G__law_numbers_right.1 G__law_numbers_right.2.1 G__law_numbers_right.2.2.1 (fun σ => L2N.passAt tk σ) (pa_cons (pv 1) (pa_cons (pv 7) pa_nil))))) (pw_or (pt_not (pt_val (pe_callS G__law_more_right.2.2.2.2 (hr.mono (by first | decide | omega)) rfl G__law_more_right.1 G__law_more_right.2.1 G__law_more_right.2.2.1 (fun σ => L2N.passAt tk σ) (pa_cons (pv 1) (pa_cons (pv 7) (pa_cons (pv 2) pa_nil)))))) (pw_or1 (pt_not (pt_val (pe_callS G__law_forms_right.2.2.2.2 (hr.mono (by first | decide | omega)) rfl G__law_forms_right.1 G__law_forms_right.2.1 G__law_forms_right.2.2.1 (fun σ => L2N.passAt tk σ) (pa_cons (pv 1) (pa_cons (pv 7) pa_nil))))))))) (pss_one (ps_ret pe_bl)) pss_nil), (ss_if (simt_or (simt_not (simt_B (sim_call (simc_ref (simc_val sim_varF simc_nil))))) (simt_or (simt_not (simt_B (sim_call (simc_ref (simc_val sim_varF (simc_val sim_varF simc_nil)))))) (simt_not (simt_B (sim_call (simc_ref (simc_val sim_varF simc_nil))))))) (ss_ret sim_bl) ss_nil)⟩ ?_
    refine t_cut ⟨_, (ps_set (i := 8) nd rfl (by first | exact Or.inl rfl | exact Or.inr rfl) (pe_tup (pa_cons (pv 5) (pa_cons (pe_slice sl_any (pe_ix ix_seq (pv 7) pe_int (fun _ _ => rfl)) po_none (po_some pe_int)) (pa_cons (pv 6) pa_nil))))), (ss_asg (sim_tup 3 (sima_cons sim_varF (sima_cons (sim_sl (sim_op rs_ix sim_varF sim_int) sim_no (sim_part sim_int)) (sima_cons sim_varF sima_nil)))) (g_name 8))⟩ ?_
    refine t_cut ⟨_, (ps_if (PW.pt (pw_or (pt_not (pt_val (pe_callS G__law_edits_right.2.2.2.2 (hr.mono (by first | decide | omega)) rfl G__law_edits_right.1 G__law_edits_right.2.1 G__law_edits_right.2.2.1 (fun σ => L2N.passAt tk σ) (pa_cons (pv 1) (pa_cons (pv 8) (pa_cons (pv 2) (pa_cons pe_bl pa_nil))))))) (pw_or1 (pt_not (pt_val (pe_callS G__law_forms_right.2.2.2.2 (hr.mono (by first | decide | omega)) rfl G__law_forms_right.1 G__law_forms_right.2.1 G__law_forms_right.2.2.1 (fun σ => L2N.passAt tk σ) (pa_cons (pv 1) (pa_cons (pv 8) pa_nil)))))))) (pss_one (ps_ret pe_bl)) pss_nil), (ss_if (simt_or (simt_not (simt_B (sim_call (simc_ref (simc_val sim_varF (simc_val sim_varF (simc_val sim_bl simc_nil))))))) (simt_not (simt_B (sim_call (simc_ref (simc_val sim_varF simc_nil)))))) (ss_ret sim_bl) ss_nil)⟩ ?_
    refine t_cut ⟨_, (ps_set (i := 9) nd rfl (by first | exact Or.inl rfl | exact Or.inr rfl) (pe_op op_addA pe_int (pe_callS G__law_dip.2.2.2.2 (hr.mono (by first | decide | omega)) rfl G__law_dip.1 G__law_dip.2.1 G__law_dip.2.2.1 (fun σ => L2N.passAt tk σ) (pa_cons (pv 1) (pa_cons pe_int pa_nil))))), (ss_asg (sim_op rs_add sim_int (sim_call (simc_ref (simc_val sim_int simc_nil)))) (g_name 9))⟩ ?_
    refine t_cut ⟨_, (ps_if (pt_not (pt_val (pe_callS G__law_edits_right.2.2.2.2 (hr.mono (by first | decide | omega)) rfl G__law_edits_right.1 G__law_edits_right.2.1 G__law_edits_right.2.2.1 (fun σ => L2N.passAt tk σ) (pa_cons (pv 1) (pa_cons (pe_tup (pa_cons (pv 5) (pa_cons (pe_tup pa_nil) (pa_cons (pe_slice sl_any (pe_op op_mulA pe_str pe_int) po_none (po_some (pv 9))) pa_nil)))) (pa_cons (pv 2) (pa_cons pe_bl pa_nil))))))) (pss_one (ps_ret pe_bl)) pss_nil), (ss_if (simt_not (simt_B (sim_call (simc_ref (simc_val (sim_tup 3 (sima_cons sim_varF (sima_cons (sim_tup 0 sima_nil) (sima_cons (sim_sl (sim_op rs_mul (sim_str [97, 98] (by decide +kernel) (by decide)) sim_int) sim_no (sim_part sim_varF)) sima_nil)))) (simc_val sim_varF (simc_val sim_bl simc_nil))))))) (ss_ret sim_bl) ss_nil)⟩ ?_
    refine t_cut ⟨_, (ps_set (i := 10) nd rfl (by first | exact Or.inl rfl | exact Or.inr rfl) (pe_tup (pa_cons (pe_op op_mulA pe_str pe_int) (pa_cons (pe_tup (pa_cons pe_int (pa_cons pe_int pa_nil))) (pa_cons (pe_op op_mulA pe_str (pe_op op_addA pe_int (pe_callS G__law_dip.2.2.2.2 (hr.mono (by first | decide | omega)) rfl G__law_dip.1 G__law_dip.2.1 G__law_dip.2.2.1 (fun σ => L2N.passAt tk σ) (pa_cons (pv 1) (pa_cons pe_int pa_nil))))) pa_nil))))), (ss_asg (sim_tup 3 (sima_cons (sim_op rs_mul (sim_str [99] (by decide +kernel) (by decide)) sim_int) (sima_cons (sim_tup 2 (sima_cons sim_int (sima_cons sim_int sima_nil))) (sima_cons (sim_op rs_mul (sim_str [100] (by decide +kernel) (by decide)) (sim_op rs_add sim_int (sim_call (simc_ref (simc_val sim_int simc_nil))))) sima_nil)))) (g_name 10))⟩ ?_
    refine t_cut ⟨_, (ps_set (i := 11) nd rfl (by first | exact Or.inl rfl | exact Or.inr rfl) (pe_tup (pa_cons pe_str (pa_cons (pe_tup (pa_cons (pe_tup pa_nil) (pa_cons (pe_tup pa_nil) (pa_cons (pe_op op_addA (pe_ix ix_seq (pv 10) pe_int (fun _ _ => rfl)) pe_str) pa_nil)))) pa_nil)))), (ss_asg (sim_tup 2 (sima_cons (sim_str [116, 111, 108, 100] (by decide +kernel) (by decide)) (sima_cons (sim_tup 3 (sima_cons (sim_tup 0 sima_nil) (sima_cons (sim_tup 0 sima_nil) (sima_cons (sim_op rs_add (sim_op rs_ix sim_varF sim_int) (sim_str [99] (by decide +kernel) (by decide))) sima_nil)))) sima_nil))) (g_name 11))⟩ ?_
    refine t_cut ⟨_, (ps_if (pt_cmpR (op_gtA) (pe_callB call_lenA (by rfl) T.n_len PySem.boot_len (pa_cons (pe_ix ix_seq (pv 10) pe_int (fun _ _ => rfl)) pa_nil)) pe_int (nomark _)) (pss_one (ps_set (i := 11) nd rfl (by first | exact Or.inl rfl | exact Or.inr rfl) (pe_tup (pa_cons pe_str (pa_cons pe_str pa_nil))))) pss_nil), (ss_if (simt_test (sim_op rs_gt (sim_cb cs_len (sima_cons (sim_op rs_ix sim_varF sim_int) sima_nil)) sim_int)) (ss_asg (sim_tup 2 (sima_cons (sim_str [66, 97, 100, 67, 97, 108, 108] (by decide +kernel) (by decide)) (sima_cons (sim_str [108, 111, 110, 103] (by decide +kernel) (by decide)) sima_nil))) (g_name 11)) ss_nil)⟩ ?_
    refine t_cut (t1_arg (fun te hp hs => ⟨_, (ps_if (pt_not (pt_val (pe_callS G__law_same.2.2.2.2 (hr.mono (by first | decide | omega)) rfl G__law_same.1 G__law_same.2.1 G__law_same.2.2.1 (fun σ => L2N.passAt tk σ) (pa_cons hp (pa_cons (pv 11) pa_nil))))) (pss_one (ps_ret pe_bl)) pss_nil), (ss_if (simt_not (simt_B (sim_call0 (sima_cons hs (sima_cons sim_varF sima_nil))))) (ss_ret sim_bl) ss_nil)⟩) ⟨_, (pe_callS G__law_told.2.2.2.2 (hr.mono (by first | decide | omega)) rfl G__law_told.1 G__law_told.2.1 G__law_told.2.2.1 (fun σ => L2N.passAt tk σ) (pa_cons pe_str (pa_cons (pe_tup (pa_cons (pe_tup pa_nil) (pa_cons (pe_tup pa_nil) (pa_cons (pe_ix ix_seq (pv 10) pe_int (fun _ _ => rfl)) pa_nil)))) (pa_cons (pe_tup (pa_cons (pe_ix ix_seq (pv 10) pe_int (fun _ _ => rfl)) (pa_cons (pe_ix ix_seq (pv 10) pe_int (fun _ _ => rfl)) pa_nil))) pa_nil)))), (sim_call0 (sima_cons (sim_str [101, 100, 105, 116, 101, 100] (by decide +kernel) (by decide)) (sima_cons (sim_tup 3 (sima_cons (sim_tup 0 sima_nil) (sima_cons (sim_tup 0 sima_nil) (sima_cons (sim_op rs_ix sim_varF sim_int) sima_nil)))) (sima_cons (sim_tup 2 (sima_cons (sim_op rs_ix sim_varF sim_int) (sima_cons (sim_op rs_ix sim_varF sim_int) sima_nil))) sima_nil))))⟩) ?_
    refine t_cons ⟨_, (ps_set (i := 12) nd rfl (by first | exact Or.inl rfl | exact Or.inr rfl) (pe_tup (pa_cons (pe_op op_repT (pe_tup (pa_cons pe_str pa_nil)) pe_int) (pa_cons (pe_op op_repT (pe_tup (pa_cons (pe_tup (pa_cons pe_str (pa_cons pe_int (pa_cons pe_bl (pa_cons pe_bl (pa_cons pe_int pa_nil)))))) pa_nil)) (pe_op op_addA pe_int (pe_callS G__law_dip.2.2.2.2 (hr.mono (by first | decide | omega)) rfl G__law_dip.1 G__law_dip.2.1 G__law_dip.2.2.1 (fun σ => L2N.passAt tk σ) (pa_cons (pv 1) (pa_cons pe_int pa_nil))))) (pa_cons pe_str pa_nil))))), (ss_asg (sim_tup 3 (sima_cons (sim_op rs_mulT (sim_tup 1 (sima_cons (sim_str [97] (by decide +kernel) (by decide)) sima_nil)) sim_int) (sima_cons (sim_op rs_mulT (sim_tup 1 (sima_cons (sim_tup 5 (sima_cons (sim_str [98, 97, 99, 107] (by decide +kernel) (by decide)) (sima_cons sim_int (sima_cons sim_bl (sima_cons sim_bl (sima_cons sim_int sima_nil)))))) sima_nil)) (sim_op rs_add sim_int (sim_call (simc_ref (simc_val sim_int simc_nil))))) (sima_cons (sim_str [97, 97] (by decide +kernel) (by decide)) sima_nil)))) (g_name 12))⟩ ?_
    exact t_one ⟨_, (ps_ret (pe_and (pe_callS G__law_more_right.2.2.2.2 (hr.mono (by first | decide | omega)) rfl G__law_more_right.1 G__law_more_right.2.1 G__law_more_right.2.2.1 (fun σ => L2N.passAt tk σ) (pa_cons (pv 1) (pa_cons (pv 12) (pa_cons (pv 2) pa_nil)))) (pe_and (pe_callS G__law_numbers_right.2.2.2.2 (hr.mono (by first | decide | omega)) rfl G__law_numbers_right.1 G__law_numbers_right.2.1 G__law_numbers_right.2.2.1 (fun σ => L2N.passAt tk σ) (pa_cons (pv 1) (pa_cons (pv 12) pa_nil))) (pe_one (pe_callS G__law_forms_right.2.2.2.2 (hr.mono (by first | decide | omega)) rfl G__law_forms_right.1 G__law_forms_right.2.1 G__law_forms_right.2.2.1 (fun σ => L2N.passAt tk σ) (pa_cons (pv 1) (pa_cons (pv 12) pa_nil))))))), (ss_ret (sim_andV (sim_call (simc_ref (simc_val sim_varF (simc_val sim_varF simc_nil)))) (sim_andV (sim_call (simc_ref (simc_val sim_varF simc_nil))) (sim_call (simc_ref (simc_val sim_varF simc_nil))))))⟩
  obtain ⟨Tx, hP, hS⟩ := key
  exact bd_mk (t := m_law) hP hS wp_law
theorem ok_law (T : Top K mg) : Ok P w K mg base "law" s_law ["script"] [false] 11 sp_law := ok_of T.t_law fun _ _ F => fo_law T F
end
theorem law_end {l : PySem.W.OpenLaw} {w : World} {K : Frg} {mg : Str → Option Value} {fa : Addr} (T : Top K mg) (hmg : mg "law" = some (.ref fa)) :
    ∃ fd : FuncData, (∀ (s : Shared) (u : Value), BindsTo s fd ⟨[u], []⟩ [("script", u)]) ∧ ∀ base : Heap, K.In base → base.Ns mainGlobals mg → FnOk l.prog w K mg base (L2N.CX l.prog w) 11 fa fd ["script"] (spOf K [false] spLaw) :=
  law_F hmg T.t_law fun base f fd F => fo_law T F
theorem top_mk {K : Frg} {mg : Str → Option Value} {h : Heap} (X : K.In h) (G : h.Ns mainGlobals mg)
    {f0 : Addr} {od0 an0 : Option Addr} {sl0 : Array (Option Value)} {oc0 kV0 dc0 pm0 cd0 ct0 : Value}
    {f1 : Addr} {od1 an1 : Option Addr} {sl1 : Array (Option Value)} {oc1 kV1 dc1 pm1 cd1 ct1 : Value}
    {f2 : Addr} {od2 an2 : Option Addr} {sl2 : Array (Option Value)} {oc2 kV2 dc2 pm2 cd2 ct2 : Value}
    {f3 : Addr} {od3 an3 : Option Addr} {sl3 : Array (Option Value)} {oc3 kV3 dc3 pm3 cd3 ct3 : Value}
    {f4 : Addr} {od4 an4 : Option Addr} {sl4 : Array (Option Value)} {oc4 kV4 dc4 pm4 cd4 ct4 : Value}
    {f5 : Addr} {od5 an5 : Option Addr} {sl5 : Array (Option Value)} {oc5 kV5 dc5 pm5 cd5 ct5 : Value}
    {f6 : Addr} {od6 an6 : Option Addr} {sl6 : Array (Option Value)} {oc6 kV6 dc6 pm6 cd6 ct6 : Value}
    {f7 : Addr} {od7 an7 : Option Addr} {sl7 : Array (Option Value)} {oc7 kV7 dc7 pm7 cd7 ct7 : Value}
    {f8 : Addr} {od8 an8 : Option Addr} {sl8 : Array (Option Value)} {oc8 kV8 dc8 pm8 cd8 ct8 : Value}
    {f9 : Addr} {od9 an9 : Option Addr} {sl9 : Array (Option Value)} {oc9 kV9 dc9 pm9 cd9 ct9 : Value}
    {f10 : Addr} {od10 an10 : Option Addr} {sl10 : Array (Option Value)} {oc10 kV10 dc10 pm10 cd10 ct10 : Value}
    {f11 : Addr} {od11 an11 : Option Addr} {sl11 : Array (Option Value)} {oc11 kV11 dc11 pm11 cd11 ct11 : Value}
    {f12 : Addr} {od12 an12 : Option Addr} {sl12 : Array (Option Value)} {oc12 kV12 dc12 pm12 cd12 ct12 : Value}
    {f13 : Addr} {od13 an13 : Option Addr} {sl13 : Array (Option Value)} {oc13 kV13 dc13 pm13 cd13 ct13 : Value}
    {f14 : Addr} {od14 an14 : Option Addr} {sl14 : Array (Option Value)} {oc14 kV14 dc14 pm14 cd14 ct14 : Value}
    {f15 : Addr} {od15 an15 : Option Addr} {sl15 : Array (Option Value)} {oc15 kV15 dc15 pm15 cd15 ct15 : Value}
    {f16 : Addr} {od16 an16 : Option Addr} {sl16 : Array (Option Value)} {oc16 kV16 dc16 pm16 cd16 ct16 : Value}
    {f17 : Addr} {od17 an17 : Option Addr} {sl17 : Array (Option Value)} {oc17 kV17 dc17 pm17 cd17 ct17 : Value}
    {f18 : Addr} {od18 an18 : Option Addr} {sl18 : Array (Option Value)} {oc18 kV18 dc18 pm18 cd18 ct18 : Value}
    {f19 : Addr} {od19 an19 : Option Addr} {sl19 : Array (Option Value)} {oc19 kV19 dc19 pm19 cd19 ct19 : Value}
    {f20 : Addr} {od20 an20 : Option Addr} {sl20 : Array (Option Value)} {oc20 kV20 dc20 pm20 cd20 ct20 : Value}
    {f21 : Addr} {od21 an21 : Option Addr} {sl21 : Array (Option Value)} {oc21 kV21 dc21 pm21 cd21 ct21 : Value}
    {f22 : Addr} {od22 an22 : Option Addr} {sl22 : Array (Option Value)} {oc22 kV22 dc22 pm22 cd22 ct22 : Value}
    {f23 : Addr} {od23 an23 : Option Addr} {sl23 : Array (Option Value)} {oc23 kV23 dc23 pm23 cd23 ct23 : Value}
    {f24 : Addr} {od24 an24 : Option Addr} {sl24 : Array (Option Value)} {oc24 kV24 dc24 pm24 cd24 ct24 : Value}
    {f25 : Addr} {od25 an25 : Option Addr} {sl25 : Array (Option Value)} {oc25 kV25 dc25 pm25 cd25 ct25 : Value}
    {f26 : Addr} {od26 an26 : Option Addr} {sl26 : Array (Option Value)} {oc26 kV26 dc26 pm26 cd26 ct26 : Value}
    {f27 : Addr} {od27 an27 : Option Addr} {sl27 : Array (Option Value)} {oc27 kV27 dc27 pm27 cd27 ct27 : Value}
    {f28 : Addr} {od28 an28 : Option Addr} {sl28 : Array (Option Value)} {oc28 kV28 dc28 pm28 cd28 ct28 : Value}
    {f29 : Addr} {od29 an29 : Option Addr} {sl29 : Array (Option Value)} {oc29 kV29 dc29 pm29 cd29 ct29 : Value}
    {f30 : Addr} {od30 an30 : Option Addr} {sl30 : Array (Option Value)} {oc30 kV30 dc30 pm30 cd30 ct30 : Value}
    {f31 : Addr} {od31 an31 : Option Addr} {sl31 : Array (Option Value)} {oc31 kV31 dc31 pm31 cd31 ct31 : Value}
    {f32 : Addr} {od32 an32 : Option Addr} {sl32 : Array (Option Value)} {oc32 kV32 dc32 pm32 cd32 ct32 : Value}
    {f33 : Addr} {od33 an33 : Option Addr} {sl33 : Array (Option Value)} {oc33 kV33 dc33 pm33 cd33 ct33 : Value}
    {f34 : Addr} {od34 an34 : Option Addr} {sl34 : Array (Option Value)} {oc34 kV34 dc34 pm34 cd34 ct34 : Value}
    {f35 : Addr} {od35 an35 : Option Addr} {sl35 : Array (Option Value)} {oc35 kV35 dc35 pm35 cd35 ct35 : Value}
    {f36 : Addr} {od36 an36 : Option Addr} {sl36 : Array (Option Value)} {oc36 kV36 dc36 pm36 cd36 ct36 : Value}
    {f37 : Addr} {od37 an37 : Option Addr} {sl37 : Array (Option Value)} {oc37 kV37 dc37 pm37 cd37 ct37 : Value}
    {f38 : Addr} {od38 an38 : Option Addr} {sl38 : Array (Option Value)} {oc38 kV38 dc38 pm38 cd38 ct38 : Value}
    {f39 : Addr} {od39 an39 : Option Addr} {sl39 : Array (Option Value)} {oc39 kV39 dc39 pm39 cd39 ct39 : Value}
    {f40 : Addr} {od40 an40 : Option Addr} {sl40 : Array (Option Value)} {oc40 kV40 dc40 pm40 cd40 ct40 : Value}
    {tk_MOST_ELDERS : Tok}
    {tk_MOST_RULES : Tok}
    {tk_MOST_SIGNS : Tok}
    {XC0 : Addr}
    {XC2 : Addr}
    {XC3 : Addr}
    {XC12 : Addr}
    {XC13 : Addr}
    {xnm12 xq12 : Str} {xN12 xI12 : Addr} {xbs12 xbm12 xsu12 : List Value} {xsn12 : List Str} {xab12 : Bool} {xco12 : Option Bool} {xdd12 xod12 xan12 : Option Addr} {xk012 xk112 xk212 xk312 xk512 : Option Value} {xsl12 : Array (Option Value)} {xoc12 xkV12 xdc12 xpm12 xcd12 xct12 : Value}
    {xnm13 xq13 : Str} {xN13 xI13 : Addr} {xbs13 xbm13 xsu13 : List Value} {xsn13 : List Str} {xab13 : Bool} {xco13 : Option Bool} {xdd13 xod13 xan13 : Option Addr} {xk013 xk113 xk213 xk313 xk513 : Option Value} {xsl13 : Array (Option Value)} {xoc13 xkV13 xdc13 xpm13 xcd13 xct13 : Value}
    (a0 : PySem.W.nsIn K mainGlobals "is_number" = some (some (.ref f0))) (l0 : K.lookup f0 = some ⟨oc0, od0, .func (PySem.W.fnOf "is_number" "is_number" (defArgs s_is_number) (defBody s_is_number) (defScope s_is_number) .none kV0 dc0 pm0 an0 cd0 ct0), sl0⟩) (c0 : PySem.W.codeIn K cd0 "is_number" = true) (k0 : PySem.W.keepIn K (.ref f0) = true)
    (a1 : PySem.W.nsIn K mainGlobals "check_stretch" = some (some (.ref f1))) (l1 : K.lookup f1 = some ⟨oc1, od1, .func (PySem.W.fnOf "check_stretch" "check_stretch" (defArgs s_check_stretch) (defBody s_check_stretch) (defScope s_check_stretch) .none kV1 dc1 pm1 an1 cd1 ct1), sl1⟩) (c1 : PySem.W.codeIn K cd1 "check_stretch" = true) (k1 : PySem.W.keepIn K (.ref f1) = true)
    (a2 : PySem.W.nsIn K mainGlobals "spliced" = some (some (.ref f2))) (l2 : K.lookup f2 = some ⟨oc2, od2, .func (PySem.W.fnOf "spliced" "spliced" (defArgs s_spliced) (defBody s_spliced) (defScope s_spliced) .none kV2 dc2 pm2 an2 cd2 ct2), sl2⟩) (c2 : PySem.W.codeIn K cd2 "spliced" = true) (k2 : PySem.W.keepIn K (.ref f2) = true)
    (a3 : PySem.W.nsIn K mainGlobals "is_turning" = some (some (.ref f3))) (l3 : K.lookup f3 = some ⟨oc3, od3, .func (PySem.W.fnOf "is_turning" "is_turning" (defArgs s_is_turning) (defBody s_is_turning) (defScope s_is_turning) .none kV3 dc3 pm3 an3 cd3 ct3), sl3⟩) (c3 : PySem.W.codeIn K cd3 "is_turning" = true) (k3 : PySem.W.keepIn K (.ref f3) = true)
    (a4 : PySem.W.nsIn K mainGlobals "_heard_by" = some (some (.ref f4))) (l4 : K.lookup f4 = some ⟨oc4, od4, .func (PySem.W.fnOf "_heard_by" "_heard_by" (defArgs s__heard_by) (defBody s__heard_by) (defScope s__heard_by) .none kV4 dc4 pm4 an4 cd4 ct4), sl4⟩) (c4 : PySem.W.codeIn K cd4 "_heard_by" = true) (k4 : PySem.W.keepIn K (.ref f4) = true)
    (a5 : PySem.W.nsIn K mainGlobals "is_heard" = some (some (.ref f5))) (l5 : K.lookup f5 = some ⟨oc5, od5, .func (PySem.W.fnOf "is_heard" "is_heard" (defArgs s_is_heard) (defBody s_is_heard) (defScope s_is_heard) .none kV5 dc5 pm5 an5 cd5 ct5), sl5⟩) (c5 : PySem.W.codeIn K cd5 "is_heard" = true) (k5 : PySem.W.keepIn K (.ref f5) = true)
    (a6 : PySem.W.nsIn K mainGlobals "reach_table" = some (some (.ref f6))) (l6 : K.lookup f6 = some ⟨oc6, od6, .func (PySem.W.fnOf "reach_table" "reach_table" (defArgs s_reach_table) (defBody s_reach_table) (defScope s_reach_table) .none kV6 dc6 pm6 an6 cd6 ct6), sl6⟩) (c6 : PySem.W.codeIn K cd6 "reach_table" = true) (k6 : PySem.W.keepIn K (.ref f6) = true)
    (a7 : PySem.W.nsIn K mainGlobals "greedy_cuts" = some (some (.ref f7))) (l7 : K.lookup f7 = some ⟨oc7, od7, .func (PySem.W.fnOf "greedy_cuts" "greedy_cuts" (defArgs s_greedy_cuts) (defBody s_greedy_cuts) (defScope s_greedy_cuts) .none kV7 dc7 pm7 an7 cd7 ct7), sl7⟩) (c7 : PySem.W.codeIn K cd7 "greedy_cuts" = true) (k7 : PySem.W.keepIn K (.ref f7) = true)
    (a8 : PySem.W.nsIn K mainGlobals "fewest_count" = some (some (.ref f8))) (l8 : K.lookup f8 = some ⟨oc8, od8, .func (PySem.W.fnOf "fewest_count" "fewest_count" (defArgs s_fewest_count) (defBody s_fewest_count) (defScope s_fewest_count) .none kV8 dc8 pm8 an8 cd8 ct8), sl8⟩) (c8 : PySem.W.codeIn K cd8 "fewest_count" = true) (k8 : PySem.W.keepIn K (.ref f8) = true)
    (a9 : PySem.W.nsIn K mainGlobals "piece_count" = some (some (.ref f9))) (l9 : K.lookup f9 = some ⟨oc9, od9, .func (PySem.W.fnOf "piece_count" "piece_count" (defArgs s_piece_count) (defBody s_piece_count) (defScope s_piece_count) .none kV9 dc9 pm9 an9 cd9 ct9), sl9⟩) (c9 : PySem.W.codeIn K cd9 "piece_count" = true) (k9 : PySem.W.keepIn K (.ref f9) = true)
    (a10 : PySem.W.nsIn K mainGlobals "with_new" = some (some (.ref f10))) (l10 : K.lookup f10 = some ⟨oc10, od10, .func (PySem.W.fnOf "with_new" "with_new" (defArgs s_with_new) (defBody s_with_new) (defScope s_with_new) .none kV10 dc10 pm10 an10 cd10 ct10), sl10⟩) (c10 : PySem.W.codeIn K cd10 "with_new" = true) (k10 : PySem.W.keepIn K (.ref f10) = true)
    (a11 : PySem.W.nsIn K mainGlobals "with_rule" = some (some (.ref f11))) (l11 : K.lookup f11 = some ⟨oc11, od11, .func (PySem.W.fnOf "with_rule" "with_rule" (defArgs s_with_rule) (defBody s_with_rule) (defScope s_with_rule) .none kV11 dc11 pm11 an11 cd11 ct11), sl11⟩) (c11 : PySem.W.codeIn K cd11 "with_rule" = true) (k11 : PySem.W.keepIn K (.ref f11) = true)
    (a12 : PySem.W.nsIn K mainGlobals "with_elder" = some (some (.ref f12))) (l12 : K.lookup f12 = some ⟨oc12, od12, .func (PySem.W.fnOf "with_elder" "with_elder" (defArgs s_with_elder) (defBody s_with_elder) (defScope s_with_elder) .none kV12 dc12 pm12 an12 cd12 ct12), sl12⟩) (c12 : PySem.W.codeIn K cd12 "with_elder" = true) (k12 : PySem.W.keepIn K (.ref f12) = true)
    (a13 : PySem.W.nsIn K mainGlobals "without_elder" = some (some (.ref f13))) (l13 : K.lookup f13 = some ⟨oc13, od13, .func (PySem.W.fnOf "without_elder" "without_elder" (defArgs s_without_elder) (defBody s_without_elder) (defScope s_without_elder) .none kV13 dc13 pm13 an13 cd13 ct13), sl13⟩) (c13 : PySem.W.codeIn K cd13 "without_elder" = true) (k13 : PySem.W.keepIn K (.ref f13) = true)
    (a14 : PySem.W.nsIn K mainGlobals "turned_case" = some (some (.ref f14))) (l14 : K.lookup f14 = some ⟨oc14, od14, .func (PySem.W.fnOf "turned_case" "turned_case" (defArgs s_turned_case) (defBody s_turned_case) (defScope s_turned_case) .none kV14 dc14 pm14 an14 cd14 ct14), sl14⟩) (c14 : PySem.W.codeIn K cd14 "turned_case" = true) (k14 : PySem.W.keepIn K (.ref f14) = true)
    (a15 : PySem.W.nsIn K mainGlobals "elder_case" = some (some (.ref f15))) (l15 : K.lookup f15 = some ⟨oc15, od15, .func (PySem.W.fnOf "elder_case" "elder_case" (defArgs s_elder_case) (defBody s_elder_case) (defScope s_elder_case) .none kV15 dc15 pm15 an15 cd15 ct15), sl15⟩) (c15 : PySem.W.codeIn K cd15 "elder_case" = true) (k15 : PySem.W.keepIn K (.ref f15) = true)
    (a16 : PySem.W.nsIn K mainGlobals "part_case" = some (some (.ref f16))) (l16 : K.lookup f16 = some ⟨oc16, od16, .func (PySem.W.fnOf "part_case" "part_case" (defArgs s_part_case) (defBody s_part_case) (defScope s_part_case) .none kV16 dc16 pm16 an16 cd16 ct16), sl16⟩) (c16 : PySem.W.codeIn K cd16 "part_case" = true) (k16 : PySem.W.keepIn K (.ref f16) = true)
    (a17 : PySem.W.nsIn K mainGlobals "appended_case" = some (some (.ref f17))) (l17 : K.lookup f17 = some ⟨oc17, od17, .func (PySem.W.fnOf "appended_case" "appended_case" (defArgs s_appended_case) (defBody s_appended_case) (defScope s_appended_case) .none kV17 dc17 pm17 an17 cd17 ct17), sl17⟩) (c17 : PySem.W.codeIn K cd17 "appended_case" = true) (k17 : PySem.W.keepIn K (.ref f17) = true)
    (a18 : PySem.W.nsIn K mainGlobals "edited_case" = some (some (.ref f18))) (l18 : K.lookup f18 = some ⟨oc18, od18, .func (PySem.W.fnOf "edited_case" "edited_case" (defArgs s_edited_case) (defBody s_edited_case) (defScope s_edited_case) .none kV18 dc18 pm18 an18 cd18 ct18), sl18⟩) (c18 : PySem.W.codeIn K cd18 "edited_case" = true) (k18 : PySem.W.keepIn K (.ref f18) = true)
    (a19 : PySem.W.nsIn K mainGlobals "edit_effect" = some (some (.ref f19))) (l19 : K.lookup f19 = some ⟨oc19, od19, .func (PySem.W.fnOf "edit_effect" "edit_effect" (defArgs s_edit_effect) (defBody s_edit_effect) (defScope s_edit_effect) .none kV19 dc19 pm19 an19 cd19 ct19), sl19⟩) (c19 : PySem.W.codeIn K cd19 "edit_effect" = true) (k19 : PySem.W.keepIn K (.ref f19) = true)
    (a20 : PySem.W.nsIn K mainGlobals "append_effect" = some (some (.ref f20))) (l20 : K.lookup f20 = some ⟨oc20, od20, .func (PySem.W.fnOf "append_effect" "append_effect" (defArgs s_append_effect) (defBody s_append_effect) (defScope s_append_effect) .none kV20 dc20 pm20 an20 cd20 ct20), sl20⟩) (c20 : PySem.W.codeIn K cd20 "append_effect" = true) (k20 : PySem.W.keepIn K (.ref f20) = true)
    (a21 : PySem.W.nsIn K mainGlobals "back_case" = some (some (.ref f21))) (l21 : K.lookup f21 = some ⟨oc21, od21, .func (PySem.W.fnOf "back_case" "back_case" (defArgs s_back_case) (defBody s_back_case) (defScope s_back_case) .none kV21 dc21 pm21 an21 cd21 ct21), sl21⟩) (c21 : PySem.W.codeIn K cd21 "back_case" = true) (k21 : PySem.W.keepIn K (.ref f21) = true)
    (a22 : PySem.W.nsIn K mainGlobals "_law_tub" = some (some (.ref f22))) (l22 : K.lookup f22 = some ⟨oc22, od22, .func (PySem.W.fnOf "_law_tub" "_law_tub" (defArgs s__law_tub) (defBody s__law_tub) (defScope s__law_tub) .none kV22 dc22 pm22 an22 cd22 ct22), sl22⟩) (c22 : PySem.W.codeIn K cd22 "_law_tub" = true) (k22 : PySem.W.keepIn K (.ref f22) = true)
    (a23 : PySem.W.nsIn K mainGlobals "_law_dip" = some (some (.ref f23))) (l23 : K.lookup f23 = some ⟨oc23, od23, .func (PySem.W.fnOf "_law_dip" "_law_dip" (defArgs s__law_dip) (defBody s__law_dip) (defScope s__law_dip) .none kV23 dc23 pm23 an23 cd23 ct23), sl23⟩) (c23 : PySem.W.codeIn K cd23 "_law_dip" = true) (k23 : PySem.W.keepIn K (.ref f23) = true)
    (a24 : PySem.W.nsIn K mainGlobals "_law_same" = some (some (.ref f24))) (l24 : K.lookup f24 = some ⟨oc24, od24, .func (PySem.W.fnOf "_law_same" "_law_same" (defArgs s__law_same) (defBody s__law_same) (defScope s__law_same) .none kV24 dc24 pm24 an24 cd24 ct24), sl24⟩) (c24 : PySem.W.codeIn K cd24 "_law_same" = true) (k24 : PySem.W.keepIn K (.ref f24) = true)
    (a25 : PySem.W.nsIn K mainGlobals "_law_signs" = some (some (.ref f25))) (l25 : K.lookup f25 = some ⟨oc25, od25, .func (PySem.W.fnOf "_law_signs" "_law_signs" (defArgs s__law_signs) (defBody s__law_signs) (defScope s__law_signs) .none kV25 dc25 pm25 an25 cd25 ct25), sl25⟩) (c25 : PySem.W.codeIn K cd25 "_law_signs" = true) (k25 : PySem.W.keepIn K (.ref f25) = true)
    (a26 : PySem.W.nsIn K mainGlobals "_law_text" = some (some (.ref f26))) (l26 : K.lookup f26 = some ⟨oc26, od26, .func (PySem.W.fnOf "_law_text" "_law_text" (defArgs s__law_text) (defBody s__law_text) (defScope s__law_text) .none kV26 dc26 pm26 an26 cd26 ct26), sl26⟩) (c26 : PySem.W.codeIn K cd26 "_law_text" = true) (k26 : PySem.W.keepIn K (.ref f26) = true)
    (a27 : PySem.W.nsIn K mainGlobals "_law_most" = some (some (.ref f27))) (l27 : K.lookup f27 = some ⟨oc27, od27, .func (PySem.W.fnOf "_law_most" "_law_most" (defArgs s__law_most) (defBody s__law_most) (defScope s__law_most) .none kV27 dc27 pm27 an27 cd27 ct27), sl27⟩) (c27 : PySem.W.codeIn K cd27 "_law_most" = true) (k27 : PySem.W.keepIn K (.ref f27) = true)
    (a28 : PySem.W.nsIn K mainGlobals "_law_rules" = some (some (.ref f28))) (l28 : K.lookup f28 = some ⟨oc28, od28, .func (PySem.W.fnOf "_law_rules" "_law_rules" (defArgs s__law_rules) (defBody s__law_rules) (defScope s__law_rules) .none kV28 dc28 pm28 an28 cd28 ct28), sl28⟩) (c28 : PySem.W.codeIn K cd28 "_law_rules" = true) (k28 : PySem.W.keepIn K (.ref f28) = true)
    (a29 : PySem.W.nsIn K mainGlobals "_law_is_source" = some (some (.ref f29))) (l29 : K.lookup f29 = some ⟨oc29, od29, .func (PySem.W.fnOf "_law_is_source" "_law_is_source" (defArgs s__law_is_source) (defBody s__law_is_source) (defScope s__law_is_source) .none kV29 dc29 pm29 an29 cd29 ct29), sl29⟩) (c29 : PySem.W.codeIn K cd29 "_law_is_source" = true) (k29 : PySem.W.keepIn K (.ref f29) = true)
    (a30 : PySem.W.nsIn K mainGlobals "_law_source" = some (some (.ref f30))) (l30 : K.lookup f30 = some ⟨oc30, od30, .func (PySem.W.fnOf "_law_source" "_law_source" (defArgs s__law_source) (defBody s__law_source) (defScope s__law_source) .none kV30 dc30 pm30 an30 cd30 ct30), sl30⟩) (c30 : PySem.W.codeIn K cd30 "_law_source" = true) (k30 : PySem.W.keepIn K (.ref f30) = true)
    (a31 : PySem.W.nsIn K mainGlobals "_law_reach" = some (some (.ref f31))) (l31 : K.lookup f31 = some ⟨oc31, od31, .func (PySem.W.fnOf "_law_reach" "_law_reach" (defArgs s__law_reach) (defBody s__law_reach) (defScope s__law_reach) .none kV31 dc31 pm31 an31 cd31 ct31), sl31⟩) (c31 : PySem.W.codeIn K cd31 "_law_reach" = true) (k31 : PySem.W.keepIn K (.ref f31) = true)
    (a32 : PySem.W.nsIn K mainGlobals "_law_pieces" = some (some (.ref f32))) (l32 : K.lookup f32 = some ⟨oc32, od32, .func (PySem.W.fnOf "_law_pieces" "_law_pieces" (defArgs s__law_pieces) (defBody s__law_pieces) (defScope s__law_pieces) .none kV32 dc32 pm32 an32 cd32 ct32), sl32⟩) (c32 : PySem.W.codeIn K cd32 "_law_pieces" = true) (k32 : PySem.W.keepIn K (.ref f32) = true)
    (a33 : PySem.W.nsIn K mainGlobals "_law_told" = some (some (.ref f33))) (l33 : K.lookup f33 = some ⟨oc33, od33, .func (PySem.W.fnOf "_law_told" "_law_told" (defArgs s__law_told) (defBody s__law_told) (defScope s__law_told) .none kV33 dc33 pm33 an33 cd33 ct33), sl33⟩) (c33 : PySem.W.codeIn K cd33 "_law_told" = true) (k33 : PySem.W.keepIn K (.ref f33) = true)
    (a34 : PySem.W.nsIn K mainGlobals "_law_without" = some (some (.ref f34))) (l34 : K.lookup f34 = some ⟨oc34, od34, .func (PySem.W.fnOf "_law_without" "_law_without" (defArgs s__law_without) (defBody s__law_without) (defScope s__law_without) .none kV34 dc34 pm34 an34 cd34 ct34), sl34⟩) (c34 : PySem.W.codeIn K cd34 "_law_without" = true) (k34 : PySem.W.keepIn K (.ref f34) = true)
    (a35 : PySem.W.nsIn K mainGlobals "_law_elder_rules" = some (some (.ref f35))) (l35 : K.lookup f35 = some ⟨oc35, od35, .func (PySem.W.fnOf "_law_elder_rules" "_law_elder_rules" (defArgs s__law_elder_rules) (defBody s__law_elder_rules) (defScope s__law_elder_rules) .none kV35 dc35 pm35 an35 cd35 ct35), sl35⟩) (c35 : PySem.W.codeIn K cd35 "_law_elder_rules" = true) (k35 : PySem.W.keepIn K (.ref f35) = true)
    (a36 : PySem.W.nsIn K mainGlobals "_law_numbers_right" = some (some (.ref f36))) (l36 : K.lookup f36 = some ⟨oc36, od36, .func (PySem.W.fnOf "_law_numbers_right" "_law_numbers_right" (defArgs s__law_numbers_right) (defBody s__law_numbers_right) (defScope s__law_numbers_right) .none kV36 dc36 pm36 an36 cd36 ct36), sl36⟩) (c36 : PySem.W.codeIn K cd36 "_law_numbers_right" = true) (k36 : PySem.W.keepIn K (.ref f36) = true)
    (a37 : PySem.W.nsIn K mainGlobals "_law_more_right" = some (some (.ref f37))) (l37 : K.lookup f37 = some ⟨oc37, od37, .func (PySem.W.fnOf "_law_more_right" "_law_more_right" (defArgs s__law_more_right) (defBody s__law_more_right) (defScope s__law_more_right) .none kV37 dc37 pm37 an37 cd37 ct37), sl37⟩) (c37 : PySem.W.codeIn K cd37 "_law_more_right" = true) (k37 : PySem.W.keepIn K (.ref f37) = true)
    (a38 : PySem.W.nsIn K mainGlobals "_law_forms_right" = some (some (.ref f38))) (l38 : K.lookup f38 = some ⟨oc38, od38, .func (PySem.W.fnOf "_law_forms_right" "_law_forms_right" (defArgs s__law_forms_right) (defBody s__law_forms_right) (defScope s__law_forms_right) .none kV38 dc38 pm38 an38 cd38 ct38), sl38⟩) (c38 : PySem.W.codeIn K cd38 "_law_forms_right" = true) (k38 : PySem.W.keepIn K (.ref f38) = true)
    (a39 : PySem.W.nsIn K mainGlobals "_law_edits_right" = some (some (.ref f39))) (l39 : K.lookup f39 = some ⟨oc39, od39, .func (PySem.W.fnOf "_law_edits_right" "_law_edits_right" (defArgs s__law_edits_right) (defBody s__law_edits_right) (defScope s__law_edits_right) .none kV39 dc39 pm39 an39 cd39 ct39), sl39⟩) (c39 : PySem.W.codeIn K cd39 "_law_edits_right" = true) (k39 : PySem.W.keepIn K (.ref f39) = true)
    (a40 : PySem.W.nsIn K mainGlobals "law" = some (some (.ref f40))) (l40 : K.lookup f40 = some ⟨oc40, od40, .func (PySem.W.fnOf "law" "law" (defArgs s_law) (defBody s_law) (defScope s_law) .none kV40 dc40 pm40 an40 cd40 ct40), sl40⟩) (c40 : PySem.W.codeIn K cd40 "law" = true) (k40 : PySem.W.keepIn K (.ref f40) = true)
    (z_abs : PySem.W.nsIn K mainGlobals "abs" = some none)
    (z_bool : PySem.W.nsIn K mainGlobals "bool" = some none)
    (z_int : PySem.W.nsIn K mainGlobals "int" = some none)
    (z_isinstance : PySem.W.nsIn K mainGlobals "isinstance" = some none)
    (z_len : PySem.W.nsIn K mainGlobals "len" = some none)
    (z_max : PySem.W.nsIn K mainGlobals "max" = some none)
    (z_min : PySem.W.nsIn K mainGlobals "min" = some none)
    (z_range : PySem.W.nsIn K mainGlobals "range" = some none)
    (z_str : PySem.W.nsIn K mainGlobals "str" = some none)
    (z_tuple : PySem.W.nsIn K mainGlobals "tuple" = some none)
    (cn_MOST_ELDERS : PySem.W.nsIn K mainGlobals "MOST_ELDERS" = some (some (.int 6 tk_MOST_ELDERS)))
    (cn_MOST_RULES : PySem.W.nsIn K mainGlobals "MOST_RULES" = some (some (.int 8 tk_MOST_RULES)))
    (cn_MOST_SIGNS : PySem.W.nsIn K mainGlobals "MOST_SIGNS" = some (some (.int 300 tk_MOST_SIGNS)))
    (xa0 : PySem.W.nsIn K mainGlobals "SaidError" = some (some (.ref XC0)))
    (xn1 : PySem.W.nsIn K mainGlobals "DataError" = some none)
    (xa2 : PySem.W.nsIn K mainGlobals "AskError" = some (some (.ref XC2)))
    (xa3 : PySem.W.nsIn K mainGlobals "CallError" = some (some (.ref XC3)))
    (xn4 : PySem.W.nsIn K mainGlobals "TextError" = some none)
    (xn5 : PySem.W.nsIn K mainGlobals "BadSign" = some none)
    (xn6 : PySem.W.nsIn K mainGlobals "BadRules" = some none)
    (xn7 : PySem.W.nsIn K mainGlobals "BadCuts" = some none)
    (xn8 : PySem.W.nsIn K mainGlobals "BadPrices" = some none)
    (xn9 : PySem.W.nsIn K mainGlobals "BadPatch" = some none)
    (xn10 : PySem.W.nsIn K mainGlobals "BadBytes" = some none)
    (xn11 : PySem.W.nsIn K mainGlobals "BadBook" = some none)
    (xa12 : PySem.W.nsIn K mainGlobals "NoSuch" = some (some (.ref XC12)))
    (xa13 : PySem.W.nsIn K mainGlobals "BadCall" = some (some (.ref XC13)))
    (xn14 : PySem.W.nsIn K mainGlobals "BadText" = some none)
    (xn15 : PySem.W.nsIn K mainGlobals "BadCommand" = some none)
    (xe0 : PySem.W.subIn K (.ref XC0) (.type "BaseException") = some true)
    (xh0 : PySem.W.hasDictIn K XC0 = true)
    (xt0 : PySem.W.typeIn K (.ref XC0) = some (.type "type"))
    (xe12 : PySem.W.subIn K (.ref XC12) (.type "BaseException") = some true)
    (xh12 : PySem.W.hasDictIn K XC12 = true)
    (xt12 : PySem.W.typeIn K (.ref XC12) = some (.type "type"))
    (xe13 : PySem.W.subIn K (.ref XC13) (.type "BaseException") = some true)
    (xh13 : PySem.W.hasDictIn K XC13 = true)
    (xt13 : PySem.W.typeIn K (.ref XC13) = some (.type "type"))
    (xs0_0 : PySem.W.subIn K (.ref XC0) (.ref XC0) = some true)
    (xcn : PySem.W.specialIn K (.builtin "object.__class__") "__get__" = some (some (.builtin "getset_descriptor.__get__")))
    (xct : PySem.W.takesIn K (.builtin "object.__class__") = some true)
    (xs12_0 : PySem.W.subIn K (.ref XC12) (.ref XC0) = some true)
    (xs12_2 : PySem.W.subIn K (.ref XC12) (.ref XC2) = some true)
    (xs12_3 : PySem.W.subIn K (.ref XC12) (.ref XC3) = some false)
    (xs12_12 : PySem.W.subIn K (.ref XC12) (.ref XC12) = some true)
    (xs12_13 : PySem.W.subIn K (.ref XC12) (.ref XC13) = some false)
    (xga12 : PySem.W.findIn K (.ref XC12) "__getattribute__" = some (some (.builtin "BaseException.__getattribute__")))
    (xgg12 : PySem.W.findIn K (.ref XC12) "__getattr__" = some none)
    (xcl12 : PySem.W.findIn K (.ref XC12) "__class__" = some (some (.builtin "object.__class__")))
    (xmo12 : PySem.W.mroIn K XC12 (.type "object") = some true)
    (xf0_12 : PySem.W.findIn K (.ref XC12) "at" = some none)
    (xf1_12 : PySem.W.findIn K (.ref XC12) "word" = some none)
    (xf2_12 : PySem.W.findIn K (.ref XC12) "name" = some none)
    (xf3_12 : PySem.W.findIn K (.ref XC12) "line" = some none)
    (xl12 : K.lookup XC12 = some (excClassObj xnm12 xq12 XC12 xN12 xbs12 xbm12 true xsn12 xsu12 xab12 xco12 xdd12 xk012 xk112 xk212 xk312 xk512 "ValueError.__new__"))
    (xr12 : PySem.HandSPX.refsVE xbm12 = true)
    (xsa12 : PySem.W.findIn K (.ref XC12) "__setattr__" = some (some (.builtin "object.__setattr__")))
    (xkp12 : PySem.W.keepIn K (.ref XC12) = true)
    (xi12 : PySem.W.findIn K (.ref XC12) "__init__" = some (some (.ref xI12)))
    (xti12 : PySem.W.typeIn K (.ref xI12) = some (.type "function"))
    (xlf12 : K.lookup xI12 = some ⟨xoc12, xod12, .func (PySem.W.fnOf "__init__" "NoSuch.__init__" (defArgs si_NoSuch) (defBody si_NoSuch) (defScope si_NoSuch) .none xkV12 xdc12 xpm12 xan12 xcd12 xct12), xsl12⟩)
    (xco12_ : PySem.W.codeIn K xcd12 "NoSuch.__init__" = true)
    (xki12 : PySem.W.keepIn K (.ref xI12) = true)
    (xs13_0 : PySem.W.subIn K (.ref XC13) (.ref XC0) = some true)
    (xs13_2 : PySem.W.subIn K (.ref XC13) (.ref XC2) = some false)
    (xs13_3 : PySem.W.subIn K (.ref XC13) (.ref XC3) = some true)
    (xs13_12 : PySem.W.subIn K (.ref XC13) (.ref XC12) = some false)
    (xs13_13 : PySem.W.subIn K (.ref XC13) (.ref XC13) = some true)
    (xga13 : PySem.W.findIn K (.ref XC13) "__getattribute__" = some (some (.builtin "BaseException.__getattribute__")))
    (xgg13 : PySem.W.findIn K (.ref XC13) "__getattr__" = some none)
    (xcl13 : PySem.W.findIn K (.ref XC13) "__class__" = some (some (.builtin "object.__class__")))
    (xmo13 : PySem.W.mroIn K XC13 (.type "object") = some true)
    (xf0_13 : PySem.W.findIn K (.ref XC13) "at" = some none)
    (xf1_13 : PySem.W.findIn K (.ref XC13) "word" = some none)
    (xf2_13 : PySem.W.findIn K (.ref XC13) "name" = some none)
    (xf3_13 : PySem.W.findIn K (.ref XC13) "line" = some none)
    (xl13 : K.lookup XC13 = some (excClassObj xnm13 xq13 XC13 xN13 xbs13 xbm13 true xsn13 xsu13 xab13 xco13 xdd13 xk013 xk113 xk213 xk313 xk513 "ValueError.__new__"))
    (xr13 : PySem.HandSPX.refsVE xbm13 = true)
    (xsa13 : PySem.W.findIn K (.ref XC13) "__setattr__" = some (some (.builtin "object.__setattr__")))
    (xkp13 : PySem.W.keepIn K (.ref XC13) = true)
    (xi13 : PySem.W.findIn K (.ref XC13) "__init__" = some (some (.ref xI13)))
    (xti13 : PySem.W.typeIn K (.ref xI13) = some (.type "function"))
    (xlf13 : K.lookup xI13 = some ⟨xoc13, xod13, .func (PySem.W.fnOf "__init__" "BadCall.__init__" (defArgs si_BadCall) (defBody si_BadCall) (defScope si_BadCall) .none xkV13 xdc13 xpm13 xan13 xcd13 xct13), xsl13⟩)
    (xco13_ : PySem.W.codeIn K xcd13 "BadCall.__init__" = true)
    (xki13 : PySem.W.keepIn K (.ref xI13) = true)
    : Top K mg := ⟨
    tx_mk X G (fun us hl => match us, hl with | [_], _ => rfl) a0 l0 c0 k0,
    tx_mk X G (fun us hl => match us, hl with | [_, _], _ => rfl) a1 l1 c1 k1,
    tx_mk X G (fun us hl => match us, hl with | [_, _, _], _ => rfl) a2 l2 c2 k2,
    tx_mk X G (fun us hl => match us, hl with | [_], _ => rfl) a3 l3 c3 k3,
    tx_mk X G (fun us hl => match us, hl with | [_, _, _, _], _ => rfl) a4 l4 c4 k4,
    tx_mk X G (fun us hl => match us, hl with | [_, _], _ => rfl) a5 l5 c5 k5,
    tx_mk X G (fun us hl => match us, hl with | [_], _ => rfl) a6 l6 c6 k6,
    tx_mk X G (fun us hl => match us, hl with | [_], _ => rfl) a7 l7 c7 k7,
    tx_mk X G (fun us hl => match us, hl with | [_], _ => rfl) a8 l8 c8 k8,
    tx_mk X G (fun us hl => match us, hl with | [_], _ => rfl) a9 l9 c9 k9,
    tx_mk X G (fun us hl => match us, hl with | [_, _], _ => rfl) a10 l10 c10 k10,
    tx_mk X G (fun us hl => match us, hl with | [_, _], _ => rfl) a11 l11 c11 k11,
    tx_mk X G (fun us hl => match us, hl with | [_, _, _, _], _ => rfl) a12 l12 c12 k12,
    tx_mk X G (fun us hl => match us, hl with | [_, _], _ => rfl) a13 l13 c13 k13,
    tx_mk X G (fun us hl => match us, hl with | [_], _ => rfl) a14 l14 c14 k14,
    tx_mk X G (fun us hl => match us, hl with | [_], _ => rfl) a15 l15 c15 k15,
    tx_mk X G (fun us hl => match us, hl with | [_, _], _ => rfl) a16 l16 c16 k16,
    tx_mk X G (fun us hl => match us, hl with | [_, _], _ => rfl) a17 l17 c17 k17,
    tx_mk X G (fun us hl => match us, hl with | [_, _, _], _ => rfl) a18 l18 c18 k18,
    tx_mk X G (fun us hl => match us, hl with | [_, _, _], _ => rfl) a19 l19 c19 k19,
    tx_mk X G (fun us hl => match us, hl with | [_, _], _ => rfl) a20 l20 c20 k20,
    tx_mk X G (fun us hl => match us, hl with | [_, _], _ => rfl) a21 l21 c21 k21,
    tx_mk X G (fun us hl => match us, hl with | [_], _ => rfl) a22 l22 c22 k22,
    tx_mk X G (fun us hl => match us, hl with | [_, _], _ => rfl) a23 l23 c23 k23,
    tx_mk X G (fun us hl => match us, hl with | [_, _], _ => rfl) a24 l24 c24 k24,
    tx_mk X G (fun us hl => match us, hl with | [_], _ => rfl) a25 l25 c25 k25,
    tx_mk X G (fun us hl => match us, hl with | [_, _, _], _ => rfl) a26 l26 c26 k26,
    tx_mk X G (fun us hl => match us, hl with | [_], _ => rfl) a27 l27 c27 k27,
    tx_mk X G (fun us hl => match us, hl with | [_, _, _], _ => rfl) a28 l28 c28 k28,
    tx_mk X G (fun us hl => match us, hl with | [_, _, _, _, _], _ => rfl) a29 l29 c29 k29,
    tx_mk X G (fun us hl => match us, hl with | [_, _, _], _ => rfl) a30 l30 c30 k30,
    tx_mk X G (fun us hl => match us, hl with | [_], _ => rfl) a31 l31 c31 k31,
    tx_mk X G (fun us hl => match us, hl with | [_], _ => rfl) a32 l32 c32 k32,
    tx_mk X G (fun us hl => match us, hl with | [_, _, _], _ => rfl) a33 l33 c33 k33,
    tx_mk X G (fun us hl => match us, hl with | [_, _], _ => rfl) a34 l34 c34 k34,
    tx_mk X G (fun us hl => match us, hl with | [_], _ => rfl) a35 l35 c35 k35,
    tx_mk X G (fun us hl => match us, hl with | [_, _], _ => rfl) a36 l36 c36 k36,
    tx_mk X G (fun us hl => match us, hl with | [_, _, _], _ => rfl) a37 l37 c37 k37,
    tx_mk X G (fun us hl => match us, hl with | [_, _], _ => rfl) a38 l38 c38 k38,
    tx_mk X G (fun us hl => match us, hl with | [_, _, _, _], _ => rfl) a39 l39 c39 k39,
    tx_mk X G (fun us hl => match us, hl with | [_], _ => rfl) a40 l40 c40 k40,
    PySem.W.mg_none_of X G z_abs,
    PySem.W.mg_none_of X G z_bool,
    PySem.W.mg_none_of X G z_int,
    PySem.W.mg_none_of X G z_isinstance,
    PySem.W.mg_none_of X G z_len,
    PySem.W.mg_none_of X G z_max,
    PySem.W.mg_none_of X G z_min,
    PySem.W.mg_none_of X G z_range,
    PySem.W.mg_none_of X G z_str,
    PySem.W.mg_none_of X G z_tuple,
    ⟨_, PySem.W.mg_of X G cn_MOST_ELDERS⟩,
    ⟨_, PySem.W.mg_of X G cn_MOST_RULES⟩,
    ⟨_, PySem.W.mg_of X G cn_MOST_SIGNS⟩,
    xtx_mk X G (k := 12) (fun us hl => match us, hl with | [_, _, _], _ => rfl) xa12 ⟨⟨_, _, _, _, _, _, _, _, _, _, _, _, _, _, _, xl12, xr12⟩, xsa12, xe12, xt12, xkp12⟩ (goodX_mk xga12 xgg12 xe12 xh12 xcl12 xcn xct xmo12 xf0_12 xf1_12 xf2_12 xf3_12 (sub_all (sub_at (j := 0) xa0 xs12_0) (sub_no (j := 1) xn1) (sub_at (j := 2) xa2 xs12_2) (sub_at (j := 3) xa3 xs12_3) (sub_no (j := 4) xn4) (sub_no (j := 5) xn5) (sub_no (j := 6) xn6) (sub_no (j := 7) xn7) (sub_no (j := 8) xn8) (sub_no (j := 9) xn9) (sub_no (j := 10) xn10) (sub_no (j := 11) xn11) (sub_at (j := 12) xa12 xs12_12) (sub_at (j := 13) xa13 xs12_13) (sub_no (j := 14) xn14) (sub_no (j := 15) xn15))) xi12 xti12 xlf12 xco12_ xki12,
    xtx_mk X G (k := 13) (fun us hl => match us, hl with | [_, _], _ => rfl) xa13 ⟨⟨_, _, _, _, _, _, _, _, _, _, _, _, _, _, _, xl13, xr13⟩, xsa13, xe13, xt13, xkp13⟩ (goodX_mk xga13 xgg13 xe13 xh13 xcl13 xcn xct xmo13 xf0_13 xf1_13 xf2_13 xf3_13 (sub_all (sub_at (j := 0) xa0 xs13_0) (sub_no (j := 1) xn1) (sub_at (j := 2) xa2 xs13_2) (sub_at (j := 3) xa3 xs13_3) (sub_no (j := 4) xn4) (sub_no (j := 5) xn5) (sub_no (j := 6) xn6) (sub_no (j := 7) xn7) (sub_no (j := 8) xn8) (sub_no (j := 9) xn9) (sub_no (j := 10) xn10) (sub_no (j := 11) xn11) (sub_at (j := 12) xa12 xs13_12) (sub_at (j := 13) xa13 xs13_13) (sub_no (j := 14) xn14) (sub_no (j := 15) xn15))) xi13 xti13 xlf13 xco13_ xki13,
    xbs_mk X G (k := 0) xa0 xe0 xh0 xt0 xs0_0,
    xbs_mk X G (k := 12) xa12 xe12 xh12 xt12 xs12_12,
    xbs_mk X G (k := 13) xa13 xe13 xh13 xt13 xs13_13⟩
end Lw
end

-- text Fin_k36
section
set_option Elab.async false
set_option linter.all false
set_option maxRecDepth 100000
set_option maxHeartbeats 4000000
open PySem PySem.W PyProof.Rows
set_option maxHeartbeats 0 in
theorem PySem.Challenge.cw_saidbefore_k36_caseedits_holds : PySem.Challenge.rw_saidbefore_k36_caseedits.Holds := by
  w_on; o_law; k_head; (case hw => w_witness2)
  k_fill
  refine L2.walk_of (l := PySem.Challenge.rw_saidbefore_k36_caseedits) (n := 63) (k := 11) (x := "script") (CX := fun w => L2N.CX PySem.Challenge.rw_saidbefore_k36_caseedits.prog w) (sp := fun w => Mi.spOf _ [false] Mi.spLaw) rfl (by decide) rfl ⟨rfl, by decide, by decide⟩ (fun w h Y => PySem.W.kIn_of Y) ?F (fun _ _ a ns hl ho hS => Mi.law_sp hl ho hS) (fun w H s e s' h => Mi.cx_no h)
  case F =>
    intro w mg fa h KX G hmg
    refine' Lw.law_end (Lw.top_mk KX G ?a0 ?l0 ?c0 ?k0 ?a1 ?l1 ?c1 ?k1 ?a2 ?l2 ?c2 ?k2 ?a3 ?l3 ?c3 ?k3 ?a4 ?l4 ?c4 ?k4 ?a5 ?l5 ?c5 ?k5 ?a6 ?l6 ?c6 ?k6 ?a7 ?l7 ?c7 ?k7 ?a8 ?l8 ?c8 ?k8 ?a9 ?l9 ?c9 ?k9 ?a10 ?l10 ?c10 ?k10 ?a11 ?l11 ?c11 ?k11 ?a12 ?l12 ?c12 ?k12 ?a13 ?l13 ?c13 ?k13 ?a14 ?l14 ?c14 ?k14 ?a15 ?l15 ?c15 ?k15 ?a16 ?l16 ?c16 ?k16 ?a17 ?l17 ?c17 ?k17 ?a18 ?l18 ?c18 ?k18 ?a19 ?l19 ?c19 ?k19 ?a20 ?l20 ?c20 ?k20 ?a21 ?l21 ?c21 ?k21 ?a22 ?l22 ?c22 ?k22 ?a23 ?l23 ?c23 ?k23 ?a24 ?l24 ?c24 ?k24 ?a25 ?l25 ?c25 ?k25 ?a26 ?l26 ?c26 ?k26 ?a27 ?l27 ?c27 ?k27 ?a28 ?l28 ?c28 ?k28 ?a29 ?l29 ?c29 ?k29 ?a30 ?l30 ?c30 ?k30 ?a31 ?l31 ?c31 ?k31 ?a32 ?l32 ?c32 ?k32 ?a33 ?l33 ?c33 ?k33 ?a34 ?l34 ?c34 ?k34 ?a35 ?l35 ?c35 ?k35 ?a36 ?l36 ?c36 ?k36 ?a37 ?l37 ?c37 ?k37 ?a38 ?l38 ?c38 ?k38 ?a39 ?l39 ?c39 ?k39 ?a40 ?l40 ?c40 ?k40 ?z_abs ?z_bool ?z_int ?z_isinstance ?z_len ?z_max ?z_min ?z_range ?z_str ?z_tuple ?cn_MOST_ELDERS ?cn_MOST_RULES ?cn_MOST_SIGNS ?xa0 ?xn1 ?xa2 ?xa3 ?xn4 ?xn5 ?xn6 ?xn7 ?xn8 ?xn9 ?xn10 ?xn11 ?xa12 ?xa13 ?xn14 ?xn15 ?xe0 ?xh0 ?xt0 ?xe12 ?xh12 ?xt12 ?xe13 ?xh13 ?xt13 ?xs0_0 ?xcn ?xct ?xs12_0 ?xs12_2 ?xs12_3 ?xs12_12 ?xs12_13 ?xga12 ?xgg12 ?xcl12 ?xmo12 ?xf0_12 ?xf1_12 ?xf2_12 ?xf3_12 ?xl12 ?xr12 ?xsa12 ?xkp12 ?xi12 ?xti12 ?xlf12 ?xco12_ ?xki12 ?xs13_0 ?xs13_2 ?xs13_3 ?xs13_12 ?xs13_13 ?xga13 ?xgg13 ?xcl13 ?xmo13 ?xf0_13 ?xf1_13 ?xf2_13 ?xf3_13 ?xl13 ?xr13 ?xsa13 ?xkp13 ?xi13 ?xti13 ?xlf13 ?xco13_ ?xki13) hmg
    (case a0 => k_is); (case l0 => k_is); (case c0 => k_is); (case k0 => k_is); (case a1 => k_is); (case l1 => k_is); (case c1 => k_is); (case k1 => k_is); (case a2 => k_is); (case l2 => k_is); (case c2 => k_is); (case k2 => k_is); (case a3 => k_is); (case l3 => k_is); (case c3 => k_is); (case k3 => k_is); (case a4 => k_is); (case l4 => k_is); (case c4 => k_is); (case k4 => k_is); (case a5 => k_is); (case l5 => k_is); (case c5 => k_is); (case k5 => k_is); (case a6 => k_is); (case l6 => k_is); (case c6 => k_is); (case k6 => k_is); (case a7 => k_is); (case l7 => k_is); (case c7 => k_is); (case k7 => k_is); (case a8 => k_is); (case l8 => k_is); (case c8 => k_is); (case k8 => k_is); (case a9 => k_is); (case l9 => k_is); (case c9 => k_is); (case k9 => k_is); (case a10 => k_is); (case l10 => k_is); (case c10 => k_is); (case k10 => k_is); (case a11 => k_is); (case l11 => k_is); (case c11 => k_is); (case k11 => k_is); (case a12 => k_is); (case l12 => k_is); (case c12 => k_is); (case k12 => k_is); (case a13 => k_is); (case l13 => k_is); (case c13 => k_is); (case k13 => k_is); (case a14 => k_is); (case l14 => k_is); (case c14 => k_is); (case k14 => k_is); (case a15 => k_is); (case l15 => k_is); (case c15 => k_is); (case k15 => k_is); (case a16 => k_is); (case l16 => k_is); (case c16 => k_is); (case k16 => k_is); (case a17 => k_is); (case l17 => k_is); (case c17 => k_is); (case k17 => k_is); (case a18 => k_is); (case l18 => k_is); (case c18 => k_is); (case k18 => k_is); (case a19 => k_is); (case l19 => k_is); (case c19 => k_is); (case k19 => k_is); (case a20 => k_is); (case l20 => k_is); (case c20 => k_is); (case k20 => k_is); (case a21 => k_is); (case l21 => k_is); (case c21 => k_is); (case k21 => k_is); (case a22 => k_is); (case l22 => k_is); (case c22 => k_is); (case k22 => k_is); (case a23 => k_is); (case l23 => k_is); (case c23 => k_is); (case k23 => k_is); (case a24 => k_is); (case l24 => k_is); (case c24 => k_is); (case k24 => k_is); (case a25 => k_is); (case l25 => k_is); (case c25 => k_is); (case k25 => k_is); (case a26 => k_is); (case l26 => k_is); (case c26 => k_is); (case k26 => k_is); (case a27 => k_is); (case l27 => k_is); (case c27 => k_is); (case k27 => k_is); (case a28 => k_is); (case l28 => k_is); (case c28 => k_is); (case k28 => k_is); (case a29 => k_is); (case l29 => k_is); (case c29 => k_is); (case k29 => k_is); (case a30 => k_is); (case l30 => k_is); (case c30 => k_is); (case k30 => k_is); (case a31 => k_is); (case l31 => k_is); (case c31 => k_is); (case k31 => k_is); (case a32 => k_is); (case l32 => k_is); (case c32 => k_is); (case k32 => k_is); (case a33 => k_is); (case l33 => k_is); (case c33 => k_is); (case k33 => k_is); (case a34 => k_is); (case l34 => k_is); (case c34 => k_is); (case k34 => k_is); (case a35 => k_is); (case l35 => k_is); (case c35 => k_is); (case k35 => k_is); (case a36 => k_is); (case l36 => k_is); (case c36 => k_is); (case k36 => k_is); (case a37 => k_is); (case l37 => k_is); (case c37 => k_is); (case k37 => k_is); (case a38 => k_is); (case l38 => k_is); (case c38 => k_is); (case k38 => k_is); (case a39 => k_is); (case l39 => k_is); (case c39 => k_is); (case k39 => k_is); (case a40 => k_is); (case l40 => k_is); (case c40 => k_is); (case k40 => k_is); (case z_abs => k_is); (case z_bool => k_is); (case z_int => k_is); (case z_isinstance => k_is); (case z_len => k_is); (case z_max => k_is); (case z_min => k_is); (case z_range => k_is); (case z_str => k_is); (case z_tuple => k_is); (case cn_MOST_ELDERS => k_is); (case cn_MOST_RULES => k_is); (case cn_MOST_SIGNS => k_is); (case xa0 => k_is); (case xn1 => k_is); (case xa2 => k_is); (case xa3 => k_is); (case xn4 => k_is); (case xn5 => k_is); (case xn6 => k_is); (case xn7 => k_is); (case xn8 => k_is); (case xn9 => k_is); (case xn10 => k_is); (case xn11 => k_is); (case xa12 => k_is); (case xa13 => k_is); (case xn14 => k_is); (case xn15 => k_is); (case xe0 => k_is); (case xh0 => k_is); (case xt0 => k_is); (case xe12 => k_is); (case xh12 => k_is); (case xt12 => k_is); (case xe13 => k_is); (case xh13 => k_is); (case xt13 => k_is); (case xs0_0 => k_is); (case xcn => k_is); (case xct => k_is); (case xs12_0 => k_is); (case xs12_2 => k_is); (case xs12_3 => k_is); (case xs12_12 => k_is); (case xs12_13 => k_is); (case xga12 => k_is); (case xgg12 => k_is); (case xcl12 => k_is); (case xmo12 => k_is); (case xf0_12 => k_is); (case xf1_12 => k_is); (case xf2_12 => k_is); (case xf3_12 => k_is); (case xl12 => k_is); (case xr12 => exact (by decide +kernel)); (case xsa12 => k_is); (case xkp12 => k_is); (case xi12 => k_is); (case xti12 => k_is); (case xlf12 => k_is); (case xco12_ => k_is); (case xki12 => k_is); (case xs13_0 => k_is); (case xs13_2 => k_is); (case xs13_3 => k_is); (case xs13_12 => k_is); (case xs13_13 => k_is); (case xga13 => k_is); (case xgg13 => k_is); (case xcl13 => k_is); (case xmo13 => k_is); (case xf0_13 => k_is); (case xf1_13 => k_is); (case xf2_13 => k_is); (case xf3_13 => k_is); (case xl13 => k_is); (case xr13 => exact (by decide +kernel)); (case xsa13 => k_is); (case xkp13 => k_is); (case xi13 => k_is); (case xti13 => k_is); (case xlf13 => k_is); (case xco13_ => k_is); (case xki13 => k_is)
end

