import PyProof.Rows.All
import Wide.All
import OpenK.AllK
import Wide.FinOn
import HandS.ForMost
import HandS.ForExc
import HandS.CallSlots
import HandS.IsInst
import HandS.TupAny
import HandS.TupMul
import HandS.Wide
import HandS.Walk
import KE.GoesEnum
import PySem.Challenge.RW_saidbefore_k39_thresholds
import HandS.ExcField
import HandS.ExcIs
import HandS.ExcInit
import HandS.TryOnly
import HandS.TryMany
import HandS.SuiteRaise
import KE.KExcIs
import HandS.ExcInitHot
import HandS.SortInts
import HandS.SortKw
import KE.DatumOrd
import PyProof.Rows.StrCountLaw
import HandS.Conv
import HandS.Rev
set_option Elab.async false
-- text MA
section
set_option Elab.async false
set_option linter.all false
set_option maxRecDepth 100000
set_option maxHeartbeats 4000000
/-! MA: the mirror layer. Values without a heap (D), what stands for them (R), a def's slots (E), the state (Sta), and what a reading does to it (Sim). -/
namespace Mi
open PySem PySem.Spec PyProof.Rows L2

/-- a caught exception: itself, its dict, its class -/
structure Xc where
  a : Addr
  d : Option Addr
  v : Value
/-- a Python value as plain data. mls, mdc: a list, a dict that one slot alone holds and that may change -/
inductive D where
  | non | bl (b : Bool) | int (i : Int) | str (x : List Nat) | cv (v : V)
  | tup (ds : List D) | lst (ds : List D) | rol (ds : List D) | mls (ds : List D) | fdc (kds : List (Key × D)) | mdc (kds : List (Key × D)) | exc (c : Xc) (k : Nat) (fs : List (Nat × D)) | ins (k : Nat) (fs : List (Nat × D))
def D.fz : D → Bool
  | .mls _ => false
  | .mdc _ => false
  | .ins _ _ => false
  | _ => true
abbrev Env := List (Option D)
structure Er where
  cls : Nat
  fs : List (Nat × D)
abbrev DK := D → Env → Prop
abbrev EK := Er → Env → Prop
abbrev METy := Env → DK → EK → Prop
abbrev MTTy := Env → (Bool → Env → Prop) → EK → Prop
abbrev MATy := Env → (List D → Env → Prop) → EK → Prop
structure Es where
  nx : Env → Prop
  rt : DK
  bk : Env → Prop
  ct : Env → Prop
  ex : EK
abbrev MSTy := Es → Env → Prop
abbrev Frg := PySem.W.Frag
/-! the program's classes, by number -/
def cname : Nat → Str
  | 0 => "SaidError"
  | 1 => "DataError"
  | 2 => "AskError"
  | 3 => "CallError"
  | 4 => "TextError"
  | 5 => "BadSign"
  | 6 => "BadRules"
  | 7 => "BadCuts"
  | 8 => "BadPrices"
  | 9 => "BadPatch"
  | 10 => "BadBytes"
  | 11 => "BadBook"
  | 12 => "NoSuch"
  | 13 => "BadCall"
  | 14 => "BadText"
  | 15 => "BadCommand"
  | 16 => "Unpacker"
  | 17 => "Grower"
  | 18 => "Stepper"
  | 19 => "Book"
  | _ => ""
def xpar : Nat → Nat
  | 5 => 1 | 6 => 1 | 7 => 1 | 8 => 1 | 9 => 1 | 10 => 1 | 11 => 1
  | 12 => 2
  | 13 => 3
  | 14 => 4 | 15 => 4
  | k => k
/-- is class k one of class j's -/
def isSub (k j : Nat) : Bool := k.beq j || (j.beq 0 || (xpar k).beq j)
/-! fields, by number -/
def fnames : List Str := ["at", "word", "name", "line", "state", "made", "told", "waiting", "pages", "taken", "weight", "rules", "steps", "number", "elders", "signs", "wrong", "wanted", "kept", "stretches", "first", "begun", "patch", "places"]
def fname (k : Nat) : Str := fnames.getD k ""
theorem fname_inj {i j : Nat} (hi : i < 24) (h : j.beq i = false) : (fname i == fname j) = false := by
  by_cases hj : j < 24
  · have all : ∀ i, i < 24 → ∀ j, j < 24 → j.beq i = false → (fname i == fname j) = false := by decide +kernel
    exact all i hi j hj h
  · have e : fname j = "" := by
      unfold fname
      rw [List.getD_eq_getElem?_getD, List.getElem?_eq_none (by show 24 ≤ j; omega)]
      rfl
    rw [e]
    have all : ∀ i, i < 24 → (fname i == ("" : Str)) = false := by decide +kernel
    exact all i hi
def getF (fs : List (Nat × α)) (f : Nat) : Option α := match fs with
  | [] => none
  | p :: r => match p.1.beq f with
    | true => some p.2
    | false => getF r f
/-- an own exception class, as the law's main has it -/
def GoodX (K : Frg) (k : Nat) (v : Value) : Prop := ∃ C, v = .ref C ∧ XfC K C ∧ ExcC K C ∧ (∀ f, f < 4 → PySem.W.findIn K (.ref C) (fname f) = some none) ∧
  ∀ j CY, j < 16 → PySem.W.nsIn K mainGlobals (cname j) = some (some (.ref CY)) → PySem.W.subIn K (.ref C) (.ref CY) = some (isSub k j)
/-- an own plain class -/
def GoodC (K : Frg) (k : Nat) (C : Addr) : Prop := PySem.W.nsIn K mainGlobals (cname k) = some (some (.ref C)) ∧ Cls K C

inductive Atom : V → D → Prop
  | non : Atom .non .non
  | bl {b} : Atom (.bl b) (.bl b)
  | int {i} : Atom (.int i) (.int i)
  | str {x} : x.length ≤ sizeLine → Atom (.str ⟨x.toArray⟩) (.str x)
  | cv {v} : Atom v (.cv v)

/-- the values vs are, over the heap, the data ds; S: the objects that may change, each held once; G: those that no frozen one may be -/
inductive R (K : Frg) (G : Addr → Prop) (H : Hp) : List V → List D → List Addr → Prop
  | nil : R K G H [] [] []
  | at {v d vs ds S} : Atom v d → R K G H vs ds S → R K G H (v :: vs) (d :: ds) S
  | tup {a ws es vs ds S} : SqT K H a ws → R K G H ws es [] → R K G H vs ds S → R K G H (.ref a :: vs) (.tup es :: ds) S
  | lst {a ws es vs ds S} : ¬ G a → H a = some (.lst ws) → R K G H ws es [] → R K G H vs ds S → R K G H (.ref a :: vs) (.lst es :: ds) S
  | rol {a ws es vs ds S} : ((∀ H', SqL K H' a ws) ∨ ∃ o, H a = some (.frz o (.lst ws))) → R K G H ws es [] → R K G H vs ds S → R K G H (.ref a :: vs) (.rol es :: ds) S
  | mls {a ws es vs ds S1 S} : H a = some (.lst ws) → R K G H ws es S1 → R K G H vs ds S → R K G H (.ref a :: vs) (.mls es :: ds) (a :: (S1 ++ S))
  | fdc {a} {kvs : List (Key × V)} {kds : List (Key × D)} {vs ds S} : ¬ G a → H a = some (.dK kvs) → kvs.map (·.1) = kds.map (·.1) → R K G H (kvs.map (·.2)) (kds.map (·.2)) [] → R K G H vs ds S → R K G H (.ref a :: vs) (.fdc kds :: ds) S
  | mdc {a} {kvs : List (Key × V)} {kds : List (Key × D)} {vs ds S1 S} : H a = some (.dK kvs) → kvs.map (·.1) = kds.map (·.1) → R K G H (kvs.map (·.2)) (kds.map (·.2)) S1 → R K G H vs ds S → R K G H (.ref a :: vs) (.mdc kds :: ds) (a :: (S1 ++ S))
  | exc {c : Xc} {dx : Addr} {k : Nat} {fv : List (Str × V)} {fs : List (Nat × D)} {vs ds S} : GoodX K k c.v → c.d = some dx → H dx = some (.xd fv) → fv.map (·.1) = fs.map (fun p => fname p.1) → R K G H (fv.map (·.2)) (fs.map (·.2)) [] → R K G H vs ds S → R K G H (.ref c.a :: vs) (.exc c k fs :: ds) S
  | ins {a C dx : Addr} {k : Nat} {fv : List (Str × V)} {fs : List (Nat × D)} {vs ds S1 S} : H a = some (.ins C dx fv) → GoodC K k C → fv.map (·.1) = fs.map (fun p => fname p.1) → R K G H (fv.map (·.2)) (fs.map (·.2)) S1 → R K G H vs ds S → R K G H (.ref a :: vs) (.ins k fs :: ds) (a :: (S1 ++ S))

section
variable {K : Frg} {G G' : Addr → Prop} {H H' : Hp} {C : Addr → Prop}
theorem rd_keep {u : HO} {a : Addr} (keep : ∀ a o, H a = some o → ¬ C a → H' a = some o) (hC : ∀ a, C a → G a ∧ Mut (H a)) (h : Rd H a u) (n : ¬ C a ∨ ¬ Mut (some u)) : Rd H' a u := by
  rcases h with h | ⟨o, h⟩
  · refine .inl (keep _ _ h fun c => ?_)
    rcases n with n | n
    · exact n c
    · have := (hC a c).2
      rw [h] at this
      exact n this
  · refine .inr ⟨o, keep _ _ h fun c => ?_⟩
    have := (hC a c).2
    rw [h] at this
    exact this
theorem R.mono (keep : ∀ a o, H a = some o → ¬ C a → H' a = some o) (hC : ∀ a, C a → G a ∧ Mut (H a)) (hG : ∀ a o, H a = some o → ¬ G a → ¬ G' a) :
    ∀ {vs ds S}, R K G H vs ds S → (∀ a ∈ S, ¬ C a) → R K G' H' vs ds S := by
  intro vs ds S r
  induction r with
  | nil => intro _; exact .nil
  | «at» h _ ih => intro n; exact .at h (ih n)
  | tup h _ _ ih1 ih2 =>
    intro n
    refine .tup ?_ (ih1 (fun _ z => absurd z (by simp))) (ih2 n)
    rcases h with h | h
    · exact .inl (rd_keep keep hC h (.inr fun z => z))
    · exact .inr h
  | @lst a ws es vs ds S na h _ _ ih1 ih2 =>
    intro n
    exact .lst (hG a _ h na) (keep _ _ h fun c => na (hC a c).1) (ih1 (fun _ z => absurd z (by simp))) (ih2 n)
  | rol h _ _ ih1 ih2 =>
    intro n
    refine .rol ?_ (ih1 (fun _ z => absurd z (by simp))) (ih2 n)
    rcases h with h | ⟨o, h⟩
    · exact .inl h
    · refine .inr ⟨o, keep _ _ h fun c => ?_⟩
      have := (hC _ c).2
      rw [h] at this
      exact this
  | mls h _ _ ih1 ih2 =>
    intro n
    exact .mls (keep _ _ h (n _ (by simp))) (ih1 fun a z => n a (by simp [z])) (ih2 fun a z => n a (by simp [z]))
  | @fdc a kvs kds vs ds S na h hk _ _ ih1 ih2 =>
    intro n
    exact .fdc (hG a _ h na) (keep _ _ h fun c => na (hC a c).1) hk (ih1 (fun _ z => absurd z (by simp))) (ih2 n)
  | mdc h hk _ _ ih1 ih2 =>
    intro n
    exact .mdc (keep _ _ h (n _ (by simp))) hk (ih1 fun a z => n a (by simp [z])) (ih2 fun a z => n a (by simp [z]))
  | exc g hd h hk _ _ ih1 ih2 =>
    intro n
    refine .exc g hd (keep _ _ h fun c => ?_) hk (ih1 (fun _ z => absurd z (by simp))) (ih2 n)
    have := (hC _ c).2
    rw [h] at this
    exact this
  | ins h g hk _ _ ih1 ih2 =>
    intro n
    exact .ins (keep _ _ h (n _ (by simp))) g hk (ih1 fun a z => n a (by simp [z])) (ih2 fun a z => n a (by simp [z]))
theorem R.mem : ∀ {vs ds S}, R K G H vs ds S → ∀ a ∈ S, Mut (H a) := by
  intro vs ds S r
  induction r with
  | nil => intro a z; simp at z
  | «at» _ _ ih => exact ih
  | tup _ _ _ _ ih => exact ih
  | lst _ _ _ _ _ ih => exact ih
  | rol _ _ _ _ ih => exact ih
  | mls h _ _ ih1 ih2 =>
    intro b z
    simp only [List.mem_cons, List.mem_append] at z
    rcases z with rfl | z | z
    · rw [h]; trivial
    · exact ih1 b z
    · exact ih2 b z
  | fdc _ _ _ _ _ _ ih => exact ih
  | mdc h _ _ _ ih1 ih2 =>
    intro b z
    simp only [List.mem_cons, List.mem_append] at z
    rcases z with rfl | z | z
    · rw [h]; trivial
    · exact ih1 b z
    · exact ih2 b z
  | exc _ _ _ _ _ _ _ ih => exact ih
  | ins h _ _ _ _ ih1 ih2 =>
    intro b z
    simp only [List.mem_cons, List.mem_append] at z
    rcases z with rfl | z | z
    · rw [h]; trivial
    · exact ih1 b z
    · exact ih2 b z
theorem R.length : ∀ {vs ds S}, R K G H vs ds S → vs.length = ds.length := by
  intro vs ds S r
  induction r <;> simp_all
theorem R.app : ∀ {vs ds S ws es T}, R K G H vs ds S → R K G H ws es T → R K G H (vs ++ ws) (ds ++ es) (S ++ T) := by
  intro vs ds S ws es T r q
  induction r with
  | nil => exact q
  | «at» h _ ih => exact .at h ih
  | tup h h1 _ _ ih => exact .tup h h1 ih
  | lst n h h1 _ _ ih => exact .lst n h h1 ih
  | rol h h1 _ _ ih => exact .rol h h1 ih
  | mls h h1 _ _ ih =>
    have e : ∀ (a : Addr) (A B C : List Addr), (a :: (A ++ B)) ++ C = a :: (A ++ (B ++ C)) := by simp
    rw [e]
    exact .mls h h1 ih
  | fdc n h k h1 _ _ ih => exact .fdc n h k h1 ih
  | mdc h k h1 _ _ ih =>
    have e : ∀ (a : Addr) (A B C : List Addr), (a :: (A ++ B)) ++ C = a :: (A ++ (B ++ C)) := by simp
    rw [e]
    exact .mdc h k h1 ih
  | exc g hd h k h1 _ _ ih => exact .exc g hd h k h1 ih
  | ins h g k h1 _ _ ih =>
    have e : ∀ (a : Addr) (A B C : List Addr), (a :: (A ++ B)) ++ C = a :: (A ++ (B ++ C)) := by simp
    rw [e]
    exact .ins h g k h1 ih
/-- the first, the rest -/
theorem R.cut : ∀ {vs : List V} {ds : List D} {S}, R K G H vs ds S → ∀ v ws d es, vs = v :: ws → ds = d :: es → ∃ S1 S2, S = S1 ++ S2 ∧ R K G H [v] [d] S1 ∧ R K G H ws es S2 := by
  intro vs ds S r v ws d es e1 e2
  cases r with
  | nil => cases e1
  | «at» h r => cases e1; cases e2; exact ⟨[], _, rfl, .at h .nil, r⟩
  | tup h h1 r => cases e1; cases e2; exact ⟨[], _, rfl, .tup h h1 .nil, r⟩
  | lst n h h1 r => cases e1; cases e2; exact ⟨[], _, rfl, .lst n h h1 .nil, r⟩
  | rol h h1 r => cases e1; cases e2; exact ⟨[], _, rfl, .rol h h1 .nil, r⟩
  | @mls a ws' es' _ _ S1 S h h1 r => cases e1; cases e2; exact ⟨a :: (S1 ++ []), S, by simp, .mls h h1 .nil, r⟩
  | fdc n h k h1 r => cases e1; cases e2; exact ⟨[], _, rfl, .fdc n h k h1 .nil, r⟩
  | @mdc a _ _ _ _ S1 S h k h1 r => cases e1; cases e2; exact ⟨a :: (S1 ++ []), S, by simp, .mdc h k h1 .nil, r⟩
  | exc g hd h k h1 r => cases e1; cases e2; exact ⟨[], _, rfl, .exc g hd h k h1 .nil, r⟩
  | @ins a _ _ _ _ _ _ _ S1 S h g k h1 r => cases e1; cases e2; exact ⟨a :: (S1 ++ []), S, by simp, .ins h g k h1 .nil, r⟩
theorem R.uncons {v : V} {vs : List V} {d : D} {ds : List D} {S} (r : R K G H (v :: vs) (d :: ds) S) : ∃ S1 S2, S = S1 ++ S2 ∧ R K G H [v] [d] S1 ∧ R K G H vs ds S2 := r.cut _ _ _ _ rfl rfl
theorem R.cons {v : V} {vs : List V} {d : D} {ds : List D} {S T} (r : R K G H [v] [d] S) (q : R K G H vs ds T) : R K G H (v :: vs) (d :: ds) (S ++ T) := r.app q
theorem R.cons0 {v : V} {vs : List V} {d : D} {ds : List D} (r : R K G H [v] [d] []) (q : R K G H vs ds []) : R K G H (v :: vs) (d :: ds) [] := r.app q
theorem R.fz0 {v : V} {d : D} {S} (r : R K G H [v] [d] S) (h : d.fz = true) : S = [] := by
  cases r with
  | «at» _ r => cases r; rfl
  | tup _ _ r => cases r; rfl
  | lst _ _ _ r => cases r; rfl
  | rol _ _ r => cases r; rfl
  | mls _ _ r => cases h
  | fdc _ _ _ _ r => cases r; rfl
  | mdc _ _ _ r => cases h
  | exc _ _ _ _ _ r => cases r; rfl
  | ins _ _ _ _ r => cases h
theorem R.fz {v : V} {d : D} (r : R K G H [v] [d] []) : d.fz = true := by
  cases r <;> first | rfl | (rename_i h _; cases h <;> rfl)
/-- the i-th -/
theorem R.get : ∀ {vs ds S}, R K G H vs ds S → ∀ {i : Nat} {d : D}, ds[i]? = some d → ∃ v S1, vs[i]? = some v ∧ R K G H [v] [d] S1 ∧ ∀ a ∈ S1, a ∈ S := by
  intro vs
  induction vs with
  | nil =>
    intro ds S r i d e
    cases r
    simp at e
  | cons v vs ih =>
    intro ds S r i d e
    cases ds with
    | nil => cases r
    | cons d0 ds =>
      obtain ⟨S1, S2, rfl, r1, r2⟩ := r.uncons
      cases i with
      | zero =>
        simp at e; subst e
        exact ⟨v, S1, rfl, r1, fun a z => List.mem_append_left _ z⟩
      | succ i =>
        obtain ⟨w, S3, h1, h2, h3⟩ := ih r2 (i := i) (d := d) (by simpa using e)
        exact ⟨w, S3, by simpa using h1, h2, fun a z => List.mem_append_right _ (h3 a z)⟩
theorem R.get0 {vs ds} (r : R K G H vs ds []) {i : Nat} {d : D} (e : ds[i]? = some d) : ∃ v, vs[i]? = some v ∧ R K G H [v] [d] [] := by
  obtain ⟨v, S1, h1, h2, h3⟩ := r.get e
  have : S1 = [] := by
    cases S1 with
    | nil => rfl
    | cons x r => exact absurd (h3 x (by simp)) (by simp)
  subst this
  exact ⟨v, h1, h2⟩
theorem R.getV {vs ds S} (r : R K G H vs ds S) {i : Nat} {v : V} (e : vs[i]? = some v) : ∃ d, ds[i]? = some d := by
  have := r.length
  have hl : i < ds.length := by
    rw [← this]
    exact (List.getElem?_eq_some_iff.mp e).1
  exact ⟨ds[i], List.getElem?_eq_getElem hl⟩
end

/-! ### slots -/
inductive E (K : Frg) (G : Addr → Prop) (H : Hp) : L2.St → Env → List Addr → Prop
  | nil : E K G H [] [] []
  | dead {o σ ρ S} : E K G H σ ρ S → E K G H (o :: σ) (none :: ρ) S
  | live {v d σ ρ S1 S} : R K G H [v] [d] S1 → E K G H σ ρ S → E K G H (some v :: σ) (some d :: ρ) (S1 ++ S)
section
variable {K : Frg} {G G' : Addr → Prop} {H H' : Hp} {C : Addr → Prop}
theorem E.mono (keep : ∀ a o, H a = some o → ¬ C a → H' a = some o) (hC : ∀ a, C a → G a ∧ Mut (H a)) (hG : ∀ a o, H a = some o → ¬ G a → ¬ G' a) :
    ∀ {σ ρ S}, E K G H σ ρ S → (∀ a ∈ S, ¬ C a) → E K G' H' σ ρ S := by
  intro σ ρ S r
  induction r with
  | nil => intro _; exact .nil
  | dead _ ih => intro n; exact .dead (ih n)
  | live r _ ih => intro n; exact .live (r.mono keep hC hG fun a z => n a (by simp [z])) (ih fun a z => n a (by simp [z]))
theorem E.mem : ∀ {σ ρ S}, E K G H σ ρ S → ∀ a ∈ S, Mut (H a) := by
  intro σ ρ S r
  induction r with
  | nil => intro a z; simp at z
  | dead _ ih => exact ih
  | live r _ ih =>
    intro a z
    rcases List.mem_append.mp z with z | z
    · exact r.mem a z
    · exact ih a z
theorem E.length : ∀ {σ ρ S}, E K G H σ ρ S → σ.length = ρ.length := by
  intro σ ρ S r
  induction r <;> simp_all
theorem E.get : ∀ {σ ρ S}, E K G H σ ρ S → ∀ {i : Nat} {d : D}, ρ[i]? = some (some d) → ∃ v S1, σ[i]? = some (some v) ∧ R K G H [v] [d] S1 ∧ ∀ a ∈ S1, a ∈ S := by
  intro σ ρ S r
  induction r with
  | nil => intro i d e; simp at e
  | dead _ ih =>
    intro i d e
    cases i with
    | zero => simp at e
    | succ i =>
      obtain ⟨v, S1, h1, h2, h3⟩ := ih (i := i) (d := d) (by simpa using e)
      exact ⟨v, S1, by simpa using h1, h2, h3⟩
  | live r _ ih =>
    intro i d e
    cases i with
    | zero =>
      simp at e; subst e
      exact ⟨_, _, rfl, r, fun a z => List.mem_append_left _ z⟩
    | succ i =>
      obtain ⟨v, S1, h1, h2, h3⟩ := ih (i := i) (d := d) (by simpa using e)
      exact ⟨v, S1, by simpa using h1, h2, fun a z => List.mem_append_right _ (h3 a z)⟩
/-- a slot's data taken out -/
theorem E.take : ∀ {σ ρ S}, E K G H σ ρ S → ∀ {i : Nat} {d : D}, ρ[i]? = some (some d) → ∃ v S1 S2, σ[i]? = some (some v) ∧ R K G H [v] [d] S1 ∧ E K G H σ (ρ.set i none) S2 ∧ S.Perm (S1 ++ S2) := by
  intro σ ρ S r
  induction r with
  | nil => intro i d e; simp at e
  | dead _ ih =>
    intro i d e
    cases i with
    | zero => simp at e
    | succ i =>
      obtain ⟨v, S1, S2, h1, h2, h3, h4⟩ := ih (i := i) (d := d) (by simpa using e)
      exact ⟨v, S1, S2, by simpa using h1, h2, .dead h3, h4⟩
  | @live v0 d0 σ ρ T1 T r q ih =>
    intro i d e
    cases i with
    | zero =>
      simp at e; subst e
      exact ⟨_, _, _, rfl, r, .dead q, List.Perm.refl _⟩
    | succ i =>
      obtain ⟨v, S1, S2, h1, h2, h3, h4⟩ := ih (i := i) (d := d) (by simpa using e)
      refine ⟨v, S1, T1 ++ S2, by simpa using h1, h2, .live r h3, ?_⟩
      refine (List.Perm.append_left T1 h4).trans ?_
      rw [← List.append_assoc, ← List.append_assoc]
      exact List.Perm.append_right _ List.perm_append_comm
/-- put in at an empty slot; the slot's value may be another one -/
theorem E.put : ∀ {σ ρ S}, E K G H σ ρ S → ∀ {i : Nat} {v : V} {d : D} {S1}, ρ[i]? = some none → R K G H [v] [d] S1 → ∃ S2, E K G H (σ.set i (some v)) (ρ.set i (some d)) S2 ∧ S2.Perm (S1 ++ S) := by
  intro σ ρ S r
  induction r with
  | nil => intro i v d S1 e; simp at e
  | @dead o σ ρ S q ih =>
    intro i v d S1 e rr
    cases i with
    | zero => exact ⟨_, .live rr q, List.Perm.refl _⟩
    | succ i =>
      obtain ⟨S2, h1, h2⟩ := ih (i := i) (by simpa using e) rr
      exact ⟨S2, .dead h1, h2⟩
  | @live v0 d0 σ ρ T1 T r q ih =>
    intro i v d S1 e rr
    cases i with
    | zero => simp at e
    | succ i =>
      obtain ⟨S2, h1, h2⟩ := ih (i := i) (by simpa using e) rr
      refine ⟨T1 ++ S2, .live r h1, ?_⟩
      refine (List.Perm.append_left T1 h2).trans ?_
      rw [← List.append_assoc, ← List.append_assoc]
      exact List.Perm.append_right _ List.perm_append_comm
theorem E.kill : ∀ {σ ρ S}, E K G H σ ρ S → ∀ (i : Nat), ∃ S2, E K G H σ (ρ.set i none) S2 ∧ ∃ S1, S.Perm (S1 ++ S2) := by
  intro σ ρ S r i
  cases e : ρ[i]? with
  | none =>
    refine ⟨S, ?_, [], List.Perm.refl _⟩
    rw [List.set_eq_of_length_le (List.getElem?_eq_none_iff.mp e)]
    exact r
  | some o =>
    cases o with
    | none =>
      refine ⟨S, ?_, [], List.Perm.refl _⟩
      have hl := (List.getElem?_eq_some_iff.mp e).1
      have he : ρ[i] = none := (List.getElem?_eq_some_iff.mp e).2
      rw [show ρ.set i none = ρ by
        apply List.ext_getElem?
        intro j
        rw [List.getElem?_set]
        split
        · rename_i h; subst h
          rw [e]
          first | rw [if_pos hl] | skip
        · rfl]
      exact r
    | some d =>
      obtain ⟨v, S1, S2, _, _, h3, h4⟩ := r.take e
      exact ⟨S2, h3, S1, h4⟩
/-- another value in the frame's slot of an empty place -/
theorem E.setV : ∀ {σ ρ S}, E K G H σ ρ S → ∀ {i : Nat} {o : Option V}, ρ[i]? = some none → E K G H (σ.set i o) ρ S := by
  intro σ ρ S r
  induction r with
  | nil => intro i o e; simp at e
  | dead q ih =>
    intro i o e
    cases i with
    | zero => exact .dead q
    | succ i => exact .dead (ih (i := i) (by simpa using e))
  | live r q ih =>
    intro i o e
    cases i with
    | zero => simp at e
    | succ i => exact .live r (ih (i := i) (by simpa using e))
end

/-! ### the state -/
/-- the background: objects of those around that may change (not by us), slots that keep their object -/
structure Bg where
  G0 : Addr → Prop
  pn : List (Nat × V)
def Gof (F : List Addr) (B : Bg) : Addr → Prop := fun a => a ∈ F ∨ B.G0 a
structure Sta (K : Frg) (B : Bg) (F : List Addr) (σ : L2.St) (ρ : Env) (H : Hp) : Prop where
  env : E K (Gof F B) H σ ρ F
  nd : F.Nodup
  ap : ∀ a ∈ F, ¬ B.G0 a
  old : ∀ a, B.G0 a → Mut (H a)
  pin : ∀ p ∈ B.pn, σ[p.1]? = some (some p.2)
structure Stp (F : List Addr) (H : Hp) (F' : List Addr) (H' : Hp) : Prop where
  keep : ∀ a o, H a = some o → a ∉ F → H' a = some o
  fresh : ∀ a ∈ F', a ∈ F ∨ H a = none
  dom : ∀ a o, H a = some o → ∃ o', H' a = some o'
structure Aft (b : Bool) (F : List Addr) (H : Hp) (ρ : Env) (F' : List Addr) (H' : Hp) (ρ' : Env) : Prop where
  stp : Stp F H F' H'
  pure : b = true → F' = F ∧ ρ' = ρ ∧ Same H H'

/-- with more objects that are not to be touched -/
def Bg.andS (B : Bg) (S : List Addr) : Bg := ⟨fun a => B.G0 a ∨ a ∈ S, B.pn⟩
theorem Sta.congr {K : Frg} {B B' : Bg} {F : List Addr} {σ : L2.St} {ρ : Env} {H : Hp} (s : Sta K B F σ ρ H) (h : ∀ a, B'.G0 a ↔ B.G0 a) (hp : B'.pn = B.pn) : Sta K B' F σ ρ H :=
  ⟨s.env.mono (C := fun _ => False) (fun _ _ e _ => e) (fun _ z => z.elim) (fun a o _ n z => n (by
    rcases z with z | z
    · exact .inl z
    · exact .inr ((h a).mp z))) fun _ _ z => z, s.nd, fun a z q => s.ap a z ((h a).mp q), fun a z => s.old a ((h a).mp z), fun p z => s.pin p (by rw [← hp]; exact z)⟩
theorem Sta.nilS {K : Frg} {B : Bg} {F : List Addr} {σ : L2.St} {ρ : Env} {H : Hp} (s : Sta K B F σ ρ H) : Sta K (B.andS []) F σ ρ H := s.congr (fun a => by unfold Bg.andS; simp) rfl
theorem Sta.ofNilS {K : Frg} {B : Bg} {F : List Addr} {σ : L2.St} {ρ : Env} {H : Hp} (s : Sta K (B.andS []) F σ ρ H) : Sta K B F σ ρ H := s.congr (fun a => by unfold Bg.andS; simp) rfl
theorem gofS {B : Bg} {F S : List Addr} {a : Addr} : Gof F (B.andS S) a ↔ (Gof F B a ∨ a ∈ S) := by
  unfold Gof Bg.andS
  constructor
  · rintro (h | h | h)
    · exact .inl (.inl h)
    · exact .inl (.inr h)
    · exact .inr h
  · rintro ((h | h) | h)
    · exact .inl h
    · exact .inr (.inl h)
    · exact .inr (.inr h)
/-- let go again -/
theorem Sta.dropS {K : Frg} {B : Bg} {F S : List Addr} {σ : L2.St} {ρ : Env} {H : Hp} (s : Sta K (B.andS S) F σ ρ H) : Sta K B F σ ρ H :=
  ⟨s.env.mono (C := fun _ => False) (fun _ _ e _ => e) (fun _ z => z.elim) (fun a o _ n z => n (gofS.mpr (.inl z))) fun _ _ z => z, s.nd, fun a z q => s.ap a z (.inl q), fun a z => s.old a (.inl z), s.pin⟩
theorem mut_ne {o : Option HO} (h : Mut o) : ∃ u, o = some u := by
  cases o with
  | none => exact h.elim
  | some u => exact ⟨u, rfl⟩
section
variable {K : Frg} {B : Bg} {F F1 F2 : List Addr} {H H1 H2 : Hp} {σ : L2.St} {ρ ρ1 ρ2 : Env} {b b1 b2 : Bool}
theorem Stp.refl : Stp F H F H := ⟨fun _ _ h _ => h, fun _ h => .inl h, fun _ o h => ⟨o, h⟩⟩
theorem Stp.trans (x : Stp F H F1 H1) (y : Stp F1 H1 F2 H2) : Stp F H F2 H2 := by
  refine ⟨fun a o h n => ?_, fun a h => ?_, fun a o h => ?_⟩
  · refine y.keep a o (x.keep a o h n) fun z => ?_
    rcases x.fresh a z with q | q
    · exact n q
    · rw [h] at q; cases q
  · rcases y.fresh a h with q | q
    · exact x.fresh a q
    · right
      cases e : H a with
      | none => rfl
      | some o =>
        obtain ⟨o', e'⟩ := x.dom a o e
        rw [e'] at q; cases q
  · obtain ⟨o', e⟩ := x.dom a o h
    exact y.dom a o' e
theorem Stp.same (h : Same H H1) : Stp F H F H1 := ⟨fun a o e _ => h a o e, fun _ h => .inl h, fun a o e => ⟨o, h a o e⟩⟩
theorem Aft.refl : Aft b F H ρ F H ρ := ⟨.refl, fun _ => ⟨rfl, rfl, Same.refl _⟩⟩
theorem Aft.trans (x : Aft b1 F H ρ F1 H1 ρ1) (y : Aft b2 F1 H1 ρ1 F2 H2 ρ2) : Aft (b1 && b2) F H ρ F2 H2 ρ2 := by
  refine ⟨x.stp.trans y.stp, fun h => ?_⟩
  rw [Bool.and_eq_true] at h
  obtain ⟨e1, e2, e3⟩ := x.pure h.1
  obtain ⟨f1, f2, f3⟩ := y.pure h.2
  exact ⟨f1.trans e1, f2.trans e2, e3.trans f3⟩
theorem Aft.same (h : Same H H1) : Aft b F H ρ F H1 ρ := ⟨.same h, fun _ => ⟨rfl, rfl, h⟩⟩
theorem Aft.ext (x : Aft b F H ρ F1 H1 ρ1) (h : Same H1 H2) : Aft b F H ρ F1 H2 ρ1 := by
  have := x.trans (Aft.same (b := b) (F := F1) (ρ := ρ1) h)
  rwa [Bool.and_self] at this
theorem Aft.weak (x : Aft b F H ρ F1 H1 ρ1) (h : b1 = true → b = true) : Aft b1 F H ρ F1 H1 ρ1 := ⟨x.stp, fun e => x.pure (h e)⟩
theorem Sta.memF (s : Sta K B F σ ρ H) {a : Addr} (h : a ∈ F) : Mut (H a) := s.env.mem a h
theorem Sta.memG (s : Sta K B F σ ρ H) {a : Addr} (h : Gof F B a) : Mut (H a) := by
  rcases h with h | h
  · exact s.memF h
  · exact s.old a h
/-- the state over a larger heap -/
theorem Sta.ext (s : Sta K B F σ ρ H) (h : Same H H1) : Sta K B F σ ρ H1 := by
  refine ⟨s.env.mono (C := fun _ => False) (fun a o e _ => h a o e) (fun _ z => z.elim) (fun _ _ _ n => n) (fun _ _ z => z), s.nd, s.ap, fun a z => ?_, s.pin⟩
  obtain ⟨u, e⟩ := mut_ne (s.old a z)
  rw [h a u e, ← e]
  exact s.old a z
/-- frozen data behind a step -/
theorem R.aft {vs : List V} {ds : List D} (r : R K (Gof F B) H vs ds []) (s : Sta K B F σ ρ H) (s1 : Sta K B F1 σ ρ1 H1) (x : Stp F H F1 H1) : R K (Gof F1 B) H1 vs ds [] := by
  refine r.mono (C := fun a => a ∈ F) (fun a o e n => x.keep a o e n) (fun a z => ⟨.inl z, s.memF z⟩) (fun a o e n z => ?_) (fun _ z => absurd z (by simp))
  rcases z with z | z
  · rcases x.fresh a z with q | q
    · exact n (.inl q)
    · rw [e] at q; cases q
  · exact n (.inr z)
theorem R.aftσ {vs : List V} {ds : List D} (r : R K (Gof F B) H vs ds []) (s : Sta K B F σ ρ H) (x : Stp F H F1 H1) : R K (Gof F1 B) H1 vs ds [] := by
  refine r.mono (C := fun a => a ∈ F) (fun a o e n => x.keep a o e n) (fun a z => ⟨.inl z, s.memF z⟩) (fun a o e n z => ?_) (fun _ z => absurd z (by simp))
  rcases z with z | z
  · rcases x.fresh a z with q | q
    · exact n (.inl q)
    · rw [e] at q; cases q
  · exact n (.inr z)
/-- any data over a larger heap -/
theorem R.same {G : Addr → Prop} {vs : List V} {ds : List D} {S} (r : R K G H vs ds S) (h : Same H H1) : R K G H1 vs ds S :=
  r.mono (C := fun _ => False) (fun a o e _ => h a o e) (fun _ z => z.elim) (fun _ _ _ n => n) (fun _ _ z => z)
theorem R.aftV {vs : List V} {ds : List D} {S} (r : R K (Gof F B) H vs ds S) (s : Sta K B F σ ρ H) (x : Aft b F H ρ F1 H1 ρ1) (h : S = [] ∨ b = true) : R K (Gof F1 B) H1 vs ds S := by
  rcases h with h | h
  · subst h
    exact r.aftσ s x.stp
  · obtain ⟨e, _, q⟩ := x.pure h
    subst e
    exact r.same q
end

/-! ### what a reading does -/
def RErr (K : Frg) (G : Addr → Prop) (H : Hp) (cls : Value) (dx : Option Addr) (er : Er) : Prop :=
  ∃ a, dx = some a ∧ GoodX K er.cls cls ∧ ∃ fv : List (Str × V), H a = some (.xd fv) ∧ fv.map (·.1) = er.fs.map (fun p => fname p.1) ∧ R K G H (fv.map (·.2)) (er.fs.map (·.2)) []
def KE (K : Frg) (B : Bg) (vw b : Bool) (F : List Addr) (σ : L2.St) (ρ : Env) (H : Hp) (Q : VK) (q : DK) : Prop :=
  ∀ v d ρ' F' H' S, Sta K B F' σ ρ' H' → R K (Gof F' B) H' [v] [d] S → (∀ a ∈ S, a ∈ F') → (vw = false → S = []) → Aft b F H ρ F' H' ρ' → q d ρ' → Q v H'
def KT (K : Frg) (B : Bg) (b : Bool) (F : List Addr) (σ : L2.St) (ρ : Env) (H : Hp) (Q : Bool → Hp → Prop) (q : Bool → Env → Prop) : Prop :=
  ∀ c ρ' F' H', Sta K B F' σ ρ' H' → Aft b F H ρ F' H' ρ' → q c ρ' → Q c H'
def KA (K : Frg) (B : Bg) (vw b : Bool) (F : List Addr) (σ : L2.St) (ρ : Env) (H : Hp) (Q : List V → Hp → Prop) (q : List D → Env → Prop) : Prop :=
  ∀ vs ds ρ' F' H' S, Sta K B F' σ ρ' H' → R K (Gof F' B) H' vs ds S → (∀ a ∈ S, a ∈ F') → (vw = false → S = []) → Aft b F H ρ F' H' ρ' → q ds ρ' → Q vs H'
def KX (K : Frg) (B : Bg) (W : WX) (F : List Addr) (σ : L2.St) (H : Hp) (x : EK) : Prop :=
  ∀ er ρ' F' H' cls dx, Sta K B F' σ ρ' H' → RErr K (Gof F' B) H' cls dx er → Stp F H F' H' → x er ρ' → W cls dx σ H'
/-- vw: the value may be one that a slot holds; b: nothing changes -/
def Sim (K : Frg) (W : WX) (vw b : Bool) (te : TE) (t : METy) : Prop := ∀ B F σ ρ H Q q x, Sta K B F σ ρ H → t ρ q x → KE K B vw b F σ ρ H Q q → KX K B W F σ H x → te σ H Q
def SimT (K : Frg) (W : WX) (b : Bool) (te : TT) (t : MTTy) : Prop := ∀ B F σ ρ H Q q x, Sta K B F σ ρ H → t ρ q x → KT K B b F σ ρ H Q q → KX K B W F σ H x → te σ H Q
def SimA (K : Frg) (W : WX) (vw b : Bool) (te : TA) (t : MATy) : Prop := ∀ B F σ ρ H Q q x, Sta K B F σ ρ H → t ρ q x → KA K B vw b F σ ρ H Q q → KX K B W F σ H x → te σ H Q
section
variable {K : Frg} {B : Bg} {W : WX} {F F1 F2 : List Addr} {H H1 H2 : Hp} {σ : L2.St} {ρ ρ1 ρ2 : Env} {b b1 b2 : Bool} {x : EK}
theorem KX.aft (h : KX K B W F σ H x) (a : Stp F H F1 H1) : KX K B W F1 σ H1 x := fun er ρ' F' H' cls dx s r z q => h er ρ' F' H' cls dx s r (a.trans z) q
end
end Mi
end

-- text MB
section
set_option Elab.async false
set_option linter.all false
set_option maxRecDepth 100000
set_option maxHeartbeats 4000000
/-! MB: expressions. -/
namespace Mi
open PySem PySem.Spec PyProof.Rows L2
section
variable {K : Frg} {W : WX} {vw vw1 vw2 b b1 b2 : Bool} {te ta tb : TE} {t ma mb : METy}

/-! ### names, constants -/
def mVar (i : Nat) : METy := fun ρ q _ => match ρ[i]? with
  | some (some d) => q d ρ
  | _ => False
def mVarF (i : Nat) : METy := fun ρ q _ => match ρ[i]? with
  | some (some d) => (match d.fz with
    | true => q d ρ
    | false => False)
  | _ => False
def mC (d : D) : METy := fun ρ q _ => q d ρ
theorem sim_var {i : Nat} : Sim K W true true (tVar i) (mVar i) := by
  intro B F σ ρ H Q q x s h k _
  unfold mVar at h
  split at h
  · rename_i d e
    obtain ⟨v, S1, h1, h2, h3⟩ := s.env.get e
    exact ⟨v, h1, k v d ρ F H S1 s h2 h3 (fun z => nomatch z) .refl h⟩
  · exact h.elim
theorem sim_varF {i : Nat} : Sim K W false true (tVar i) (mVarF i) := by
  intro B F σ ρ H Q q x s h k _
  unfold mVarF at h
  split at h
  · rename_i d e
    obtain ⟨v, S1, h1, h2, h3⟩ := s.env.get e
    split at h
    · rename_i hf
      exact ⟨v, h1, k v d ρ F H S1 s h2 h3 (fun _ => h2.fz0 hf) .refl h⟩
    · exact h.elim
  · exact h.elim
theorem sim_c {v : V} {d : D} (a : Atom v d) : Sim K W false true (tC v) (mC d) := by
  intro B F σ ρ H Q q x s h k _
  exact k v d ρ F H [] s (.at a .nil) (by simp) (fun _ => rfl) .refl h
theorem sim_int {i : Int} : Sim K W false true (tC (.int i)) (mC (.int i)) := sim_c .int
theorem sim_bl {i : Bool} : Sim K W false true (tC (.bl i)) (mC (.bl i)) := sim_c .bl
theorem sim_non : Sim K W false true (tC .non) (mC .non) := sim_c .non
theorem sim_str (l : List Nat) {x : Str} (h : x = ⟨l.toArray⟩) (hl : l.length ≤ sizeLine) : Sim K W false true (tC (.str x)) (mC (.str l)) := by
  subst h
  exact sim_c (.str hl)
theorem Sim.view (h : Sim K W false b te t) : Sim K W true b te t := fun B F σ ρ H Q q x s p k e => h B F σ ρ H Q q x s p (fun v d ρ' F' H' S s' r m z a y => k v d ρ' F' H' S s' r m (fun e => nomatch e) a y) e

/-! ### two places -/
abbrev F2 := D → D → (D → Prop) → Prop
/-- all that G names stands in H -/
def Dom (G : Addr → Prop) (H : Hp) : Prop := ∀ a, G a → ∃ o, H a = some o
theorem Sta.dom {B : Bg} {F : List Addr} {σ : L2.St} {ρ : Env} {H : Hp} (s : Sta K B F σ ρ H) : Dom (Gof F B) H := fun a z => mut_ne (s.memG z)
/-- fresh addresses are named by no G -/
theorem Dom.new {G : Addr → Prop} {H : Hp} (d : Dom G H) {p : Addr} (h : H p = none) : ¬ G p := fun z => by
  obtain ⟨o, e⟩ := d p z
  rw [h] at e; cases e
def RK (K : Frg) (G : Addr → Prop) (H : Hp) (Q : VK) (q : D → Prop) : Prop := ∀ v d H', Same H H' → R K G H' [v] [d] [] → q d → Q v H'
def RSim (K : Frg) (r : R2) (f : F2) : Prop := ∀ G H v1 v2 d1 d2 S1 S2 Q q, Dom G H → R K G H [v1] [d1] S1 → R K G H [v2] [d2] S2 → f d1 d2 q → RK K G H Q q → r v1 v2 H Q
def mOp (f : F2) (ma mb : METy) : METy := fun ρ q x => ma ρ (fun d1 ρ1 => mb ρ1 (fun d2 ρ2 => f d1 d2 (fun d => q d ρ2)) x) x
theorem sim_op {r : R2} {f : F2} (hr : RSim K r f) (ha : Sim K W vw1 b1 ta ma) (hb : Sim K W vw2 b2 tb mb) (hv : (!vw1 || b2) = true := by rfl) : Sim K W false (b1 && b2) (tOp r ta tb) (mOp f ma mb) := by
  intro B F σ ρ H Q q x s h k e
  refine ha B F σ ρ H _ _ x s h (fun v1 d1 ρ1 F1 H1 S1 s1 r1 m1 z1 a1 h1 => ?_) e
  refine hb B F1 σ ρ1 H1 _ _ x s1 h1 (fun v2 d2 ρ2 F2 H2 S2 s2 r2 m2 z2 a2 h2 => ?_) (e.aft a1.stp)
  have hs : S1 = [] ∨ b2 = true := by
    cases vw1 with
    | false => exact .inl (z1 rfl)
    | true => exact .inr (by simpa using hv)
  refine hr (Gof F2 B) H2 v1 v2 d1 d2 S1 S2 Q _ s2.dom (r1.aftV s1 a2 hs) r2 h2 fun v d H' sm r p => ?_
  exact k v d ρ2 F2 H' [] (s2.ext sm) r (by simp) (fun _ => rfl) ((a1.trans a2).ext sm) p
/-- one place -/
def F1S := D → (D → Prop) → Prop
def USim (K : Frg) (r : V → Hp → VK → Prop) (f : D → (D → Prop) → Prop) : Prop := ∀ G H v1 d1 S1 Q q, Dom G H → R K G H [v1] [d1] S1 → f d1 q → RK K G H Q q → r v1 H Q
def mUn (f : D → (D → Prop) → Prop) (ma : METy) : METy := fun ρ q x => ma ρ (fun d1 ρ1 => f d1 (fun d => q d ρ1)) x
theorem sim_un {r : V → Hp → VK → Prop} {f : D → (D → Prop) → Prop} (hr : USim K r f) (ha : Sim K W vw1 b1 ta ma) : Sim K W false b1 (tUn r ta) (mUn f ma) := by
  intro B F σ ρ H Q q x s h k e
  refine ha B F σ ρ H _ _ x s h (fun v1 d1 ρ1 F1 H1 S1 s1 r1 m1 z1 a1 h1 => ?_) e
  refine hr (Gof F1 B) H1 v1 d1 S1 Q _ s1.dom r1 h1 fun v d H' sm r p => ?_
  exact k v d ρ1 F1 H' [] (s1.ext sm) r (by simp) (fun _ => rfl) (a1.ext sm) p

theorem opR_or {X : Cx} {f : Value → Value → Sem Value} {r1 r2 : R2} (h1 : OpR X f r1) (h2 : OpR X f r2) : OpR X f (fun x y H Q => r1 x y H Q ∨ r2 x y H Q) := by
  intro pins s σ H x y v u Q I rx ry h
  rcases h with h | h
  · exact h1 pins s σ H x y v u Q I rx ry h
  · exact h2 pins s σ H x y v u Q I rx ry h
abbrev rOr (r1 r2 : R2) : R2 := fun x y H Q => r1 x y H Q ∨ r2 x y H Q

/-! ### reading the relation -/
section
variable {G : Addr → Prop} {H : Hp} {v : V} {S : List Addr}
theorem R.int {i : Int} (r : R K G H [v] [.int i] S) : v = .int i := by
  cases r with
  | «at» h _ => cases h; rfl
theorem R.bl {i : Bool} (r : R K G H [v] [.bl i] S) : v = .bl i := by
  cases r with
  | «at» h _ => cases h; rfl
theorem R.non (r : R K G H [v] [.non] S) : v = .non := by
  cases r with
  | «at» h _ => cases h; rfl
theorem R.str {x : List Nat} (r : R K G H [v] [.str x] S) : v = .str ⟨x.toArray⟩ ∧ x.length ≤ sizeLine := by
  cases r with
  | «at» h _ => cases h with
    | str h => exact ⟨rfl, h⟩
theorem R.tupE {es : List D} (r : R K G H [v] [.tup es] S) : ∃ a ws, v = .ref a ∧ SqT K H a ws ∧ R K G H ws es [] := by
  cases r with
  | «at» h _ => cases h
  | tup h1 h2 _ => exact ⟨_, _, rfl, h1, h2⟩
theorem R.lstE {es : List D} (r : R K G H [v] [.lst es] S) : ∃ a ws, v = .ref a ∧ H a = some (.lst ws) ∧ R K G H ws es [] := by
  cases r with
  | «at» h _ => cases h
  | lst _ h1 h2 _ => exact ⟨_, _, rfl, h1, h2⟩
theorem R.mlsE {es : List D} (r : R K G H [v] [.mls es] S) : ∃ a ws S1, v = .ref a ∧ H a = some (.lst ws) ∧ R K G H ws es S1 := by
  cases r with
  | «at» h _ => cases h
  | mls h1 h2 _ => exact ⟨_, _, _, rfl, h1, h2⟩
theorem R.int1 {i : Int} : R K G H [.int i] [.int i] [] := .at .int .nil
theorem R.bl1 {i : Bool} : R K G H [.bl i] [.bl i] [] := .at .bl .nil
theorem R.non1 : R K G H [.non] [.non] [] := .at .non .nil
theorem R.str1 {x : List Nat} (h : x.length ≤ sizeLine) : R K G H [.str ⟨x.toArray⟩] [.str x] [] := .at (.str h) .nil
theorem same_upd {p : Addr} {o : HO} (h : H p = none) : Same H (upd H p o) := fun b x e => by
  rw [upd_ne (ne_of_none e h)]
  exact e
/-- a new tuple, a new list of frozen data -/
theorem R.newT {p : Addr} {ws : List V} {es : List D} (h : H p = none) (r : R K G H ws es []) : R K G (upd H p (.tup ws)) [.ref p] [.tup es] [] :=
  .tup (SqT.of upd_same) (r.same (same_upd h)) .nil
theorem R.newL {p : Addr} {ws : List V} {es : List D} (d : Dom G H) (h : H p = none) (r : R K G H ws es []) : R K G (upd H p (.lst ws)) [.ref p] [.lst es] [] :=
  .lst (d.new h) upd_same (r.same (same_upd h)) .nil
end
def sq : D → Option (List D)
  | .tup ds => some ds
  | .lst ds => some ds
  | .rol ds => some ds
  | .mls ds => some ds
  | _ => none
/-- a list | a tuple, read -/
theorem R.sqE {G : Addr → Prop} {H : Hp} {v : V} {S : List Addr} {d : D} {ds : List D} (r : R K G H [v] [d] S) (h : sq d = some ds) : ∃ a ws S1, v = .ref a ∧ (SqL K H a ws ∨ SqT K H a ws) ∧ R K G H ws ds S1 ∧ (∀ a ∈ S1, a ∈ S) := by
  cases r with
  | «at» h' _ => cases h' <;> cases h
  | tup h1 h2 _ => cases h; exact ⟨_, _, [], rfl, .inr h1, h2, by simp⟩
  | lst _ h1 h2 _ => cases h; exact ⟨_, _, [], rfl, .inl (.inl (.inl h1)), h2, by simp⟩
  | rol h1 h2 _ =>
    cases h
    refine ⟨_, _, [], rfl, .inl ?_, h2, by simp⟩
    rcases h1 with h1 | h1
    · exact h1 _
    · exact .inl (.inr h1)
  | mls h1 h2 _ => cases h; exact ⟨_, _, _, rfl, .inl (.inl (.inl h1)), h2, fun a z => by simp [z]⟩
  | fdc _ _ _ _ _ => cases h
  | mdc _ _ _ _ => cases h
  | exc _ _ _ _ _ _ => cases h
  | ins _ _ _ _ _ => cases h
/-- all frozen -/
def fzs (ds : List D) : Bool := ds.all D.fz
theorem R.fzs0 {G : Addr → Prop} {H : Hp} : ∀ {vs : List V} {ds : List D} {S}, R K G H vs ds S → fzs ds = true → S = [] := by
  intro vs
  induction vs with
  | nil => intro ds S r _; cases r; rfl
  | cons v vs ih =>
    intro ds S r h
    cases ds with
    | nil => cases r
    | cons d ds =>
      obtain ⟨S1, S2, rfl, r1, r2⟩ := r.uncons
      unfold fzs at h
      rw [List.all_cons, Bool.and_eq_true] at h
      rw [r1.fz0 h.1, ih r2 h.2]
      rfl

/-! ### arithmetic -/
theorem str_app (a c : List Nat) : ((⟨a.toArray⟩ : Str) ++ (⟨c.toArray⟩ : Str)) = (⟨(a ++ c).toArray⟩ : Str) := by
  show (⟨a.toArray ++ c.toArray⟩ : Str) = _
  simp
theorem str_len (a : List Nat) : (⟨a.toArray⟩ : Str).length = a.length := by
  show a.toArray.size = _
  simp
theorem line_eq : sizeLine = 16777216 := sizeLine_eq
def fAdd : F2 := fun x y q => match x, y with
  | .int i, .int j => q (.int (i + j))
  | .str a, .str c => a.length + c.length ≤ 16777216 ∧ q (.str (a ++ c))
  | .lst a, .lst c => a.length + c.length ≤ 16777216 ∧ q (.lst (a ++ c))
  | .mls a, .lst c => a.length + c.length ≤ 16777216 ∧ fzs a = true ∧ q (.lst (a ++ c))
  | .lst a, .mls c => a.length + c.length ≤ 16777216 ∧ fzs c = true ∧ q (.lst (a ++ c))
  | .mls a, .mls c => a.length + c.length ≤ 16777216 ∧ fzs a = true ∧ fzs c = true ∧ q (.lst (a ++ c))
  | .tup a, .tup c => a.length + c.length ≤ 16777216 ∧ q (.tup (a ++ c))
  | _, _ => False
abbrev rAddS : R2 := fun x y H Q => ∃ i j, x = .str i ∧ y = .str j ∧ i.length + j.length ≤ sizeLine ∧ Q (.str (i ++ j)) H
abbrev rAddA (K : Frg) : R2 := rOr (rI0 fun i j => .int (i + j)) (rOr rAddS (rOr rCat (rCatA K)))
theorem op_addA {X : Cx} : OpR X (binaryOp .Add) (rAddA X.K) := opR_or op_add (opR_or op_add_str (opR_or op_cat op_catA))
theorem R.lm {G : Addr → Prop} {H : Hp} {v : V} {S : List Addr} {d : D} {es : List D} (r : R K G H [v] [d] S) (h : d = .lst es ∨ (d = .mls es ∧ fzs es = true)) : ∃ a ws, v = .ref a ∧ H a = some (.lst ws) ∧ R K G H ws es [] := by
  rcases h with rfl | ⟨rfl, h⟩
  · exact r.lstE
  · obtain ⟨a, ws, S1, e, h1, h2⟩ := r.mlsE
    have := h2.fzs0 h
    subst this
    exact ⟨a, ws, e, h1, h2⟩
theorem cat_aux {G : Addr → Prop} {H : Hp} {v1 v2 : V} {S1 S2 : List Addr} {d1 d2 : D} {a c : List D} {Q : VK} {q : D → Prop} (dm : Dom G H) (r1 : R K G H [v1] [d1] S1) (r2 : R K G H [v2] [d2] S2)
    (e1 : d1 = .lst a ∨ (d1 = .mls a ∧ fzs a = true)) (e2 : d2 = .lst c ∨ (d2 = .mls c ∧ fzs c = true)) (hl : a.length + c.length ≤ 16777216) (h : q (.lst (a ++ c))) (k : RK K G H Q q) : rCat v1 v2 H Q := by
  obtain ⟨x, ws, rfl, hx, rx⟩ := r1.lm e1
  obtain ⟨y, zs, rfl, hy, ry⟩ := r2.lm e2
  refine ⟨x, y, ws, zs, rfl, rfl, hx, hy, by rw [rx.length, ry.length, line_eq]; exact hl, fun p hp => ?_⟩
  have := rx.app ry
  exact k _ _ _ (same_upd hp) (.newL dm hp this) h
theorem rs_add : RSim K (rAddA K) fAdd := by
  intro G H v1 v2 d1 d2 S1 S2 Q q dm r1 r2 h k
  unfold fAdd at h
  split at h
  · have := r1.int; have := r2.int; subst_vars
    exact .inl ⟨_, _, rfl, rfl, k _ _ H (Same.refl _) .int1 h⟩
  · obtain ⟨h1, h2⟩ := h
    obtain ⟨rfl, e1⟩ := r1.str
    obtain ⟨rfl, e2⟩ := r2.str
    refine .inr (.inl ⟨_, _, rfl, rfl, by rw [str_len, str_len, line_eq]; exact h1, ?_⟩)
    rw [str_app]
    exact k _ _ H (Same.refl _) (.str1 (by rw [List.length_append, line_eq]; exact h1)) h2
  · obtain ⟨h1, h2⟩ := h
    exact .inr (.inr (.inl (cat_aux dm r1 r2 (.inl rfl) (.inl rfl) h1 h2 k)))
  · obtain ⟨h1, h3, h2⟩ := h
    exact .inr (.inr (.inl (cat_aux dm r1 r2 (.inr ⟨rfl, h3⟩) (.inl rfl) h1 h2 k)))
  · obtain ⟨h1, h3, h2⟩ := h
    exact .inr (.inr (.inl (cat_aux dm r1 r2 (.inl rfl) (.inr ⟨rfl, h3⟩) h1 h2 k)))
  · obtain ⟨h1, h3, h4, h2⟩ := h
    exact .inr (.inr (.inl (cat_aux dm r1 r2 (.inr ⟨rfl, h3⟩) (.inr ⟨rfl, h4⟩) h1 h2 k)))
  · obtain ⟨h1, h2⟩ := h
    obtain ⟨x, ws, rfl, hx, rx⟩ := r1.tupE
    obtain ⟨y, zs, rfl, hy, ry⟩ := r2.tupE
    refine .inr (.inr (.inr ⟨x, y, ws, zs, rfl, rfl, hx, hy, by rw [rx.length, ry.length, line_eq]; exact h1, fun e => ?_, fun e e2 => ?_, fun e1 e2 p hp => ?_⟩))
    · subst e
      cases rx
      exact k _ _ H (Same.refl _) (.tup hy ry .nil) h2
    · subst e2
      cases ry
      rw [List.append_nil] at h2
      exact k _ _ H (Same.refl _) (.tup hx rx .nil) h2
    · exact k _ _ _ (same_upd hp) (.newT hp (rx.app ry)) h2
  · exact h.elim
/-- two ints -/
def fI (C : Int → Int → Prop) (g : Int → Int → D) : F2 := fun x y q => match x, y with
  | .int i, .int j => C i j ∧ q (g i j)
  | _, _ => False
def fI0 (g : Int → Int → D) : F2 := fun x y q => match x, y with
  | .int i, .int j => q (g i j)
  | _, _ => False
theorem rs_I0 {g : Int → Int → V} {g' : Int → Int → D} (hg : ∀ i j, Atom (g i j) (g' i j)) : RSim K (rI0 g) (fI0 g') := by
  intro G H v1 v2 d1 d2 S1 S2 Q q dm r1 r2 h k
  unfold fI0 at h
  split at h
  · have := r1.int; have := r2.int; subst_vars
    exact ⟨_, _, rfl, rfl, k _ _ H (Same.refl _) (.at (hg _ _) .nil) h⟩
  · exact h.elim
theorem rs_I {C C' : Int → Int → Prop} {g : Int → Int → V} {g' : Int → Int → D} (hc : ∀ i j, C' i j → C i j) (hg : ∀ i j, C' i j → Atom (g i j) (g' i j)) : RSim K (rI C g) (fI C' g') := by
  intro G H v1 v2 d1 d2 S1 S2 Q q dm r1 r2 h k
  unfold fI at h
  split at h
  · have := r1.int; have := r2.int; subst_vars
    exact ⟨_, _, rfl, rfl, hc _ _ h.1, k _ _ H (Same.refl _) (.at (hg _ _ h.1) .nil) h.2⟩
  · exact h.elim
def fSub : F2 := fI0 fun i j => .int (i - j)
theorem rs_sub : RSim K (rI0 fun i j => .int (i - j)) fSub := rs_I0 fun _ _ => .int
def SmallI (j : Int) : Prop := j.natAbs.log2 < 9000
theorem small_of {j : Int} (h : j.natAbs < 2 ^ 64) : SmallI j := by
  unfold SmallI
  by_cases e : j.natAbs = 0
  · rw [e]; decide
  · have : j.natAbs.log2 < 64 := (Nat.log2_lt e).mpr h
    omega
def CDv (i j : Int) : Prop := 0 < j ∧ SmallI j
def fDiv : F2 := fI CDv fun i j => .int (i / j)
theorem rs_div : RSim K (rI CDivW fun i j => .int (i / j)) fDiv := rs_I (fun _ _ h => h) fun _ _ _ => .int
def fMod : F2 := fI (fun _ j => 0 < j) fun i j => .int (i % j)
theorem rs_mod : RSim K (rI (fun _ j => j ≠ 0) fun i j => .int (i.fmod j)) fMod :=
  rs_I (fun _ j (h : 0 < j) => by omega) fun i j (h : 0 < j) => by
    rw [Int.fmod_eq_emod_of_nonneg _ (by omega)]
    exact .int
def fPow : F2 := fI CPow fun i j => .int (i ^ j.toNat)
theorem rs_pow : RSim K (rI CPow fun i j => .int (i ^ j.toNat)) fPow := rs_I (fun _ _ h => h) fun _ _ _ => .int
/-- a product: ints one of which is below 2^64, or both of some size; a text, a list, a tuple so many times -/
def CMl (i j : Int) : Prop := CMul i j ∨ CMulW i j
def fMul : F2 := fun x y q => match x, y with
  | .int i, .int j => CMl i j ∧ q (.int (i * j))
  | .str a, .int j => (j < 2 ^ 31 ∧ -(2 ^ 31) < j ∧ a.length * j.toNat ≤ 16777216) ∧ q (.str (List.replicate j.toNat a).flatten)
  | .lst a, .int j => (j < 2 ^ 31 ∧ -(2 ^ 31) < j ∧ a.length * j.toNat ≤ 16777216) ∧ q (.lst (List.replicate j.toNat a).flatten)
  | _, _ => False
abbrev rMulS : R2 := fun x y H Q => ∃ a j, x = .str a ∧ y = .int j ∧ MulOk a j ∧ Q (.str (Txt.mul a j)) H
theorem op_mulS {X : Cx} : OpR X (binaryOp .Mult) rMulS := by
  intro pins s σ H x y v u Q I rx ry h
  obtain ⟨a, j, rfl, rfl, ok, q⟩ := h
  obtain ⟨t, rfl⟩ := rx
  obtain ⟨t', rfl⟩ := ry
  exact SB.mul ok fun t' k => ⟨.str _, H, I.tok _, ⟨_, rfl⟩, q⟩
abbrev rMulA : R2 := rOr (rI CMul fun i j => .int (i * j)) (rOr (rI CMulW fun i j => .int (i * j)) (rOr rMulS rRep))
theorem op_mulA {X : Cx} : OpR X (binaryOp .Mult) rMulA := opR_or op_mul (opR_or op_mulW (opR_or op_mulS op_rep))
theorem foldl_rep : ∀ (n : Nat) (c a : List Nat), (List.replicate n a.toArray).foldl (fun x y => x ++ y) c.toArray = (c ++ (List.replicate n a).flatten).toArray
  | 0, c, a => by simp
  | n + 1, c, a => by
    rw [List.replicate_succ, List.replicate_succ, List.foldl_cons, List.flatten_cons]
    have : c.toArray ++ a.toArray = (c ++ a).toArray := by simp
    rw [this, foldl_rep n, List.append_assoc]
theorem txt_mul (a : List Nat) (j : Int) : Txt.mul ⟨a.toArray⟩ j = ⟨((List.replicate j.toNat a).flatten).toArray⟩ := by
  unfold Txt.mul
  by_cases h1 : j < 1
  · rw [if_pos h1, show j.toNat = 0 by omega]; rfl
  · rw [if_neg h1]
    split
    · rename_i h2
      simp only [Bool.or_eq_true, beq_iff_eq] at h2
      rcases h2 with h2 | h2
      · subst h2
        show _ = (⟨((List.replicate 1 a).flatten).toArray⟩ : Str)
        simp
      · rw [str_len] at h2
        have := List.length_eq_zero_iff.mp h2
        subst this
        simp
    · have := foldl_rep j.toNat [] a
      rw [List.nil_append] at this
      show (⟨_⟩ : Str) = _
      rw [← this]
theorem rep_len (n : Nat) {α : Type} (a : List α) : (List.replicate n a).flatten.length = a.length * n := by
  rw [List.length_flatten, List.map_replicate, List.sum_replicate_nat, Nat.mul_comm]
theorem mulOk_of {a : List Nat} {j : Int} (h1 : j < 2 ^ 31) (h2 : -(2 ^ 31) < j) (h3 : a.length * j.toNat ≤ 16777216) : MulOk ⟨a.toArray⟩ j := by
  refine ⟨?_, fun hj hz => ?_, fun hj hz => ?_⟩
  · rw [Bool.or_eq_false_iff]
    exact ⟨decide_eq_false (by omega), decide_eq_false (by omega)⟩
  · rw [str_len]
    intro hc
    have hjp : 0 < j := by omega
    have := Int.lt_of_lt_of_le (show (2 ^ 63 - 1) / j < a.length from hc) (Int.le_refl _)
    have h5 : (2 ^ 63 - 1 : Int) < a.length * j := by
      have := (Int.ediv_lt_iff_lt_mul hjp).mp this
      exact this
    have h6 : ((a.length * j.toNat : Nat) : Int) = (a.length : Int) * j := by
      rw [Int.natCast_mul, Int.toNat_of_nonneg (by omega)]
    omega
  · rw [str_len]
    have : sizeLine = 16777216 := sizeLine_eq
    show decide (_ > sizeLine) = false
    exact decide_eq_false (by omega)
theorem R.rep {G : Addr → Prop} {H : Hp} {ws : List V} {es : List D} (r : R K G H ws es []) : ∀ n : Nat, R K G H (List.replicate n ws).flatten (List.replicate n es).flatten []
  | 0 => .nil
  | n + 1 => by
    rw [List.replicate_succ, List.replicate_succ, List.flatten_cons, List.flatten_cons]
    exact r.app (r.rep n)
theorem rs_mul : RSim K rMulA fMul := by
  intro G H v1 v2 d1 d2 S1 S2 Q q dm r1 r2 h k
  unfold fMul at h
  split at h
  · have := r1.int; have := r2.int; subst_vars
    rcases h.1 with c | c
    · exact .inl ⟨_, _, rfl, rfl, c, k _ _ H (Same.refl _) .int1 h.2⟩
    · exact .inr (.inl ⟨_, _, rfl, rfl, c, k _ _ H (Same.refl _) .int1 h.2⟩)
  · obtain ⟨⟨h1, h2, h3⟩, h4⟩ := h
    obtain ⟨rfl, e1⟩ := r1.str
    have := r2.int; subst this
    refine .inr (.inr (.inl ⟨_, _, rfl, rfl, mulOk_of h1 h2 h3, ?_⟩))
    rw [txt_mul]
    exact k _ _ H (Same.refl _) (.str1 (by rw [rep_len, line_eq]; exact h3)) h4
  · obtain ⟨⟨h1, h2, h3⟩, h4⟩ := h
    obtain ⟨x, ws, rfl, hx, rx⟩ := r1.lstE
    have := r2.int; subst this
    refine .inr (.inr (.inr ⟨x, _, ws, rfl, rfl, hx, by omega, by omega, by rw [rx.length, line_eq]; exact h3, fun p hp => ?_⟩))
    exact k _ _ _ (same_upd hp) (.newL dm hp (rx.rep _)) h4
  · exact h.elim
/-! ### comparisons -/
def fCmp (pi : Int → Int → Bool) (ps : List Nat → List Nat → Bool) : F2 := fun x y q => match x, y with
  | .int i, .int j => q (.bl (pi i j))
  | .str a, .str c => q (.bl (ps a c))
  | _, _ => False
theorem rs_cmp {pi : Int → Int → Bool} {ps : List Nat → List Nat → Bool} : RSim K (rOr (rI0 fun i j => .bl (pi i j)) (fun x y H Q => ∃ i j, x = .str i ∧ y = .str j ∧ Q (.bl (ps i.cps.toList j.cps.toList)) H)) (fCmp pi ps) := by
  intro G H v1 v2 d1 d2 S1 S2 Q q dm r1 r2 h k
  unfold fCmp at h
  split at h
  · have := r1.int; have := r2.int; subst_vars
    exact .inl ⟨_, _, rfl, rfl, k _ _ H (Same.refl _) .bl1 h⟩
  · obtain ⟨rfl, e1⟩ := r1.str
    obtain ⟨rfl, e2⟩ := r2.str
    refine .inr ⟨_, _, rfl, rfl, ?_⟩
    simp only [List.toList_toArray]
    exact k _ _ H (Same.refl _) .bl1 h
  · exact h.elim
def fLt : F2 := fCmp (fun i j => decide (i < j)) (fun a c => decide (a < c))
def fLe : F2 := fCmp (fun i j => decide (i ≤ j)) (fun a c => !decide (c < a))
def fGt : F2 := fCmp (fun i j => decide (j < i)) (fun a c => decide (c < a))
def fGe : F2 := fCmp (fun i j => decide (j ≤ i)) (fun a c => !decide (a < c))
abbrev rCmpS (p : List Nat → List Nat → Bool) : R2 := fun x y H Q => ∃ i j, x = .str i ∧ y = .str j ∧ Q (.bl (p i.cps.toList j.cps.toList)) H
abbrev rLt : R2 := rOr (rI0 fun i j => .bl (decide (i < j))) (rCmpS fun a c => decide (a < c))
abbrev rLe : R2 := rOr (rI0 fun i j => .bl (decide (i ≤ j))) (rCmpS fun a c => !decide (c < a))
abbrev rGt : R2 := rOr (rI0 fun i j => .bl (decide (j < i))) (rCmpS fun a c => decide (c < a))
abbrev rGe : R2 := rOr (rI0 fun i j => .bl (decide (j ≤ i))) (rCmpS fun a c => !decide (a < c))
theorem op_ltA {X : Cx} : OpR X (compareOp .Lt) rLt := opR_or op_lt op_lt_str
theorem op_leA {X : Cx} : OpR X (compareOp .LtE) rLe := opR_or op_le op_le_str
theorem op_gtA {X : Cx} : OpR X (compareOp .Gt) rGt := opR_or op_gt op_gt_str
theorem op_geA {X : Cx} : OpR X (compareOp .GtE) rGe := opR_or op_ge op_ge_str
theorem rs_lt : RSim K rLt fLt := rs_cmp
theorem rs_le : RSim K rLe fLe := rs_cmp
theorem rs_gt : RSim K rGt fGt := rs_cmp
theorem rs_ge : RSim K rGe fGe := rs_cmp
/-- == of scalars -/
def feq : D → D → Option Bool
  | .int i, .int j => some (decide (i = j))
  | .str a, .str c => some (decide (a = c))
  | .bl a, .bl c => some (decide (a = c))
  | .non, .non => some true
  | .non, .int _ => some false | .int _, .non => some false | .non, .bl _ => some false | .bl _, .non => some false | .non, .str _ => some false | .str _, .non => some false
  | .int _, .str _ => some false | .str _, .int _ => some false | .bl _, .str _ => some false | .str _, .bl _ => some false
  | _, _ => none
def fEq : F2 := fun x y q => match feq x y with
  | some c => q (.bl c)
  | none => False
def fNe : F2 := fun x y q => match feq x y with
  | some c => q (.bl (!c))
  | none => False
theorem atom_of {G : Addr → Prop} {H : Hp} {v : V} {d : D} {S} (r : R K G H [v] [d] S) (h : d = .non ∨ (∃ i, d = .int i) ∨ (∃ i, d = .bl i) ∨ ∃ i, d = .str i) : Atom v d := by
  rcases h with rfl | ⟨i, rfl⟩ | ⟨i, rfl⟩ | ⟨i, rfl⟩ <;> (cases r with | «at» h _ => exact h)
theorem feq_ok {x y : D} {c : Bool} (h : feq x y = some c) : (x = .non ∨ (∃ i, x = .int i) ∨ (∃ i, x = .bl i) ∨ ∃ i, x = .str i) ∧ (y = .non ∨ (∃ i, y = .int i) ∨ (∃ i, y = .bl i) ∨ ∃ i, y = .str i) := by
  unfold feq at h
  split at h <;> first | (cases h; done) | simp
theorem feq_val {x y : D} {v w : V} {c : Bool} (a1 : Atom v x) (a2 : Atom w y) (h : feq x y = some c) : scal v w = true ∧ decide (v = w) = c := by
  cases a1 <;> cases a2 <;> simp [feq] at h <;> subst h <;> first | (refine ⟨rfl, ?_⟩; simp; done) | (refine ⟨rfl, ?_⟩; rw [decide_eq_decide]; simp)
theorem rs_eq : RSim K rEq fEq := by
  intro G H v1 v2 d1 d2 S1 S2 Q q dm r1 r2 h k
  unfold fEq at h
  split at h
  · rename_i c e
    obtain ⟨e1, e2⟩ := feq_ok e
    obtain ⟨z1, z2⟩ := feq_val (atom_of r1 e1) (atom_of r2 e2) e
    refine ⟨z1, ?_⟩
    rw [z2]
    exact k _ _ H (Same.refl _) .bl1 h
  · exact h.elim
theorem rs_ne : RSim K rNe fNe := by
  intro G H v1 v2 d1 d2 S1 S2 Q q dm r1 r2 h k
  unfold fNe at h
  split at h
  · rename_i c e
    obtain ⟨e1, e2⟩ := feq_ok e
    obtain ⟨z1, z2⟩ := feq_val (atom_of r1 e1) (atom_of r2 e2) e
    refine ⟨z1, ?_⟩
    rw [z2]
    exact k _ _ H (Same.refl _) .bl1 h
  · exact h.elim
/-- is None -/
def isN : D → Bool
  | .non => true
  | _ => false
theorem R.isN {G : Addr → Prop} {H : Hp} {v : V} {d : D} {S} (r : R K G H [v] [d] S) (hc : ∀ w, d ≠ .cv w) : decide (v = .non) = isN d := by
  cases r with
  | «at» h _ => cases h <;> first | rfl | exact absurd rfl (hc _)
  | _ => rfl
def notCv : D → Bool
  | .cv _ => false
  | _ => true
def fIs (neg : Bool) : F2 := fun x y q => match y with
  | .non => (match notCv x with
    | true => q (.bl (if neg then !isN x else isN x))
    | false => False)
  | _ => False
theorem rs_isN : RSim K (fun x y H Q => y = .non ∧ Q (.bl (decide (x = .non))) H) (fIs false) := by
  intro G H v1 v2 d1 d2 S1 S2 Q q dm r1 r2 h k
  unfold fIs at h
  split at h
  · split at h
    · rename_i hc
      have := r2.non; subst this
      refine ⟨rfl, ?_⟩
      rw [r1.isN (fun w e => by rw [e] at hc; cases hc)]
      exact k _ _ H (Same.refl _) .bl1 h
    · exact h.elim
  · exact h.elim
theorem rs_notN : RSim K (fun x y H Q => y = .non ∧ Q (.bl (!decide (x = .non))) H) (fIs true) := by
  intro G H v1 v2 d1 d2 S1 S2 Q q dm r1 r2 h k
  unfold fIs at h
  split at h
  · split at h
    · rename_i hc
      have := r2.non; subst this
      refine ⟨rfl, ?_⟩
      rw [r1.isN (fun w e => by rw [e] at hc; cases hc)]
      exact k _ _ H (Same.refl _) .bl1 h
    · exact h.elim
  · exact h.elim
/-! ### subscripts, slices -/
def fIx : F2 := fun x y q => match x, y with
  | .lst ds, .int i => ∃ d, atI ds i = some d ∧ q d
  | .rol ds, .int i => ∃ d, atI ds i = some d ∧ q d
  | .tup ds, .int i => ∃ d, atI ds i = some d ∧ q d
  | .mls ds, .int i => ∃ d, atI ds i = some d ∧ d.fz = true ∧ q d
  | .str a, .int i => ∃ c, atI a i = some c ∧ q (.str [c])
  | _, _ => False
theorem atI_get {α : Type} {xs : List α} {i : Int} {d : α} (h : atI xs i = some d) : ∃ j, ixN xs.length i = some j ∧ xs[j]? = some d := by
  unfold atI at h
  cases e : ixN xs.length i with
  | none => rw [e] at h; cases h
  | some j => rw [e] at h; exact ⟨j, rfl, h⟩
theorem atI_mk {α β : Type} {xs : List α} {ys : List β} {i : Int} {j : Nat} {y : β} (h : ixN xs.length i = some j) (hl : ys.length = xs.length) (hy : ys[j]? = some y) : atI ys i = some y := by
  unfold atI
  rw [hl, h]
  exact hy
theorem one_le_line : ([0] : List Nat).length ≤ sizeLine := by rw [line_eq]; decide
theorem rs_ix : RSim K (rIx K) fIx := by
  intro G H v1 v2 d1 d2 S1 S2 Q q dm r1 r2 h k
  have aux : ∀ {ds : List D} {i : Int} {d : D}, sq d1 = some ds → v2 = .int i → atI ds i = some d → d.fz = true → q d → rIx K v1 v2 H Q := fun {ds i d} e e2 ha hf hq => by
    subst e2
    obtain ⟨a, ws, S3, rfl, hs, rr, _⟩ := r1.sqE e
    obtain ⟨j, hj, hd⟩ := atI_get ha
    obtain ⟨v, S4, hv, rv, _⟩ := rr.get hd
    have e4 := rv.fz0 hf
    subst e4
    have hv' := atI_mk hj rr.length hv
    rcases hs with hs | hs
    · exact .inl ⟨a, ws, i, v, rfl, rfl, hs, hv', k _ _ H (Same.refl _) rv hq⟩
    · exact .inr (.inl ⟨a, ws, i, v, rfl, rfl, hs, hv', k _ _ H (Same.refl _) rv hq⟩)
  have aux0 : ∀ {ds : List D} {i : Int} {d : D}, sq d1 = some ds → (∀ es, d1 ≠ .mls es) → v2 = .int i → atI ds i = some d → q d → rIx K v1 v2 H Q := fun {ds i d} e en e2 ha hq => by
    have hf : d.fz = true := by
      obtain ⟨j, hj, hd⟩ := atI_get ha
      have r0 : ∃ ws, R K G H ws ds [] := by
        cases d1 with
        | tup es => cases e; obtain ⟨_, _, _, _, z⟩ := r1.tupE; exact ⟨_, z⟩
        | lst es => cases e; obtain ⟨_, _, _, _, z⟩ := r1.lstE; exact ⟨_, z⟩
        | rol es =>
          cases e
          cases r1 with
          | «at» h _ => cases h
          | rol _ z _ => exact ⟨_, z⟩
        | mls es => exact absurd rfl (en _)
        | _ => cases e
      obtain ⟨ws, r0⟩ := r0
      obtain ⟨v, _, z⟩ := r0.get0 hd
      exact z.fz
    exact aux e e2 ha hf hq
  unfold fIx at h
  split at h
  · obtain ⟨d, ha, hq⟩ := h
    exact aux0 rfl (fun _ z => nomatch z) r2.int ha hq
  · obtain ⟨d, ha, hq⟩ := h
    exact aux0 rfl (fun _ z => nomatch z) r2.int ha hq
  · obtain ⟨d, ha, hq⟩ := h
    exact aux0 rfl (fun _ z => nomatch z) r2.int ha hq
  · obtain ⟨d, ha, hf, hq⟩ := h
    exact aux rfl r2.int ha hf hq
  · obtain ⟨c, ha, hq⟩ := h
    obtain ⟨rfl, e1⟩ := r1.str
    have := r2.int; subst this
    refine .inr (.inr ⟨_, _, c, rfl, rfl, by rw [str_len]; exact e1, by simpa using ha, ?_⟩)
    exact k _ _ H (Same.refl _) (.str1 (x := [c]) (by rw [line_eq]; exact (by decide : (1 : Nat) ≤ 16777216))) hq
  · exact h.elim
def cutD {α : Type} (xs : List α) (lo hi : Option Int) : List α := (xs.drop (HT.sIx xs.length 0 lo)).take (HT.sIx xs.length xs.length hi - HT.sIx xs.length 0 lo)
theorem R.drop {G : Addr → Prop} {H : Hp} : ∀ {ws : List V} {es : List D}, R K G H ws es [] → ∀ n, R K G H (ws.drop n) (es.drop n) []
  | ws, es, r, 0 => r
  | [], [], _, n + 1 => .nil
  | [], _ :: _, r, n + 1 => by cases r
  | _ :: _, [], r, n + 1 => by cases r
  | w :: ws, e :: es, r, n + 1 => by
    obtain ⟨S1, S2, z, r1, r2⟩ := r.uncons
    have := (List.append_eq_nil_iff.mp z.symm).2
    subst this
    exact R.drop r2 n
theorem R.take {G : Addr → Prop} {H : Hp} : ∀ {ws : List V} {es : List D}, R K G H ws es [] → ∀ n, R K G H (ws.take n) (es.take n) []
  | ws, es, r, 0 => .nil
  | [], [], _, n + 1 => .nil
  | [], _ :: _, r, n + 1 => by cases r
  | _ :: _, [], r, n + 1 => by cases r
  | w :: ws, e :: es, r, n + 1 => by
    obtain ⟨S1, S2, z, r1, r2⟩ := r.uncons
    obtain ⟨z1, z2⟩ := List.append_eq_nil_iff.mp z.symm
    subst z1 z2
    exact r1.cons0 (R.take r2 n)
theorem R.cutV {G : Addr → Prop} {H : Hp} {ws : List V} {es : List D} (r : R K G H ws es []) (lo hi : Option Int) : R K G H (cutV ws lo hi) (cutD es lo hi) [] := by
  unfold L2.cutV cutD
  rw [r.length]
  exact (r.drop _).take _
theorem cutD_len {α : Type} (xs : List α) (lo hi : Option Int) : (cutD xs lo hi).length ≤ xs.length := by
  unfold cutD
  rw [List.length_take, List.length_drop]
  omega
theorem cutV_whole {ws : List V} {lo hi : Option Int} (h : HT.sIx ws.length 0 lo = 0 ∧ HT.sIx ws.length ws.length hi = ws.length) : cutV ws lo hi = ws := by
  unfold L2.cutV
  rw [h.1, h.2]
  simp
theorem cutD_whole {α : Type} {ws : List α} {lo hi : Option Int} (h : HT.sIx ws.length 0 lo = 0 ∧ HT.sIx ws.length ws.length hi = ws.length) : cutD ws lo hi = ws := by
  unfold cutD
  rw [h.1, h.2]
  simp
abbrev R3 := V → Option Int → Option Int → Hp → VK → Prop
abbrev F3 := D → Option Int → Option Int → (D → Prop) → Prop
theorem slR_or {X : Cx} {r1 r2 : R3} (h1 : SlR X r1) (h2 : SlR X r2) : SlR X (fun x l u H Q => r1 x l u H Q ∨ r2 x l u H Q) := by
  intro pins s σ H x v vl vu lo hi sl Q I rx hs pl pu h
  rcases h with h | h
  · exact h1 pins s σ H x v vl vu lo hi sl Q I rx hs pl pu h
  · exact h2 pins s σ H x v vl vu lo hi sl Q I rx hs pl pu h
abbrev rSlAny (K : Frg) : R3 := fun x l u H Q => rSlS x l u H Q ∨ (fun x l u H Q => rSlL K x l u H Q ∨ rSlA K x l u H Q) x l u H Q
theorem sl_any {X : Cx} : SlR X (rSlAny X.K) := slR_or sl_str (slR_or sl_list sl_tupA)
def fSl : F3 := fun x lo hi q => match x with
  | .str a => q (.str (cutD a lo hi))
  | .lst ds => q (.lst (cutD ds lo hi))
  | .rol ds => q (.lst (cutD ds lo hi))
  | .mls ds => fzs ds = true ∧ q (.lst (cutD ds lo hi))
  | .tup ds => q (.tup (cutD ds lo hi))
  | _ => False
theorem rs_sl {G : Addr → Prop} {H : Hp} {v : V} {d : D} {S} {lo hi : Option Int} {Q : VK} {q : D → Prop} (dm : Dom G H) (r : R K G H [v] [d] S) (h : fSl d lo hi q) (k : RK K G H Q q) : rSlAny K v lo hi H Q := by
  have aux : ∀ {a : Addr} {ws : List V} {ds : List D}, v = .ref a → SqL K H a ws → R K G H ws ds [] → q (.lst (cutD ds lo hi)) → rSlAny K v lo hi H Q := fun {a ws ds} e hs rr hq => by
    subst e
    exact .inr (.inl ⟨a, ws, rfl, hs, fun p hp => k _ _ _ (same_upd hp) (.newL dm hp (rr.cutV lo hi)) hq⟩)
  unfold fSl at h
  split at h
  · rename_i a
    obtain ⟨rfl, e⟩ := r.str
    refine .inl ⟨_, rfl, by rw [str_len]; exact e, ?_⟩
    have e2 : cutS ⟨a.toArray⟩ lo hi = ⟨(cutD a lo hi).toArray⟩ := by
      unfold cutS cutD
      simp only [str_len, List.toList_toArray]
    rw [e2]
    exact k _ _ H (Same.refl _) (.str1 (Nat.le_trans (cutD_len _ _ _) e)) h
  · obtain ⟨a, ws, e, hs, rr⟩ := r.lstE
    exact aux e (.inl (.inl hs)) rr h
  · obtain ⟨a, ws, S1, e, hs, rr, _⟩ := r.sqE (ds := ‹List D›) rfl
    cases r with
    | «at» z _ => cases z
    | rol z rr _ =>
      refine aux rfl ?_ rr h
      rcases z with z | z
      · exact z _
      · exact .inl (.inr z)
  · obtain ⟨h1, h2⟩ := h
    obtain ⟨a, ws, S1, e, hs, rr⟩ := r.mlsE
    have := rr.fzs0 h1
    subst this
    exact aux e (.inl (.inl hs)) rr h2
  · obtain ⟨a, ws, rfl, hs, rr⟩ := r.tupE
    refine .inr (.inr ⟨a, ws, rfl, hs, fun e => ?_, fun e p hp => k _ _ _ (same_upd hp) (.newT hp (rr.cutV lo hi)) h⟩)
    rw [rr.length] at e
    rw [cutD_whole e] at h
    exact k _ _ H (Same.refl _) (.tup hs rr .nil) h
  · exact h.elim
/-- a slice's parts -/
abbrev MOTy := Env → (Option Int → Env → Prop) → EK → Prop
def KO (K : Frg) (B : Bg) (b : Bool) (F : List Addr) (σ : L2.St) (ρ : Env) (H : Hp) (Q : Option Int → Hp → Prop) (q : Option Int → Env → Prop) : Prop :=
  ∀ c ρ' F' H', Sta K B F' σ ρ' H' → Aft b F H ρ F' H' ρ' → q c ρ' → Q c H'
def SimO (K : Frg) (W : WX) (b : Bool) (to : TO) (t : MOTy) : Prop := ∀ B F σ ρ H Q q x, Sta K B F σ ρ H → t ρ q x → KO K B b F σ ρ H Q q → KX K B W F σ H x → to σ H Q
def mNo : MOTy := fun ρ q _ => q none ρ
def mPart (ma : METy) : MOTy := fun ρ q x => ma ρ (fun d ρ1 => match d with
  | .int i => q (some i) ρ1
  | _ => False) x
theorem sim_no : SimO K W true tNoPart mNo := fun B F σ ρ H Q q x s h k _ => k none ρ F H s .refl h
theorem sim_part (ha : Sim K W vw1 b1 ta ma) : SimO K W b1 (tPart ta) (mPart ma) := by
  intro B F σ ρ H Q q x s h k e
  refine ha B F σ ρ H _ _ x s h (fun v1 d1 ρ1 F1 H1 S1 s1 r1 m1 z1 a1 h1 => ?_) e
  split at h1
  · have := r1.int; subst this
    exact ⟨_, rfl, k _ ρ1 F1 H1 s1 a1 h1⟩
  · exact h1.elim
def mSl (ma : METy) (ml mh : MOTy) : METy := fun ρ q x => ma ρ (fun d ρ1 => ml ρ1 (fun lo ρ2 => mh ρ2 (fun hi ρ3 => fSl d lo hi (fun r => q r ρ3)) x) x) x
theorem sim_sl {tl th : TO} {ml mh : MOTy} {b3 : Bool} (ha : Sim K W vw1 b1 ta ma) (hl : SimO K W b2 tl ml) (hh : SimO K W b3 th mh) (hv : (!vw1 || (b2 && b3)) = true := by rfl) : Sim K W false (b1 && (b2 && b3)) (tSl (rSlAny K) ta tl th) (mSl ma ml mh) := by
  intro B F σ ρ H Q q x s h k e
  refine ha B F σ ρ H _ _ x s h (fun v1 d1 ρ1 F1 H1 S1 s1 r1 m1 z1 a1 h1 => ?_) e
  refine hl B F1 σ ρ1 H1 _ _ x s1 h1 (fun lo ρ2 F2 H2 s2 a2 h2 => ?_) (e.aft a1.stp)
  refine hh B F2 σ ρ2 H2 _ _ x s2 h2 (fun hi ρ3 F3 H3 s3 a3 h3 => ?_) (e.aft (a1.trans a2).stp)
  have hs : S1 = [] ∨ (b2 && b3) = true := by
    cases vw1 with
    | false => exact .inl (z1 rfl)
    | true => exact .inr (by simpa using hv)
  refine rs_sl s3.dom (r1.aftV s1 (a2.trans a3) hs) h3 fun v d H' sm r p => ?_
  exact k v d ρ3 F3 H' [] (s3.ext sm) r (by simp) (fun _ => rfl) ((a1.trans (a2.trans a3)).ext sm) p
end
end Mi
end

-- text MC
section
set_option Elab.async false
set_option linter.all false
set_option maxRecDepth 100000
set_option maxHeartbeats 4000000
/-! MC: tests, argument lists, calls, displays. -/
namespace Mi
open PySem PySem.Spec PyProof.Rows L2
section
variable {K : Frg} {W : WX} {vw vw1 vw2 b b1 b2 b3 : Bool} {te ta tb : TE} {t ma mb : METy} {tt tu : TT} {mt mu : MTTy}

/-! ### tests -/
def mB (ma : METy) : MTTy := fun ρ q x => ma ρ (fun d ρ1 => match d with
  | .bl c => q c ρ1
  | _ => False) x
theorem simt_B (ha : Sim K W vw1 b1 ta ma) : SimT K W b1 (tB ta) (mB ma) := by
  intro B F σ ρ H Q q x s h k e
  refine ha B F σ ρ H _ _ x s h (fun v1 d1 ρ1 F1 H1 S1 s1 r1 m1 z1 a1 h1 => ?_) e
  split at h1
  · have := r1.bl; subst this
    exact ⟨_, rfl, k _ ρ1 F1 H1 s1 a1 h1⟩
  · exact h1.elim
theorem simt_test (ha : Sim K W vw1 b1 ta ma) : SimT K W b1 (tTest ta) (mB ma) := simt_B ha
def mAnd (m n : MTTy) : MTTy := fun ρ q x => m ρ (fun c ρ1 => (c = true → n ρ1 q x) ∧ (c = false → q false ρ1)) x
def mOr (m n : MTTy) : MTTy := fun ρ q x => m ρ (fun c ρ1 => (c = true → q true ρ1) ∧ (c = false → n ρ1 q x)) x
def mNot (m : MTTy) : MTTy := fun ρ q x => m ρ (fun c ρ1 => q (!c) ρ1) x
theorem aft_bool {F F1 : List Addr} {H H1 : Hp} {ρ ρ1 : Env} (a : Aft b1 F H ρ F1 H1 ρ1) : Aft (b1 && b2) F H ρ F1 H1 ρ1 := a.weak fun e => by
  rw [Bool.and_eq_true] at e
  exact e.1
theorem simt_and (h1 : SimT K W b1 tt mt) (h2 : SimT K W b2 tu mu) : SimT K W (b1 && b2) (tAnd tt tu) (mAnd mt mu) := by
  intro B F σ ρ H Q q x s h k e
  refine h1 B F σ ρ H _ _ x s h (fun c ρ1 F1 H1 s1 a1 p1 => ?_) e
  cases c with
  | true => exact h2 B F1 σ ρ1 H1 _ _ x s1 (p1.1 rfl) (fun c ρ2 F2 H2 s2 a2 p2 => k c ρ2 F2 H2 s2 (a1.trans a2) p2) (e.aft a1.stp)
  | false => exact k false ρ1 F1 H1 s1 (aft_bool a1) (p1.2 rfl)
theorem simt_or (h1 : SimT K W b1 tt mt) (h2 : SimT K W b2 tu mu) : SimT K W (b1 && b2) (tOr tt tu) (mOr mt mu) := by
  intro B F σ ρ H Q q x s h k e
  refine h1 B F σ ρ H _ _ x s h (fun c ρ1 F1 H1 s1 a1 p1 => ?_) e
  cases c with
  | false => exact h2 B F1 σ ρ1 H1 _ _ x s1 (p1.2 rfl) (fun c ρ2 F2 H2 s2 a2 p2 => k c ρ2 F2 H2 s2 (a1.trans a2) p2) (e.aft a1.stp)
  | true => exact k true ρ1 F1 H1 s1 (aft_bool a1) (p1.1 rfl)
theorem simt_not (h1 : SimT K W b1 tt mt) : SimT K W b1 (tNot tt) (mNot mt) := by
  intro B F σ ρ H Q q x s h k e
  exact h1 B F σ ρ H _ _ x s h (fun c ρ1 F1 H1 s1 a1 p1 => k (!c) ρ1 F1 H1 s1 a1 p1) e
/-- and, or, not as values -/
def mAndV (ma mb : METy) : METy := fun ρ q x => ma ρ (fun d ρ1 => match d with
  | .bl c => (c = true → mb ρ1 q x) ∧ (c = false → q (.bl false) ρ1)
  | _ => False) x
def mOrV (ma mb : METy) : METy := fun ρ q x => ma ρ (fun d ρ1 => match d with
  | .bl c => (c = true → q (.bl true) ρ1) ∧ (c = false → mb ρ1 q x)
  | _ => False) x
def mNotV (ma : METy) : METy := fun ρ q x => ma ρ (fun d ρ1 => match d with
  | .bl c => q (.bl (!c)) ρ1
  | _ => False) x
theorem sim_andV (h1 : Sim K W vw1 b1 ta ma) (h2 : Sim K W false b2 tb mb) : Sim K W false (b1 && b2) (tAndV ta tb) (mAndV ma mb) := by
  intro B F σ ρ H Q q x s h k e
  refine h1 B F σ ρ H _ _ x s h (fun v1 d1 ρ1 F1 H1 S1 s1 r1 m1 z1 a1 p1 => ?_) e
  split at p1
  · have := r1.bl; subst this
    rename_i c
    refine ⟨c, rfl, ?_⟩
    cases c with
    | true =>
      rw [if_pos rfl]
      exact h2 B F1 σ ρ1 H1 _ _ x s1 (p1.1 rfl) (fun v2 d2 ρ2 F2 H2 S2 s2 r2 m2 z2 a2 p2 => k v2 d2 ρ2 F2 H2 S2 s2 r2 m2 z2 (a1.trans a2) p2) (e.aft a1.stp)
    | false =>
      rw [if_neg (by decide)]
      exact k _ _ ρ1 F1 H1 [] s1 .bl1 (by simp) (fun _ => rfl) (aft_bool a1) (p1.2 rfl)
  · exact p1.elim
theorem sim_orV (h1 : Sim K W vw1 b1 ta ma) (h2 : Sim K W false b2 tb mb) : Sim K W false (b1 && b2) (tOrV ta tb) (mOrV ma mb) := by
  intro B F σ ρ H Q q x s h k e
  refine h1 B F σ ρ H _ _ x s h (fun v1 d1 ρ1 F1 H1 S1 s1 r1 m1 z1 a1 p1 => ?_) e
  split at p1
  · have := r1.bl; subst this
    rename_i c
    refine ⟨c, rfl, ?_⟩
    cases c with
    | false =>
      rw [if_neg (by decide)]
      exact h2 B F1 σ ρ1 H1 _ _ x s1 (p1.2 rfl) (fun v2 d2 ρ2 F2 H2 S2 s2 r2 m2 z2 a2 p2 => k v2 d2 ρ2 F2 H2 S2 s2 r2 m2 z2 (a1.trans a2) p2) (e.aft a1.stp)
    | true =>
      rw [if_pos rfl]
      exact k _ _ ρ1 F1 H1 [] s1 .bl1 (by simp) (fun _ => rfl) (aft_bool a1) (p1.1 rfl)
  · exact p1.elim
theorem sim_notV (h1 : Sim K W vw1 b1 ta ma) : Sim K W false b1 (tNotV ta) (mNotV ma) := by
  intro B F σ ρ H Q q x s h k e
  refine h1 B F σ ρ H _ _ x s h (fun v1 d1 ρ1 F1 H1 S1 s1 r1 m1 z1 a1 p1 => ?_) e
  split at p1
  · have := r1.bl; subst this
    exact ⟨_, rfl, k _ _ ρ1 F1 H1 [] s1 .bl1 (by simp) (fun _ => rfl) a1 p1⟩
  · exact p1.elim
/-- a if t else b -/
def mIfE (m : MTTy) (ma mb : METy) : METy := fun ρ q x => m ρ (fun c ρ1 => (c = true → ma ρ1 q x) ∧ (c = false → mb ρ1 q x)) x
theorem sim_ifE (h1 : SimT K W b1 tt mt) (h2 : Sim K W false b2 ta ma) (h3 : Sim K W false b3 tb mb) : Sim K W false (b1 && (b2 && b3)) (tIf tt ta tb) (mIfE mt ma mb) := by
  intro B F σ ρ H Q q x s h k e
  refine h1 B F σ ρ H _ _ x s h (fun c ρ1 F1 H1 s1 a1 p1 => ?_) e
  cases c with
  | true =>
    show ta σ H1 Q
    refine h2 B F1 σ ρ1 H1 _ _ x s1 (p1.1 rfl) (fun v2 d2 ρ2 F2 H2 S2 s2 r2 m2 z2 a2 p2 => k v2 d2 ρ2 F2 H2 S2 s2 r2 m2 z2 (a1.trans (a2.weak fun e => ?_)) p2) (e.aft a1.stp)
    rw [Bool.and_eq_true] at e
    exact e.1
  | false =>
    show tb σ H1 Q
    refine h3 B F1 σ ρ1 H1 _ _ x s1 (p1.2 rfl) (fun v2 d2 ρ2 F2 H2 S2 s2 r2 m2 z2 a2 p2 => k v2 d2 ρ2 F2 H2 S2 s2 r2 m2 z2 (a1.trans (a2.weak fun e => ?_)) p2) (e.aft a1.stp)
    rw [Bool.and_eq_true] at e
    exact e.2
/-- a < b < c -/
def mChain (f g : F2) (ma mb mc : METy) : METy := fun ρ q x => ma ρ (fun d1 ρ1 => mb ρ1 (fun d2 ρ2 => f d1 d2 (fun r => match r with
  | .bl c => (c = true → mc ρ2 (fun d3 ρ3 => g d2 d3 (fun d => q d ρ3)) x) ∧ (c = false → q (.bl false) ρ2)
  | _ => False)) x) x

/-! ### argument lists -/
def mNil : MATy := fun ρ q _ => q [] ρ
def mCons (ma : METy) (mr : MATy) : MATy := fun ρ q x => ma ρ (fun d ρ1 => mr ρ1 (fun ds ρ2 => q (d :: ds) ρ2) x) x
theorem sima_nil : SimA K W false true tNil mNil := fun B F σ ρ H Q q x s h k _ => k [] [] ρ F H [] s .nil (by simp) (fun _ => rfl) .refl h
theorem sima_cons {tr : TA} {mr : MATy} (ha : Sim K W vw1 b1 ta ma) (hr : SimA K W vw2 b2 tr mr) (hv : (!vw1 || b2) = true := by rfl) : SimA K W (vw1 || vw2) (b1 && b2) (tCons ta tr) (mCons ma mr) := by
  intro B F σ ρ H Q q x s h k e
  refine ha B F σ ρ H _ _ x s h (fun v1 d1 ρ1 F1 H1 S1 s1 r1 m1 z1 a1 h1 => ?_) e
  refine hr B F1 σ ρ1 H1 _ _ x s1 h1 (fun vs ds ρ2 F2 H2 S2 s2 r2 m2 z2 a2 h2 => ?_) (e.aft a1.stp)
  have hs : S1 = [] ∨ b2 = true := by
    cases vw1 with
    | false => exact .inl (z1 rfl)
    | true => exact .inr (by simpa using hv)
  refine k _ _ ρ2 F2 H2 (S1 ++ S2) s2 ((r1.aftV s1 a2 hs).cons r2) (fun a z => ?_) (fun z => ?_) (a1.trans a2) h2
  · rcases List.mem_append.mp z with z | z
    · rcases hs with hs | hs
      · subst hs; simp at z
      · obtain ⟨e1, _, _⟩ := a2.pure hs
        rw [e1]; exact m1 a z
    · exact m2 a z
  · rw [Bool.or_eq_false_iff] at z
    rw [z1 z.1, z2 z.2]; rfl
/-- a call of a built-in -/
abbrev FL := List D → (D → Prop) → Prop
def CSim (K : Frg) (r : List V → Hp → VK → Prop) (f : FL) : Prop := ∀ G H vs ds S Q q, Dom G H → R K G H vs ds S → f ds q → RK K G H Q q → r vs H Q
def mCB (f : FL) (ma : MATy) : METy := fun ρ q x => ma ρ (fun ds ρ1 => f ds (fun d => q d ρ1)) x
theorem sim_cb {tr : TA} {mr : MATy} {r : List V → Hp → VK → Prop} {f : FL} (hr : CSim K r f) (ha : SimA K W vw1 b1 tr mr) : Sim K W false b1 (tCB r tr) (mCB f mr) := by
  intro B F σ ρ H Q q x s h k e
  refine ha B F σ ρ H _ _ x s h (fun vs ds ρ1 F1 H1 S1 s1 r1 m1 z1 a1 h1 => ?_) e
  refine hr (Gof F1 B) H1 vs ds S1 Q _ s1.dom r1 h1 fun v d H' sm r p => ?_
  exact k v d ρ1 F1 H' [] (s1.ext sm) r (by simp) (fun _ => rfl) (a1.ext sm) p
theorem callR_or {X : Cx} {f : Value} {r1 r2 : List V → Hp → VK → Prop} (h1 : CallR X f r1) (h2 : CallR X f r2) : CallR X f (fun x H Q => r1 x H Q ∨ r2 x H Q) := by
  intro pins s σ H xs us Q I r h
  rcases h with h | h
  · exact h1 pins s σ H xs us Q I r h
  · exact h2 pins s σ H xs us Q I r h
abbrev rcOr (r1 r2 : List V → Hp → VK → Prop) : List V → Hp → VK → Prop := fun x H Q => r1 x H Q ∨ r2 x H Q
/-- a tuple, a list, written -/
def mTup (n : Nat) (ma : MATy) : METy := fun ρ q x => ma ρ (fun ds ρ1 => match ds.length.ble n with
  | true => q (.tup ds) ρ1
  | false => False) x
def mLst (n : Nat) (ma : MATy) : METy := fun ρ q x => ma ρ (fun ds ρ1 => match ds.length.ble n with
  | true => q (.lst ds) ρ1
  | false => False) x
theorem sim_tup {tr : TA} {mr : MATy} (n : Nat) (ha : SimA K W false b1 tr mr) (hn : n ≤ 1000 := by decide) : Sim K W false b1 (tTup tr) (mTup n mr) := by
  intro B F σ ρ H Q q x s h k e
  refine ha B F σ ρ H _ _ x s h (fun vs ds ρ1 F1 H1 S1 s1 r1 m1 z1 a1 h1 => ?_) e
  have := z1 rfl; subst this
  split at h1
  · rename_i hl
    have := Nat.le_of_ble_eq_true hl
    refine ⟨by rw [r1.length, line_eq]; omega, fun p hp => ?_⟩
    exact k _ _ ρ1 F1 _ [] (s1.ext (same_upd hp)) (.newT hp r1) (by simp) (fun _ => rfl) (a1.ext (same_upd hp)) h1
  · exact h1.elim
theorem sim_lst {tr : TA} {mr : MATy} (n : Nat) (ha : SimA K W false b1 tr mr) (hn : n ≤ 1000 := by decide) : Sim K W false b1 (tLst tr) (mLst n mr) := by
  intro B F σ ρ H Q q x s h k e
  refine ha B F σ ρ H _ _ x s h (fun vs ds ρ1 F1 H1 S1 s1 r1 m1 z1 a1 h1 => ?_) e
  have := z1 rfl; subst this
  split at h1
  · rename_i hl
    have := Nat.le_of_ble_eq_true hl
    refine ⟨by rw [r1.length, line_eq]; omega, fun p hp => ?_⟩
    exact k _ _ ρ1 F1 _ [] (s1.ext (same_upd hp)) (.newL s1.dom hp r1) (by simp) (fun _ => rfl) (a1.ext (same_upd hp)) h1
  · exact h1.elim
theorem len1 {G : Addr → Prop} {H : Hp} {vs : List V} {d : D} {S} (r : R K G H vs [d] S) : ∃ v, vs = [v] := by
  have := r.length
  match vs, this with
  | [v], _ => exact ⟨v, rfl⟩
theorem len2 {G : Addr → Prop} {H : Hp} {vs : List V} {d e : D} {S} (r : R K G H vs [d, e] S) : ∃ v w, vs = [v, w] := by
  have := r.length
  match vs, this with
  | [v, w], _ => exact ⟨v, w, rfl⟩
/-! ### len, int, min, max, abs, tuple, list -/
def fLen : FL := fun ds q => match ds with
  | [.str a] => q (.int a.length)
  | [.tup es] => q (.int es.length)
  | [.lst es] => q (.int es.length)
  | [.rol es] => q (.int es.length)
  | [.mls es] => q (.int es.length)
  | [.mdc es] => q (.int es.length)
  | [.fdc es] => q (.int es.length)
  | _ => False
abbrev rLenA (K : Frg) : List V → Hp → VK → Prop := rcOr (fun xs H Q => ∃ p ys, xs = [.ref p] ∧ (SqL K H p ys ∨ SqT K H p ys) ∧ Q (.int ys.length) H) (rcOr (fun xs H Q => ∃ z, xs = [.str z] ∧ z.length ≤ sizeLine ∧ Q (.int z.length) H) (fun xs H Q => ∃ d kvs, xs = [.ref d] ∧ H d = some (.dK kvs) ∧ Q (.int kvs.length) H))
theorem cs_len : CSim K (rLenA K) fLen := by
  intro G H vs ds S Q q dm r h k
  have sqc : ∀ {d : D} {es : List D}, ds = [d] → sq d = some es → q (.int es.length) → rLenA K vs H Q := fun {d es} e hs hq => by
    subst e
    obtain ⟨v, rfl⟩ := len1 r
    obtain ⟨a, ws, S1, rfl, hs, rr, _⟩ := r.sqE hs
    refine .inl ⟨a, ws, rfl, hs, ?_⟩
    rw [rr.length]
    exact k _ _ H (Same.refl _) .int1 hq
  unfold fLen at h
  split at h
  · obtain ⟨v, rfl⟩ := len1 r
    obtain ⟨rfl, e⟩ := r.str
    refine .inr (.inl ⟨_, rfl, by rw [str_len]; exact e, ?_⟩)
    rw [str_len]
    exact k _ _ H (Same.refl _) .int1 h
  · exact sqc rfl rfl h
  · exact sqc rfl rfl h
  · exact sqc rfl rfl h
  · exact sqc rfl rfl h
  · obtain ⟨v, rfl⟩ := len1 r
    cases r with
    | «at» z _ => cases z
    | mdc h1 h2 h3 _ =>
      refine .inr (.inr ⟨_, _, rfl, h1, ?_⟩)
      rw [show ∀ (x : List (Key × V)) (y : List (Key × D)), x.map (·.1) = y.map (·.1) → x.length = y.length from fun x y e => by simpa using congrArg List.length e] <;> first | exact h2 | exact k _ _ H (Same.refl _) .int1 h
  · obtain ⟨v, rfl⟩ := len1 r
    cases r with
    | «at» z _ => cases z
    | fdc _ h1 h2 h3 _ =>
      refine .inr (.inr ⟨_, _, rfl, h1, ?_⟩)
      rw [show ∀ (x : List (Key × V)) (y : List (Key × D)), x.map (·.1) = y.map (·.1) → x.length = y.length from fun x y e => by simpa using congrArg List.length e] <;> first | exact h2 | exact k _ _ H (Same.refl _) .int1 h
  · exact h.elim
theorem call_lenA {X : Cx} : CallR X (.builtin "len") (rLenA X.K) := callR_or call_len_seq (callR_or call_len_str call_lenD)
def fInt : FL := fun ds q => match ds with
  | [.int i] => q (.int i)
  | [.bl c] => q (.int (if c then 1 else 0))
  | _ => False
theorem cs_int : CSim K (fun xs H Q => (∃ i, xs = [.int i] ∧ Q (.int i) H) ∨ ∃ k, xs = [.bl k] ∧ Q (.int (if k then 1 else 0)) H) fInt := by
  intro G H vs ds S Q q dm r h k
  unfold fInt at h
  split at h
  · obtain ⟨v, rfl⟩ := len1 r
    have := r.int; subst this
    exact .inl ⟨_, rfl, k _ _ H (Same.refl _) .int1 h⟩
  · obtain ⟨v, rfl⟩ := len1 r
    have := r.bl; subst this
    exact .inr ⟨_, rfl, k _ _ H (Same.refl _) .int1 h⟩
  · exact h.elim
def fI1 (g : Int → Int) : FL := fun ds q => match ds with
  | [.int i] => q (.int (g i))
  | _ => False
theorem cs_I1 {g : Int → Int} : CSim K (fun xs H Q => ∃ i, xs = [.int i] ∧ Q (.int (g i)) H) (fI1 g) := by
  intro G H vs ds S Q q dm r h k
  unfold fI1 at h
  split at h
  · obtain ⟨v, rfl⟩ := len1 r
    have := r.int; subst this
    exact ⟨_, rfl, k _ _ H (Same.refl _) .int1 h⟩
  · exact h.elim
def fI2 (g : Int → Int → Int) : FL := fun ds q => match ds with
  | [.int i, .int j] => q (.int (g i j))
  | _ => False
theorem cs_I2 {g : Int → Int → Int} : CSim K (fun xs H Q => ∃ i j, xs = [.int i, .int j] ∧ Q (.int (g i j)) H) (fI2 g) := by
  intro G H vs ds S Q q dm r h k
  unfold fI2 at h
  split at h
  · obtain ⟨v, w, rfl⟩ := len2 r
    obtain ⟨S1, S2, _, r1, r2⟩ := r.uncons
    have := r1.int; have := r2.int; subst_vars
    exact ⟨_, _, rfl, k _ _ H (Same.refl _) .int1 h⟩
  · exact h.elim
def fMax : FL := fI2 fun i j => if j > i then j else i
def fMin : FL := fI2 fun i j => if j < i then j else i
def fAbs : FL := fI1 fun i => if i < 0 then -i else i
/-- tuple(x), list(x) -/
def fTuple : FL := fun ds q => match ds with
  | [.tup es] => q (.tup es)
  | [.lst es] => q (.tup es)
  | [.rol es] => q (.tup es)
  | [.mls es] => fzs es = true ∧ q (.tup es)
  | _ => False
def fList : FL := fun ds q => match ds with
  | [.tup es] => q (.lst es)
  | [.lst es] => q (.lst es)
  | [.rol es] => q (.lst es)
  | [.mls es] => fzs es = true ∧ q (.lst es)
  | _ => False
theorem R.rolE {G : Addr → Prop} {H : Hp} {v : V} {S : List Addr} {es : List D} (r : R K G H [v] [.rol es] S) : ∃ a ws, v = .ref a ∧ SqL K H a ws ∧ R K G H ws es [] := by
  cases r with
  | «at» h _ => cases h
  | rol z h2 _ =>
    refine ⟨_, _, rfl, ?_, h2⟩
    rcases z with z | z
    · exact z _
    · exact .inl (.inr z)
theorem cs_tuple : CSim K (fun xs H Q => ∃ p ys, xs = [.ref p] ∧ ((SqL K H p ys ∧ ∀ l, H l = none → Q (.ref l) (upd H l (.tup ys))) ∨ (SqT K H p ys ∧ Q (.ref p) H))) fTuple := by
  intro G H vs ds S Q q dm r h k
  unfold fTuple at h
  split at h
  · obtain ⟨v, rfl⟩ := len1 r
    obtain ⟨a, ws, rfl, hs, rr⟩ := r.tupE
    exact ⟨a, ws, rfl, .inr ⟨hs, k _ _ H (Same.refl _) (.tup hs rr .nil) h⟩⟩
  · obtain ⟨v, rfl⟩ := len1 r
    obtain ⟨a, ws, rfl, hs, rr⟩ := r.lstE
    exact ⟨a, ws, rfl, .inl ⟨.inl (.inl hs), fun l hl => k _ _ _ (same_upd hl) (.newT hl rr) h⟩⟩
  · obtain ⟨v, rfl⟩ := len1 r
    obtain ⟨a, ws, rfl, hs, rr⟩ := r.rolE
    exact ⟨a, ws, rfl, .inl ⟨hs, fun l hl => k _ _ _ (same_upd hl) (.newT hl rr) h⟩⟩
  · obtain ⟨v, rfl⟩ := len1 r
    obtain ⟨a, ws, S1, rfl, hs, rr⟩ := r.mlsE
    have := rr.fzs0 h.1; subst this
    exact ⟨a, ws, rfl, .inl ⟨.inl (.inl hs), fun l hl => k _ _ _ (same_upd hl) (.newT hl rr) h.2⟩⟩
  · exact h.elim
theorem cs_list : CSim K (fun xs H Q => ∃ p ys, xs = [.ref p] ∧ (SqL K H p ys ∨ SqT K H p ys) ∧ ∀ l, H l = none → Q (.ref l) (upd H l (.lst ys))) fList := by
  intro G H vs ds S Q q dm r h k
  unfold fList at h
  split at h
  · obtain ⟨v, rfl⟩ := len1 r
    obtain ⟨a, ws, rfl, hs, rr⟩ := r.tupE
    exact ⟨a, ws, rfl, .inr hs, fun l hl => k _ _ _ (same_upd hl) (.newL dm hl rr) h⟩
  · obtain ⟨v, rfl⟩ := len1 r
    obtain ⟨a, ws, rfl, hs, rr⟩ := r.lstE
    exact ⟨a, ws, rfl, .inl (.inl (.inl hs)), fun l hl => k _ _ _ (same_upd hl) (.newL dm hl rr) h⟩
  · obtain ⟨v, rfl⟩ := len1 r
    obtain ⟨a, ws, rfl, hs, rr⟩ := r.rolE
    exact ⟨a, ws, rfl, .inl hs, fun l hl => k _ _ _ (same_upd hl) (.newL dm hl rr) h⟩
  · obtain ⟨v, rfl⟩ := len1 r
    obtain ⟨a, ws, S1, rfl, hs, rr⟩ := r.mlsE
    have := rr.fzs0 h.1; subst this
    exact ⟨a, ws, rfl, .inl (.inl (.inl hs)), fun l hl => k _ _ _ (same_upd hl) (.newL dm hl rr) h.2⟩
  · exact h.elim
/-! ### isinstance -/
def tyD : D → Option String
  | .non => some "NoneType"
  | .bl _ => some "bool"
  | .int _ => some "int"
  | .str _ => some "str"
  | .tup _ => some "tuple"
  | .lst _ => some "list"
  | .rol _ => some "list"
  | .mls _ => some "list"
  | .mdc _ => some "dict"
  | .fdc _ => some "dict"
  | _ => none
inductive Ty where
  | int | str | bool | tup | lst | dic
def Ty.nm : Ty → String
  | .int => "int"
  | .str => "str"
  | .bool => "bool"
  | .tup => "tuple"
  | .lst => "list"
  | .dic => "dict"
/-- isinstance(x, T) -/
def isD : Ty → D → Bool
  | .bool, .bl _ => true
  | .int, .bl _ => true
  | .int, .int _ => true
  | .str, .str _ => true
  | .tup, .tup _ => true
  | .lst, .lst _ => true
  | .lst, .rol _ => true
  | .lst, .mls _ => true
  | .dic, .mdc _ => true
  | .dic, .fdc _ => true
  | _, _ => false
theorem kit_all {T : Ty} {d : D} {t : String} (h : tyD d = some t) : kitB t T.nm = some (isD T d) := by
  cases d <;> simp only [tyD, Option.some.injEq, reduceCtorEq] at h <;> subst h <;> cases T <;> (simp only [isD, Ty.nm]; decide +kernel)
theorem R.tyX {G : Addr → Prop} {H : Hp} {v : V} {d : D} {S : List Addr} {t : String} (r : R K G H [v] [d] S) (h : tyD d = some t) : TyX K H v (.type t) := by
  cases r with
  | «at» z _ =>
    cases z with
    | non => cases h; exact .base .non
    | bl => cases h; exact .base (.bl _)
    | int => cases h; exact .base (.int _)
    | str _ => cases h; exact .base (.str _)
    | cv => cases h
  | tup z _ _ =>
    cases h
    rcases z with (z | ⟨o, z⟩) | ⟨o, its, n, hk, hc, _⟩
    · exact .base (.tup z)
    · exact .fTuple z
    · exact .kTuple hk hc
  | lst _ z _ _ => cases h; exact .base (.lst z)
  | rol z _ _ =>
    cases h
    rcases z with z | ⟨o, z⟩
    · rcases z (fun _ => none) with (z | ⟨o, z⟩) | ⟨o, its, n, hk, hc, _⟩
      · cases z
      · cases z
      · exact .kList hk hc
    · exact .base (.frz z)
  | mls z _ _ => cases h; exact .base (.lst z)
  | fdc _ z _ _ _ => cases h; exact .base (.dK z)
  | mdc z _ _ _ => cases h; exact .base (.dK z)
  | exc _ _ _ _ _ _ => cases h
  | ins _ _ _ _ _ => cases h
def mIsi (T : Ty) (ma : METy) : METy := fun ρ q x => ma ρ (fun d ρ1 => match tyD d with
  | some _ => q (.bl (isD T d)) ρ1
  | none => False) x
theorem sim_isi (T : Ty) (ha : Sim K W vw1 b1 ta ma) : Sim K W false b1 (tCB (rIsi K) (tCons ta (tCons (tC (.ty T.nm)) tNil))) (mIsi T ma) := by
  intro B F σ ρ H Q q x s h k e
  refine ha B F σ ρ H _ _ x s h (fun v1 d1 ρ1 F1 H1 S1 s1 r1 m1 z1 a1 h1 => ?_) e
  split at h1
  · rename_i t ht
    exact ⟨v1, .ty T.nm, _, _, _, rfl, .ty _, r1.tyX ht, kit_ty (kit_all ht), k _ _ ρ1 F1 H1 [] s1 .bl1 (by simp) (fun _ => rfl) a1 h1⟩
  · exact h1.elim
end
end Mi
end

-- text MD
section
set_option Elab.async false
set_option linter.all false
set_option maxRecDepth 100000
set_option maxHeartbeats 4000000
/-! MD: a def's promise over plain data, its call. -/
namespace Mi
open PySem PySem.Spec PyProof.Rows L2

/-- a promise: the arguments, what is wanted of the answer and of the arguments behind it, of an error -/
abbrev FS := List D → (D → List D → Prop) → (Er → List D → Prop) → Prop
inductive RA (K : Frg) (G : Addr → Prop) (H : Hp) : List Bool → List V → List D → List Addr → Prop
  | nil : RA K G H [] [] [] []
  | val {v d ms vs ds S} : R K G H [v] [d] [] → RA K G H ms vs ds S → RA K G H (false :: ms) (v :: vs) (d :: ds) S
  | ref {v d ms vs ds S1 S} : R K G H [v] [d] S1 → RA K G H ms vs ds S → RA K G H (true :: ms) (v :: vs) (d :: ds) (S1 ++ S)
section
variable {K : Frg} {G G' : Addr → Prop} {H H' : Hp} {C : Addr → Prop}
theorem RA.mono (keep : ∀ a o, H a = some o → ¬ C a → H' a = some o) (hC : ∀ a, C a → G a ∧ Mut (H a)) (hG : ∀ a o, H a = some o → ¬ G a → ¬ G' a) :
    ∀ {ms vs ds S}, RA K G H ms vs ds S → (∀ a ∈ S, ¬ C a) → RA K G' H' ms vs ds S := by
  intro ms vs ds S r
  induction r with
  | nil => intro _; exact .nil
  | val h _ ih => intro n; exact .val (h.mono keep hC hG fun _ z => absurd z (by simp)) (ih n)
  | ref h _ ih => intro n; exact .ref (h.mono keep hC hG fun a z => n a (by simp [z])) (ih fun a z => n a (by simp [z]))
theorem RA.mem : ∀ {ms vs ds S}, RA K G H ms vs ds S → ∀ a ∈ S, Mut (H a) := by
  intro ms vs ds S r
  induction r with
  | nil => intro a z; simp at z
  | val _ _ ih => exact ih
  | ref h _ ih =>
    intro a z
    rcases List.mem_append.mp z with z | z
    · exact h.mem a z
    · exact ih a z
theorem RA.len : ∀ {ms vs ds S}, RA K G H ms vs ds S → vs.length = ms.length := by
  intro ms vs ds S r
  induction r <;> simp_all
/-- under another G that says the same of all that stands -/
theorem R.conv {vs ds S} (r : R K G H vs ds S) (hG : ∀ a o, H a = some o → ¬ G a → ¬ G' a) : R K G' H vs ds S :=
  r.mono (C := fun _ => False) (fun _ _ e _ => e) (fun _ z => z.elim) hG fun _ _ z => z
theorem RA.conv {ms vs ds S} (r : RA K G H ms vs ds S) (hG : ∀ a o, H a = some o → ¬ G a → ¬ G' a) : RA K G' H ms vs ds S :=
  r.mono (C := fun _ => False) (fun _ _ e _ => e) (fun _ z => z.elim) hG fun _ _ z => z
theorem E.conv {σ ρ S} (r : E K G H σ ρ S) (hG : ∀ a o, H a = some o → ¬ G a → ¬ G' a) : E K G' H σ ρ S :=
  r.mono (C := fun _ => False) (fun _ _ e _ => e) (fun _ z => z.elim) hG fun _ _ z => z
end
/-- the state of a call's arguments -/
structure Arg (K : Frg) (ms : List Bool) (G0 : Addr → Prop) (F : List Addr) (vs : List V) (ds : List D) (H : Hp) : Prop where
  ra : RA K (Gof F ⟨G0, []⟩) H ms vs ds F
  nd : F.Nodup
  ap : ∀ a ∈ F, ¬ G0 a
  old : ∀ a, G0 a → Mut (H a)
abbrev orS (G0 : Addr → Prop) (S : List Addr) : Addr → Prop := fun a => G0 a ∨ a ∈ S
/-- S: what the answer alone holds and may change -/
def spOf (K : Frg) (ms : List Bool) (f : FS) : Sp := fun vs H Q E => ∃ (G0 : Addr → Prop) (F : List Addr) (ds : List D) (q : D → List D → Prop) (x : Er → List D → Prop), Arg K ms G0 F vs ds H ∧ f ds q x ∧
  (∀ d ds' v S H' F', Arg K ms (orS G0 S) F' vs ds' H' → R K (Gof F' ⟨orS G0 S, []⟩) H' [v] [d] S → S.Nodup → (∀ a ∈ S, H a = none) → Stp F H F' H' → q d ds' → Q v H') ∧
  (∀ er ds' cls dx H' F', Arg K ms G0 F' vs ds' H' → RErr K (Gof F' ⟨G0, []⟩) H' cls dx er → Stp F H F' H' → x er ds' → E cls dx H')
theorem spOf_len {K : Frg} {ms : List Bool} {f : FS} {ps : List Str} (h : ms.length = ps.length) : ∀ vs H Q E, spOf K ms f vs H Q E → vs.length = ps.length := fun vs H Q E ⟨_, _, _, _, _, a, _⟩ => a.ra.len.trans h

/-! ### arguments of a call: data, or a slot's own object -/
inductive AV where
  | val (d : D)
  | ref (i : Nat)
abbrev MCTy := Env → (List AV → Env → Prop) → EK → Prop
inductive RC (K : Frg) (G : Addr → Prop) (H : Hp) (σ : L2.St) : List V → List AV → Prop
  | nil : RC K G H σ [] []
  | val {v d vs as} : R K G H [v] [d] [] → RC K G H σ vs as → RC K G H σ (v :: vs) (.val d :: as)
  | ref {v i vs as} : σ[i]? = some (some v) → RC K G H σ vs as → RC K G H σ (v :: vs) (.ref i :: as)
def KC (K : Frg) (B : Bg) (b : Bool) (F : List Addr) (σ : L2.St) (ρ : Env) (H : Hp) (Q : List V → Hp → Prop) (q : List AV → Env → Prop) : Prop :=
  ∀ vs as ρ' F' H', Sta K B F' σ ρ' H' → RC K (Gof F' B) H' σ vs as → Aft b F H ρ F' H' ρ' → q as ρ' → Q vs H'
def SimC (K : Frg) (W : WX) (b : Bool) (te : TA) (t : MCTy) : Prop := ∀ B F σ ρ H Q q x, Sta K B F σ ρ H → t ρ q x → KC K B b F σ ρ H Q q → KX K B W F σ H x → te σ H Q
def mcNil : MCTy := fun ρ q _ => q [] ρ
def mcVal (ma : METy) (mr : MCTy) : MCTy := fun ρ q x => ma ρ (fun d ρ1 => mr ρ1 (fun as ρ2 => q (.val d :: as) ρ2) x) x
def mcRef (i : Nat) (mr : MCTy) : MCTy := fun ρ q x => match ρ[i]? with
  | some (some _) => mr ρ (fun as ρ2 => q (.ref i :: as) ρ2) x
  | _ => False
section
variable {K : Frg} {W : WX} {vw vw1 vw2 b b1 b2 b3 : Bool} {te ta tb : TE} {t ma mb : METy} {tr : TA} {mr : MCTy}
theorem simc_nil : SimC K W true tNil mcNil := fun B F σ ρ H Q q x s h k _ => k [] [] ρ F H s .nil .refl h
theorem simc_val (ha : Sim K W false b1 ta ma) (hr : SimC K W b2 tr mr) : SimC K W (b1 && b2) (tCons ta tr) (mcVal ma mr) := by
  intro B F σ ρ H Q q x s h k e
  refine ha B F σ ρ H _ _ x s h (fun v1 d1 ρ1 F1 H1 S1 s1 r1 m1 z1 a1 h1 => ?_) e
  have := z1 rfl; subst this
  refine hr B F1 σ ρ1 H1 _ _ x s1 h1 (fun vs as ρ2 F2 H2 s2 r2 a2 h2 => ?_) (e.aft a1.stp)
  exact k _ _ ρ2 F2 H2 s2 (.val (r1.aftV s1 a2 (.inl rfl)) r2) (a1.trans a2) h2
theorem simc_ref {i : Nat} (hr : SimC K W b2 tr mr) : SimC K W b2 (tCons (tVar i) tr) (mcRef i mr) := by
  intro B F σ ρ H Q q x s h k e
  unfold mcRef at h
  split at h
  · rename_i d ed
    obtain ⟨v, S1, h1, _, _⟩ := s.env.get ed
    refine ⟨v, h1, ?_⟩
    exact hr B F σ ρ H _ _ x s h (fun vs as ρ2 F2 H2 s2 r2 a2 h2 => k _ _ ρ2 F2 H2 s2 (.ref h1 r2) a2 h2) e
  · exact h.elim
/-- the arguments taken out of the slots -/
def grab : List Bool → List AV → Env → Option (List D × Env)
  | [], [], ρ => some ([], ρ)
  | false :: ms, .val d :: as, ρ => (match grab ms as ρ with
    | some (ds, ρ') => some (d :: ds, ρ')
    | none => none)
  | true :: ms, .ref i :: as, ρ => (match ρ[i]? with
    | some (some d) => (match grab ms as (ρ.set i none) with
      | some (ds, ρ') => some (d :: ds, ρ')
      | none => none)
    | _ => none)
  | _, _, _ => none
/-- and put back -/
def putB : List AV → List D → Env → Env
  | .ref i :: as, d :: ds, ρ => (putB as ds ρ).set i (some d)
  | .val _ :: as, _ :: ds, ρ => putB as ds ρ
  | _, _, ρ => ρ
theorem grab_put {G : Addr → Prop} {H : Hp} {σ : L2.St} : ∀ (as : List AV) (ms : List Bool) (vs : List V) (ρ : Env) (F : List Addr) (ds : List D) (ρ0 : Env), E K G H σ ρ F → RC K G H σ vs as → grab ms as ρ = some (ds, ρ0) →
    ∃ Sc F1, RA K G H ms vs ds Sc ∧ E K G H σ ρ0 F1 ∧ F.Perm (Sc ++ F1) ∧ (∀ (j : Nat), ρ[j]? = some none → ρ0[j]? = some none ∧ ∀ ds', (putB as ds' ρ0)[j]? = some none) ∧
      ∀ G' H' ds' Sc' F1', E K G' H' σ ρ0 F1' → RA K G' H' ms vs ds' Sc' → ∃ F', E K G' H' σ (putB as ds' ρ0) F' ∧ F'.Perm (Sc' ++ F1') := by
  intro as
  induction as with
  | nil =>
    intro ms vs ρ F ds ρ0 e r g
    cases ms with
    | cons m ms => simp [grab] at g
    | nil =>
      simp only [grab, Option.some.injEq, Prod.mk.injEq] at g
      obtain ⟨rfl, rfl⟩ := g
      cases r
      refine ⟨[], F, .nil, e, List.Perm.refl _, fun j h => ⟨h, fun ds' => ?_⟩, fun G' H' ds' Sc' F1' e' ra => ?_⟩
      · cases ds' <;> exact h
      · cases ra
        exact ⟨F1', e', List.Perm.refl _⟩
  | cons a as ih =>
    intro ms vs ρ F ds ρ0 e r g
    cases r with
    | @val v d vs as r1 r2 =>
      cases ms with
      | nil => simp [grab] at g
      | cons m ms =>
        cases m with
        | true => simp [grab] at g
        | false =>
          simp only [grab] at g
          split at g
          · rename_i ds1 ρ1 g1
            cases g
            obtain ⟨Sc, F1, h1, h2, h3, h4, h5⟩ := ih ms vs ρ F ds1 ρ0 e r2 g1
            refine ⟨Sc, F1, .val r1 h1, h2, h3, fun j hj => ⟨(h4 j hj).1, fun ds' => ?_⟩, fun G' H' ds' Sc' F1' e' ra => ?_⟩
            · cases ds' with
              | nil => exact (h4 j hj).1
              | cons d' ds' => exact (h4 j hj).2 ds'
            · cases ra with
              | val q1 q2 => exact h5 G' H' _ Sc' F1' e' q2
          · cases g
    | @ref v i vs as r1 r2 =>
      cases ms with
      | nil => simp [grab] at g
      | cons m ms =>
        cases m with
        | false => simp [grab] at g
        | true =>
          simp only [grab] at g
          split at g
          · rename_i d ed
            split at g
            · rename_i ds1 ρ1 g1
              cases g
              obtain ⟨v', S1, S2, k1, k2, k3, k4⟩ := e.take ed
              rw [r1] at k1; cases k1
              obtain ⟨Sc, F1, h1, h2, h3, h4, h5⟩ := ih ms vs (ρ.set i none) S2 ds1 ρ0 k3 r2 g1
              have hi : (ρ.set i none)[i]? = some none := by
                have : i < ρ.length := (List.getElem?_eq_some_iff.mp ed).1
                simp [this]
              refine ⟨S1 ++ Sc, F1, .ref k2 h1, h2, ?_, fun j hj => ?_, fun G' H' ds' Sc' F1' e' ra => ?_⟩
              · rw [List.append_assoc]
                exact k4.trans (List.Perm.append_left _ h3)
              · have hne : i ≠ j := by
                  intro z; subst z
                  rw [ed] at hj; cases hj
                have hj' : (ρ.set i none)[j]? = some none := by
                  rw [List.getElem?_set_ne hne]; exact hj
                refine ⟨(h4 j hj').1, fun ds' => ?_⟩
                cases ds' with
                | nil => exact (h4 j hj').1
                | cons d' ds' =>
                  show ((putB as ds' ρ0).set i (some d'))[j]? = _
                  rw [List.getElem?_set_ne hne]
                  exact (h4 j hj').2 ds'
              · cases ra with
                | @ref _ d' _ _ ds' T1 T q1 q2 =>
                  obtain ⟨F', p1, p2⟩ := h5 G' H' ds' T F1' e' q2
                  obtain ⟨F2, p3, p4⟩ := p1.put ((h4 i hi).2 ds') q1
                  have es : σ.set i (some v) = σ := by
                    apply List.ext_getElem?
                    intro j
                    by_cases hj : j = i
                    · subst hj
                      have : j < σ.length := (List.getElem?_eq_some_iff.mp r1).1
                      rw [r1]
                      simp [this]
                    · rw [List.getElem?_set_ne (Ne.symm hj)]
                  rw [es] at p3
                  refine ⟨F2, p3, ?_⟩
                  rw [List.append_assoc]
                  exact p4.trans (List.Perm.append_left _ p2)
            · cases g
          · cases g
/-- what a call does to the state: from the arguments' end to the state's end -/
theorem call_end {B : Bg} {F F1 Sc Sc' S : List Addr} {σ : L2.St} {ρ ρ0 : Env} {H H' : Hp} {ms : List Bool} {vs : List V} {ds' : List D} {as : List AV} (s : Sta K B F σ ρ H) (hp : F.Perm (Sc ++ F1)) (e0 : E K (Gof F B) H σ ρ0 F1)
    (h5 : ∀ G' H' ds' Sc' F1', E K G' H' σ ρ0 F1' → RA K G' H' ms vs ds' Sc' → ∃ F', E K G' H' σ (putB as ds' ρ0) F' ∧ F'.Perm (Sc' ++ F1'))
    (a : Arg K ms (orS (fun a => a ∈ F1 ∨ B.G0 a) S) Sc' vs ds' H') (hS : ∀ a ∈ S, H a = none) (st : Stp Sc H Sc' H') :
    ∃ F', Sta K (B.andS S) F' σ (putB as ds' ρ0) H' ∧ Stp F H F' H' ∧ F'.Perm (Sc' ++ F1) ∧ ∀ b o, H' b = some o → ¬ Gof Sc' ⟨orS (fun a => a ∈ F1 ∨ B.G0 a) S, []⟩ b → ¬ Gof F' (B.andS S) b := by
  have nd := (hp.nodup_iff.mp s.nd)
  rw [List.nodup_append] at nd
  obtain ⟨nd1, nd2, nd3⟩ := nd
  have mF : ∀ a, a ∈ F ↔ (a ∈ Sc ∨ a ∈ F1) := fun a => by rw [hp.mem_iff, List.mem_append]
  have cv : ∀ b, Gof Sc' ⟨orS (fun a => a ∈ F1 ∨ B.G0 a) S, []⟩ b ↔ ((b ∈ Sc' ∨ b ∈ F1) ∨ (B.G0 b ∨ b ∈ S)) := fun b => by
    unfold Gof orS
    constructor
    · rintro (z | (z | z) | z)
      · exact .inl (.inl z)
      · exact .inl (.inr z)
      · exact .inr (.inl z)
      · exact .inr (.inr z)
    · rintro ((z | z) | z | z)
      · exact .inl z
      · exact .inr (.inl (.inl z))
      · exact .inr (.inl (.inr z))
      · exact .inr (.inr z)
  have e1 : E K (fun b => (b ∈ Sc' ∨ b ∈ F1) ∨ (B.G0 b ∨ b ∈ S)) H' σ ρ0 F1 := by
    refine e0.mono (C := fun a => a ∈ Sc) (fun a o e n => st.keep a o e n) (fun a z => ⟨.inl ((mF a).mpr (.inl z)), s.memF ((mF a).mpr (.inl z))⟩) (fun a o e n z => ?_) fun a z c => nd3 a c a z rfl
    rcases z with (z | z) | z | z
    · rcases st.fresh a z with q | q
      · exact n (.inl ((mF a).mpr (.inl q)))
      · rw [e] at q; cases q
    · exact n (.inl ((mF a).mpr (.inr z)))
    · exact n (.inr z)
    · have := hS a z
      rw [e] at this; cases this
  have a1 : RA K (fun b => (b ∈ Sc' ∨ b ∈ F1) ∨ (B.G0 b ∨ b ∈ S)) H' ms vs ds' Sc' := a.ra.conv fun b o _ n z => n ((cv b).mpr z)
  obtain ⟨F', p1, p2⟩ := h5 _ _ ds' Sc' F1 e1 a1
  have mF' : ∀ a, a ∈ F' ↔ (a ∈ Sc' ∨ a ∈ F1) := fun a => by rw [p2.mem_iff, List.mem_append]
  have cv2 : ∀ b, ((b ∈ Sc' ∨ b ∈ F1) ∨ (B.G0 b ∨ b ∈ S)) ↔ Gof F' (B.andS S) b := fun b => by
    unfold Gof Bg.andS
    rw [mF' b]
  refine ⟨F', ⟨p1.conv fun b o _ n z => n ((cv2 b).mpr z), ?_, fun b z q => ?_, fun b z => ?_, s.pin⟩, ⟨fun b o e n => ?_, fun b z => ?_, st.dom⟩, p2, fun b o _ n z => n ((cv b).mpr ((cv2 b).mpr z))⟩
  · rw [p2.nodup_iff, List.nodup_append]
    exact ⟨a.nd, nd2, fun x hx y hy e => a.ap x hx (.inl (.inl (e ▸ hy)))⟩
  · rcases (mF' b).mp z with z | z
    · rcases q with q | q
      · exact a.ap b z (.inl (.inr q))
      · exact a.ap b z (.inr q)
    · rcases q with q | q
      · exact s.ap b ((mF b).mpr (.inr z)) q
      · obtain ⟨u, e⟩ := mut_ne (s.memF ((mF b).mpr (.inr z)))
        have := hS b q
        rw [e] at this; cases this
  · rcases z with z | z
    · exact a.old b (.inl (.inr z))
    · exact a.old b (.inr z)
  · exact st.keep b o e fun z => n ((mF b).mpr (.inl z))
  · rcases (mF' b).mp z with z | z
    · rcases st.fresh b z with q | q
      · exact .inl ((mF b).mpr (.inl q))
      · exact .inr q
    · exact .inl ((mF b).mpr (.inr z))
theorem RErr.conv {G G' : Addr → Prop} {H : Hp} {cls : Value} {dx : Option Addr} {er : Er} (r : RErr K G H cls dx er) (hG : ∀ a o, H a = some o → ¬ G a → ¬ G' a) : RErr K G' H cls dx er := by
  obtain ⟨a, e, g, fv, h1, h2, h3⟩ := r
  exact ⟨a, e, g, fv, h1, h2, h3.conv hG⟩
/-- the answer is frozen -/
def ifFz (q : D → Prop) (d : D) : Prop := match d.fz with
  | true => q d
  | false => False
theorem orS_nil {G0 : Addr → Prop} {a : Addr} : orS G0 [] a ↔ G0 a := by simp
theorem Arg.ofNil {G0 : Addr → Prop} {ms : List Bool} {F : List Addr} {vs : List V} {ds : List D} {H : Hp} (a : Arg K ms G0 F vs ds H) : Arg K ms (orS G0 []) F vs ds H :=
  ⟨a.ra.conv fun b o _ n z => n (by
    rcases z with z | z
    · exact .inl z
    · exact .inr (orS_nil.mp z)), a.nd, fun b z q => a.ap b z (orS_nil.mp q), fun b z => a.old b (orS_nil.mp z)⟩
def mCall (f : FS) (ms : List Bool) (mr : MCTy) : METy := fun ρ q x => mr ρ (fun as ρ1 => match grab ms as ρ1 with
  | some (ds, ρ0) => f ds (fun d ds' => ifFz (fun d => q d (putB as ds' ρ0)) d) (fun er ds' => x er (putB as ds' ρ0))
  | none => False) x
theorem fz_of {q : D → Prop} {d : D} (h : ifFz q d) : d.fz = true ∧ q d := by
  unfold ifFz at h
  split at h
  · exact ⟨by assumption, h⟩
  · exact h.elim
/-- a new thing that nothing else holds and that may change -/
def KW (K : Frg) (B : Bg) (b : Bool) (F : List Addr) (σ : L2.St) (ρ : Env) (H : Hp) (Q : VK) (q : DK) : Prop :=
  ∀ v d S ρ' F' H', Sta K (B.andS S) F' σ ρ' H' → R K (Gof F' (B.andS S)) H' [v] [d] S → S.Nodup → (∀ a ∈ S, H a = none) → Aft b F H ρ F' H' ρ' → q d ρ' → Q v H'
def SimW (K : Frg) (W : WX) (b : Bool) (te : TE) (t : METy) : Prop := ∀ B F σ ρ H Q q x, Sta K B F σ ρ H → t ρ q x → KW K B b F σ ρ H Q q → KX K B W F σ H x → te σ H Q
def mCallW (f : FS) (ms : List Bool) (mr : MCTy) : METy := fun ρ q x => mr ρ (fun as ρ1 => match grab ms as ρ1 with
  | some (ds, ρ0) => f ds (fun d ds' => q d (putB as ds' ρ0)) (fun er ds' => x er (putB as ds' ρ0))
  | none => False) x
theorem none_back {F F1 : List Addr} {H H1 : Hp} (x : Stp F H F1 H1) {a : Addr} (h : H1 a = none) : H a = none := by
  cases e : H a with
  | none => rfl
  | some o =>
    obtain ⟨o', e1⟩ := x.dom a o e
    rw [h] at e1; cases e1
theorem simw_call {ms : List Bool} {f : FS} (hr : SimC K W b2 tr mr) : SimW K W false (tCallS (spOf K ms f) (WE W) tr) (mCallW f ms mr) := by
  intro B F σ ρ H Q q x s h k e
  refine hr B F σ ρ H _ _ x s h (fun vs as ρ1 F1 H1 s1 r1 a1 h1 => ?_) e
  split at h1
  · rename_i ds ρ0 g
    obtain ⟨Sc, F2, k1, k2, k3, _, k5⟩ := grab_put as ms vs ρ1 F1 ds ρ0 s1.env r1 g
    have nd := (k3.nodup_iff.mp s1.nd)
    rw [List.nodup_append] at nd
    have mF : ∀ a, a ∈ F1 ↔ (a ∈ Sc ∨ a ∈ F2) := fun a => by rw [k3.mem_iff, List.mem_append]
    refine ⟨fun a => a ∈ F2 ∨ B.G0 a, Sc, ds, _, _, ⟨k1.conv fun b o _ n z => n ?_, nd.1, fun a z q => ?_, fun a z => ?_⟩, h1, fun d ds' v S H' F' ag rv ns hS st p => ?_, fun er ds' cls dx H' F' ag re st p => ?_⟩
    · rcases z with z | z | z
      · exact .inl ((mF b).mpr (.inl z))
      · exact .inl ((mF b).mpr (.inr z))
      · exact .inr z
    · rcases q with q | q
      · exact nd.2.2 a z a q rfl
      · exact s1.ap a ((mF a).mpr (.inl z)) q
    · rcases z with z | z
      · exact s1.memF ((mF a).mpr (.inr z))
      · exact s1.old a z
    · obtain ⟨F3, s3, st3, p3, cv⟩ := call_end s1 k3 k2 k5 ag hS st
      exact k v d S _ F3 H' s3 (rv.conv cv) ns (fun a z => none_back a1.stp (hS a z)) ⟨a1.stp.trans st3, fun z => nomatch z⟩ p
    · obtain ⟨F3, s3, st3, p3, cv⟩ := call_end s1 k3 k2 k5 ag.ofNil (fun _ z => absurd z (by simp)) st
      refine e er _ F3 H' cls dx s3.ofNilS (re.conv fun b o e1 n z => cv b o e1 (fun y => n ?_) (gofS.mpr (.inl z))) (a1.stp.trans st3) p
      rcases y with y | y
      · exact .inl y
      · exact .inr (orS_nil.mp y)
  · exact h1.elim
theorem sim_call {ms : List Bool} {f : FS} (hr : SimC K W b2 tr mr) : Sim K W false false (tCallS (spOf K ms f) (WE W) tr) (mCall f ms mr) := by
  intro B F σ ρ H Q q x s h k e
  refine simw_call (f := f) (ms := ms) hr B F σ ρ H Q (fun d ρ' => ifFz (fun d => q d ρ') d) x s h (fun v d S ρ' F' H' s' r ns hS a p => ?_) e
  obtain ⟨hf, p⟩ := fz_of p
  have := r.fz0 hf; subst this
  exact k v d ρ' F' H' [] s'.ofNilS (r.conv fun b o _ n z => n (gofS.mpr (.inl z))) (by simp) (fun _ => rfl) a p
/-- a call whose arguments are all data: nothing that stands changes -/
theorem RA.ofR {G : Addr → Prop} {H : Hp} : ∀ {vs : List V} {ds : List D}, R K G H vs ds [] → RA K G H (List.replicate vs.length false) vs ds [] := by
  intro vs
  induction vs with
  | nil => intro ds r; cases r; exact .nil
  | cons v vs ih =>
    intro ds r
    cases ds with
    | nil => cases r
    | cons d ds =>
      obtain ⟨S1, S2, z, r1, r2⟩ := r.uncons
      obtain ⟨z1, z2⟩ := List.append_eq_nil_iff.mp z.symm
      subst z1 z2
      exact .val r1 (ih r2)
theorem RA.none0 {G : Addr → Prop} {H : Hp} : ∀ {n : Nat} {vs : List V} {ds : List D} {S}, RA K G H (List.replicate n false) vs ds S → S = [] := by
  intro n
  induction n with
  | zero => intro vs ds S r; cases r; rfl
  | succ n ih =>
    intro vs ds S r
    cases r with
    | val _ r => exact ih r
/-- data without lists -/
def lf : D → Bool
  | .non => true
  | .bl _ => true
  | .int _ => true
  | .str _ => true
  | .cv _ => true
  | .tup ds => lfs ds
  | _ => false
where lfs : List D → Bool
  | [] => true
  | d :: ds => lf d && lfs ds
theorem lf_conv {G G' : Addr → Prop} {H : Hp} : ∀ {vs ds S}, R K G H vs ds S → lf.lfs ds = true → R K G' H vs ds [] := by
  intro vs ds S r
  induction r with
  | nil => intro _; exact .nil
  | «at» h _ ih =>
    intro z
    simp only [lf.lfs, Bool.and_eq_true] at z
    exact .at h (ih z.2)
  | tup h _ _ ih1 ih2 =>
    intro z
    simp only [lf.lfs, lf, Bool.and_eq_true] at z
    exact .tup h (ih1 z.1) (ih2 z.2)
  | lst _ _ _ _ _ _ => intro z; simp [lf.lfs, lf] at z
  | rol _ _ _ _ _ => intro z; simp [lf.lfs, lf] at z
  | mls _ _ _ _ _ => intro z; simp [lf.lfs, lf] at z
  | fdc _ _ _ _ _ _ _ => intro z; simp [lf.lfs, lf] at z
  | mdc _ _ _ _ _ _ => intro z; simp [lf.lfs, lf] at z
  | exc _ _ _ _ _ _ _ _ => intro z; simp [lf.lfs, lf] at z
  | ins _ _ _ _ _ _ _ => intro z; simp [lf.lfs, lf] at z
def mCall0 (f : FS) (n : Nat) (ma : MATy) : METy := fun ρ q x => ma ρ (fun ds ρ1 => match ds.length.beq n with
  | true => f ds (fun d _ => ifFz (fun d => q d ρ1) d) (fun er _ => x er ρ1)
  | false => False) x
theorem sim_call0 {ma : MATy} {f : FS} {n : Nat} (ha : SimA K W false b1 tr ma) : Sim K W false b1 (tCallS (spOf K (List.replicate n false) f) (WE W) tr) (mCall0 f n ma) := by
  intro B F σ ρ H Q q x s h k e
  refine ha B F σ ρ H _ _ x s h (fun vs ds ρ1 F1 H1 S1 s1 r1 m1 z1 a1 h1 => ?_) e
  have := z1 rfl; subst this
  split at h1
  · rename_i hn
    have hn' := Nat.eq_of_beq_eq_true hn
    have hv : vs.length = n := r1.length.trans hn'
    have ra := RA.ofR r1
    rw [hv] at ra
    refine ⟨fun a => Gof F1 B a, [], ds, _, _, ⟨ra.conv fun b o _ n z => ?_, by simp, fun _ z => absurd z (by simp), fun a z => s1.memG z⟩, h1, fun d ds' v S H' F' ag rv ns hS st p => ?_, fun er ds' cls dx H' F' ag re st p => ?_⟩
    · rcases z with z | z
      · simp at z
      · exact n z
    · have e0 := ag.ra.none0; subst e0
      obtain ⟨hf, p⟩ := fz_of p
      have := rv.fz0 hf; subst this
      have sm : Same H1 H' := fun b o e => st.keep b o e (by simp)
      exact k v d ρ1 F1 H' [] (s1.ext sm) (rv.conv fun b o _ n z => n (.inr (.inl z))) (by simp) (fun _ => rfl) (a1.ext sm) p
    · have e0 := ag.ra.none0; subst e0
      have sm : Same H1 H' := fun b o e => st.keep b o e (by simp)
      exact e er ρ1 F1 H' cls dx (s1.ext sm) (re.conv fun b o _ n z => n (.inr z)) (a1.stp.trans (.same sm)) p
  · exact h1.elim
/-- a slot's own list lent to a def that only reads, and hands back no list -/
def lend : List D → Option (List D)
  | [] => some []
  | .mls es :: ds => (match fzs es with
    | true => (match lend ds with
      | some ds' => some (.lst es :: ds')
      | none => none)
    | false => none)
  | .mdc _ :: _ => none
  | .ins _ _ :: _ => none
  | d :: ds => (match lend ds with
    | some ds' => some (d :: ds')
    | none => none)
theorem R.lend {G : Addr → Prop} {H : Hp} : ∀ {vs : List V} {ds : List D} {S}, R K G H vs ds S → ∀ {ds'}, lend ds = some ds' → ∀ G' : Addr → Prop, (∀ a ∈ S, ¬ G' a) → (∀ a, G' a → G a) → R K G' H vs ds' [] := by
  intro vs ds S r
  induction r with
  | nil => intro ds' e G' _ _; cases e; exact .nil
  | @«at» v d vs ds S h _ ih =>
    intro ds' e G' n g
    have : Mi.lend (d :: ds) = (match Mi.lend ds with | some ds' => some (d :: ds') | none => none) := by cases h <;> rfl
    rw [this] at e
    split at e
    · rename_i ds1 e1; cases e
      exact .at h (ih e1 G' n g)
    · cases e
  | tup h h1 _ _ ih =>
    intro ds' e G' n g
    simp only [Mi.lend] at e
    split at e
    · rename_i ds1 e1; cases e
      exact .tup h (h1.conv fun a o _ z q => z (g a q)) (ih e1 G' n g)
    · cases e
  | lst h0 h h1 _ _ ih =>
    intro ds' e G' n g
    simp only [Mi.lend] at e
    split at e
    · rename_i ds1 e1; cases e
      exact .lst (fun z => h0 (g _ z)) h (h1.conv fun a o _ z q => z (g a q)) (ih e1 G' n g)
    · cases e
  | rol h h1 _ _ ih =>
    intro ds' e G' n g
    simp only [Mi.lend] at e
    split at e
    · rename_i ds1 e1; cases e
      exact .rol h (h1.conv fun a o _ z q => z (g a q)) (ih e1 G' n g)
    · cases e
  | mls h h1 _ _ ih =>
    intro ds' e G' n g
    simp only [Mi.lend] at e
    split at e
    · rename_i hf
      split at e
      · rename_i ds1 e1; cases e
        have := h1.fzs0 hf; subst this
        exact .lst (n _ (by simp)) h (h1.conv fun a o _ z q => z (g a q)) (ih e1 G' (fun a z => n a (by simp [z])) g)
      · cases e
    · cases e
  | fdc h0 h hk h1 _ _ ih =>
    intro ds' e G' n g
    simp only [Mi.lend] at e
    split at e
    · rename_i ds1 e1; cases e
      exact .fdc (fun z => h0 (g _ z)) h hk (h1.conv fun a o _ z q => z (g a q)) (ih e1 G' n g)
    · cases e
  | mdc _ _ _ _ _ _ => intro ds' e; cases e
  | exc g0 hd h hk h1 _ _ ih =>
    intro ds' e G' n g
    simp only [Mi.lend] at e
    split at e
    · rename_i ds1 e1; cases e
      exact .exc g0 hd h hk (h1.conv fun a o _ z q => z (g a q)) (ih e1 G' n g)
    · cases e
  | ins _ _ _ _ _ _ _ => intro ds' e; cases e
def mCallV (f : FS) (n : Nat) (ma : MATy) : METy := fun ρ q x => ma ρ (fun ds ρ1 => match lend ds with
  | some ds' => (match ds'.length.beq n with
    | true => f ds' (fun d _ => lf d = true ∧ q d ρ1) (fun _ _ => False)
    | false => False)
  | none => False) x
theorem sim_callV {ma : MATy} {f : FS} {n : Nat} (ha : SimA K W vw1 b1 tr ma) : Sim K W false b1 (tCallS (spOf K (List.replicate n false) f) (WE W) tr) (mCallV f n ma) := by
  intro B F σ ρ H Q q x s h k e
  refine ha B F σ ρ H _ _ x s h (fun vs ds ρ1 F1 H1 S1 s1 r1 m1 z1 a1 h1 => ?_) e
  split at h1
  · rename_i ds' hl
    split at h1
    · rename_i hn
      have hn' := Nat.eq_of_beq_eq_true hn
      have r2 : R K (fun a => Gof F1 B a ∧ a ∉ S1) H1 vs ds' [] := r1.lend hl _ (fun a z q => q.2 z) (fun a z => z.1)
      have hv : vs.length = n := r2.length.trans hn'
      have ra := RA.ofR r2
      rw [hv] at ra
      refine ⟨fun a => Gof F1 B a ∧ a ∉ S1, [], ds', _, _, ⟨ra.conv fun b o _ n z => ?_, by simp, fun _ z => absurd z (by simp), fun a z => s1.memG z.1⟩, h1, fun d ds' v S H' F' ag rv ns hS st p => ?_, fun er ds' cls dx H' F' ag re st p => p.elim⟩
      · rcases z with z | z
        · simp at z
        · exact n z
      · have e0 := ag.ra.none0; subst e0
        have sm : Same H1 H' := fun b o e => st.keep b o e (by simp)
        exact k v d ρ1 F1 H' [] (s1.ext sm) (lf_conv rv (by simp [lf.lfs, p.1])) (by simp) (fun _ => rfl) (a1.ext sm) p.2
    · exact h1.elim
  · exact h1.elim
end
end Mi
end

-- text ME
section
set_option Elab.async false
set_option linter.all false
set_option maxRecDepth 100000
set_option maxHeartbeats 4000000
/-! ME: statements, loops, a def's body. -/
namespace Mi
open PySem PySem.Spec PyProof.Rows L2

structure KS (K : Frg) (B : Bg) (W : WX) (F : List Addr) (H : Hp) (D : Ends) (E : Es) : Prop where
  nx : ∀ σ' ρ' F' H', Sta K B F' σ' ρ' H' → Stp F H F' H' → E.nx ρ' → D.nx σ' H'
  rt : ∀ v d S σ' ρ' F' H', Sta K (B.andS S) F' σ' ρ' H' → R K (Gof F' (B.andS S)) H' [v] [d] S → S.Nodup → (∀ a ∈ S, H a = none) → Stp F H F' H' → E.rt d ρ' → D.rt v H'
  bk : ∀ σ' ρ' F' H', Sta K B F' σ' ρ' H' → Stp F H F' H' → E.bk ρ' → D.bk σ' H'
  ct : ∀ σ' ρ' F' H', Sta K B F' σ' ρ' H' → Stp F H F' H' → E.ct ρ' → D.ct σ' H'
  ex : ∀ σ', KX K B W F σ' H E.ex
def SimS (K : Frg) (np : Nat → Bool) (W : WX) (ts : TS) (t : MSTy) : Prop :=
  ∀ B F σ ρ H D E, (∀ p ∈ B.pn, np p.1 = true) → Sta K B F σ ρ H → t E ρ → KS K B W F H D E → ts D σ H
section
variable {K : Frg} {np : Nat → Bool} {W : WX} {vw vw1 vw2 b b1 b2 b3 : Bool} {te ta tb : TE} {t ma mb : METy} {ts tu : TS} {s u : MSTy} {tt : TT} {mt : MTTy}
theorem KS.aft {B : Bg} {F F1 : List Addr} {H H1 : Hp} {D : Ends} {E : Es} (k : KS K B W F H D E) (a : Stp F H F1 H1) : KS K B W F1 H1 D E :=
  ⟨fun σ' ρ' F' H' s x e => k.nx σ' ρ' F' H' s (a.trans x) e, fun v d S σ' ρ' F' H' s r n hS x e => k.rt v d S σ' ρ' F' H' s r n (fun b z => none_back a (hS b z)) (a.trans x) e, fun σ' ρ' F' H' s x e => k.bk σ' ρ' F' H' s (a.trans x) e,
    fun σ' ρ' F' H' s x e => k.ct σ' ρ' F' H' s (a.trans x) e, fun σ' => (k.ex σ').aft a⟩
theorem KS.rt0 {B : Bg} {F : List Addr} {H : Hp} {D : Ends} {E : Es} (k : KS K B W F H D E) : ∀ v d σ' ρ' F' H', Sta K B F' σ' ρ' H' → R K (Gof F' B) H' [v] [d] [] → Stp F H F' H' → E.rt d ρ' → D.rt v H' := fun v d σ' ρ' F' H' s r x e =>
  k.rt v d [] σ' ρ' F' H' s.nilS (r.conv fun b o _ n z => n (by
    rcases gofS.mp z with z | z
    · exact z
    · simp at z)) (by simp) (fun _ z => absurd z (by simp)) x e
theorem KS.nxt {B : Bg} {F : List Addr} {H : Hp} {D : Ends} {E : Es} (k : KS K B W F H D E) {n : L2.St → Hp → Prop} {m : Env → Prop} (h : ∀ σ' ρ' F' H', Sta K B F' σ' ρ' H' → Stp F H F' H' → m ρ' → n σ' H') :
    KS K B W F H { D with nx := n } { E with nx := m } := ⟨h, k.rt, k.bk, k.ct, k.ex⟩

def mNext : MSTy := fun E ρ => E.nx ρ
def mSeq (s u : MSTy) : MSTy := fun E ρ => s { E with nx := u E } ρ
/-- with a word between -/
def mSeqC (s u : MSTy) : MSTy := fun E ρ => ∃ I : Env → Prop, s { E with nx := I } ρ ∧ ∀ ρ', I ρ' → u E ρ'
theorem ss_nil : SimS K np W tNext mNext := fun B F σ ρ H D E _ st h k => k.nx σ ρ F H st .refl h
theorem ss_cons (h1 : SimS K np W ts s) (h2 : SimS K np W tu u) : SimS K np W (tSeq ts tu) (mSeq s u) := fun B F σ ρ H D E hp st h k =>
  h1 B F σ ρ H _ _ hp st h (k.nxt fun σ' ρ' F' H' s' x e => h2 B F' σ' ρ' H' D E hp s' e (k.aft x))
theorem ss_cut (h1 : SimS K np W ts s) (h2 : SimS K np W tu u) : SimS K np W (tSeq ts tu) (mSeqC s u) := fun B F σ ρ H D E hp st h k => by
  obtain ⟨I, p1, p2⟩ := h
  exact h1 B F σ ρ H _ _ hp st p1 (k.nxt fun σ' ρ' F' H' s' x e => h2 B F' σ' ρ' H' D E hp s' (p2 ρ' e) (k.aft x))
/-- a ghost step: a slot is forgotten ahead of a statement -/
def mKill (i : Nat) (s : MSTy) : MSTy := fun E ρ => s E (ρ.set i none)

/-! ### stores to names -/
theorem Sta.store {B : Bg} {F : List Addr} {σ : L2.St} {ρ : Env} {H : Hp} {i : Nat} {v : V} {d : D} (s : Sta K B F σ ρ H) (hi : i < ρ.length) (hp : ∀ p ∈ B.pn, p.1 ≠ i) (r : R K (Gof F B) H [v] [d] []) :
    ∃ F', Sta K B F' (σ.set i (some v)) (ρ.set i (some d)) H ∧ Stp F H F' H := by
  obtain ⟨S2, e2, S1, pm⟩ := s.env.kill i
  have hn : (ρ.set i none)[i]? = some none := by simp [hi]
  obtain ⟨F', e3, pm3⟩ := e2.put hn r
  rw [List.set_set, List.nil_append] at *
  have sub : ∀ a ∈ F', a ∈ F := fun a z => by
    rw [pm.mem_iff]
    exact List.mem_append_right _ (pm3.mem_iff.mp z)
  have cv : ∀ a o, H a = some o → ¬ Gof F B a → ¬ Gof F' B a := fun a o _ n z => by
    rcases z with z | z
    · exact n (.inl (sub a z))
    · exact n (.inr z)
  have nd := pm.nodup_iff.mp s.nd
  rw [List.nodup_append] at nd
  refine ⟨F', ⟨e3.conv cv, pm3.nodup_iff.mpr nd.2.1, fun a z => s.ap a (sub a z), s.old, fun p hp' => ?_⟩, ⟨fun a o e _ => e, fun a z => .inl (sub a z), fun a o e => ⟨o, e⟩⟩⟩
  rw [List.getElem?_set_ne (Ne.symm (hp p hp'))]
  exact s.pin p hp'
/-- the slot is there -/
theorem Sta.len {B : Bg} {F : List Addr} {σ : L2.St} {ρ : Env} {H : Hp} (s : Sta K B F σ ρ H) : σ.length = ρ.length := s.env.length
abbrev MGTy := D → Env → (Env → Prop) → Prop
/-- σ' is σ but for the slots tg -/
structure But (tg : List Nat) (σ σ' : L2.St) : Prop where
  len : σ'.length = σ.length
  sl : ∀ j, j ∉ tg → σ'[j]? = σ[j]?
theorem But.refl {tg : List Nat} {σ : L2.St} : But tg σ σ := ⟨rfl, fun _ _ => rfl⟩
theorem But.set {tg : List Nat} {σ σ' : L2.St} (h : But tg σ σ') {i : Nat} (hi : i ∈ tg) (o : Option V) : But tg σ (σ'.set i o) :=
  ⟨by rw [List.length_set]; exact h.len, fun j hj => by rw [List.getElem?_set_ne (show i ≠ j from fun z => hj (by rw [← z]; exact hi))]; exact h.sl j hj⟩
def SimG (K : Frg) (np : Nat → Bool) (tg : List Nat) (g : TG) (m : MGTy) : Prop := ∀ B F σ ρ H v d (Q : L2.St → Hp → Prop) (q : Env → Prop), (∀ p ∈ B.pn, np p.1 = true) → Sta K B F σ ρ H → R K (Gof F B) H [v] [d] [] → m d ρ q →
  (∀ σ' ρ' F', Sta K B F' σ' ρ' H → Stp F H F' H → But tg σ σ' → q ρ' → Q σ' H) → g v σ H Q
def mgName (i : Nat) : MGTy := fun d ρ q => match Nat.blt i ρ.length with
  | true => q (ρ.set i (some d))
  | false => False
theorem np_ne {B : Bg} {i : Nat} (hp : ∀ p ∈ B.pn, np p.1 = true) (h : np i = false) : ∀ p ∈ B.pn, p.1 ≠ i := fun p z e => by
  have := hp p z
  rw [e, h] at this; cases this
theorem g_name (i : Nat) (hi : np i = false := by rfl) : SimG K np [i] (gName i) (mgName i) := by
  intro B F σ ρ H v d Q q hp s r h k
  unfold mgName at h
  split at h
  · rename_i hl
    obtain ⟨F', s', st⟩ := s.store (i := i) (by simpa [Nat.blt_eq] using hl) (np_ne hp hi) r
    exact k _ _ F' s' st (But.refl.set (by simp) _) h
  · exact h.elim
def sets : List Nat → List D → Env → Env
  | i :: is, d :: ds, ρ => sets is ds (ρ.set i (some d))
  | _, _, ρ => ρ
def mgTup (is : List Nat) : MGTy := fun d ρ q => match d with
  | .tup ds => (match ds.length.beq is.length with
    | true => (match is.all fun i => Nat.blt i ρ.length with
      | true => q (sets is ds ρ)
      | false => False)
    | false => False)
  | _ => False
def gNames : List Nat → TGs
  | [] => gNil
  | i :: is => gCons (gName i) (gNames is)
theorem g_names : ∀ (is : List Nat), (is.all fun i => !np i) = true → ∀ (B : Bg) F σ ρ H vs ds (Q : L2.St → Hp → Prop) (q : Env → Prop), (∀ p ∈ B.pn, np p.1 = true) → Sta K B F σ ρ H → R K (Gof F B) H vs ds [] → ds.length = is.length → (is.all fun i => Nat.blt i ρ.length) = true → q (sets is ds ρ) →
    (∀ σ' ρ' F', Sta K B F' σ' ρ' H → Stp F H F' H → But is σ σ' → q ρ' → Q σ' H) → gNames is vs σ H Q := by
  intro is
  induction is with
  | nil =>
    intro _ B F σ ρ H vs ds Q q hp s r hl _ h k
    cases ds with
    | cons _ _ => simp at hl
    | nil =>
      cases r
      exact ⟨rfl, k σ ρ F s .refl .refl h⟩
  | cons i is ih =>
    intro hn B F σ ρ H vs ds Q q hp s r hl hb h k
    cases ds with
    | nil => simp at hl
    | cons d ds =>
      cases vs with
      | nil => cases r
      | cons v vs =>
        obtain ⟨S1, S2, z, r1, r2⟩ := r.uncons
        obtain ⟨z1, z2⟩ := List.append_eq_nil_iff.mp z.symm
        subst z1 z2
        rw [List.all_cons, Bool.and_eq_true] at hn hb
        obtain ⟨F', s', st⟩ := s.store (i := i) (by simpa [Nat.blt_eq] using hb.1) (np_ne hp (by simpa using hn.1)) r1
        refine ⟨v, vs, rfl, ?_⟩
        refine ih hn.2 B F' _ _ H vs ds Q q hp s' (r2.aftσ s st) (by simpa using hl) (by simpa using hb.2) h fun σ' ρ' F2 s2 st2 bu e => k σ' ρ' F2 s2 (st.trans st2) ⟨by rw [bu.len, List.length_set], fun j hj => by rw [bu.sl j (fun z => hj (List.mem_cons_of_mem _ z)), List.getElem?_set_ne (fun z => hj (by rw [z]; exact List.mem_cons_self))]⟩ e
theorem g_tup (is : List Nat) (hi : (is.all fun i => !np i) = true := by rfl) {n : Nat} (hn : is.length = n := by rfl) : SimG K np is (gTup K n (gNames is)) (mgTup is) := by
  intro B F σ ρ H v d Q q hp s r h k
  unfold mgTup at h
  split at h
  · split at h
    · split at h
      · rename_i _ h1 _ h2
        obtain ⟨a, ws, rfl, hs, rr⟩ := r.tupE
        have e1 := Nat.eq_of_beq_eq_true h1
        exact ⟨a, ws, rfl, hs, by rw [rr.length, e1, hn], g_names is hi B F σ ρ H ws _ Q q hp s rr e1 h2 h k⟩
      · exact h.elim
    · exact h.elim
  · exact h.elim
def mAsg (ma : METy) (mg : MGTy) : MSTy := fun E ρ => ma ρ (fun d ρ1 => mg d ρ1 E.nx) E.ex
theorem ss_asg {g : TG} {mg : MGTy} {tg : List Nat} (ha : Sim K W false b1 ta ma) (hg : SimG K np tg g mg) : SimS K np W (tAsg ta g) (mAsg ma mg) := by
  intro B F σ ρ H D E hp s h k
  refine ha B F σ ρ H _ _ E.ex s h (fun v1 d1 ρ1 F1 H1 S1 s1 r1 m1 z1 a1 h1 => ?_) (k.ex σ)
  have := z1 rfl; subst this
  exact hg B F1 σ ρ1 H1 v1 d1 _ _ hp s1 r1 h1 fun σ' ρ' F' s' st _ e => k.nx σ' ρ' F' H1 s' (a1.stp.trans st) e
/-- x += e, ints -/
def mAug (f : F2) (i : Nat) (ma : METy) : MSTy := fun E ρ => match ρ[i]? with
  | some (some d0) => (match d0.fz with
    | true => ma ρ (fun d ρ1 => f d0 d (fun r => match Nat.blt i ρ1.length with
      | true => E.nx (ρ1.set i (some r))
      | false => False)) E.ex
    | false => False)
  | _ => False
theorem ss_aug {i : Nat} {r : R2} {f : F2} (hr : RSim K r f) (ha : Sim K W false b1 ta ma) (hi : np i = false := by rfl) : SimS K np W (tAug i ta r) (mAug f i ma) := by
  intro B F σ ρ H D E hp s h k
  unfold mAug at h
  split at h
  · rename_i d0 e0
    split at h
    · rename_i hf
      obtain ⟨v0, S0, g1, g2, _⟩ := s.env.get e0
      have := g2.fz0 hf; subst this
      refine ⟨v0, g1, ?_⟩
      refine ha B F σ ρ H _ _ E.ex s h (fun v1 d1 ρ1 F1 H1 S1 s1 r1 m1 z1 a1 h1 => ?_) (k.ex σ)
      have := z1 rfl; subst this
      refine hr _ H1 v0 v1 d0 d1 [] [] _ _ s1.dom (g2.aftσ s a1.stp) r1 h1 fun v d H' sm rv p => ?_
      split at p
      · rename_i hl
        obtain ⟨F', s', st⟩ := (s1.ext sm).store (i := i) (by simpa [Nat.blt_eq] using hl) (np_ne hp hi) rv
        exact k.nx _ _ F' H' s' ((a1.ext sm).stp.trans st) p
      · exact p.elim
    · exact h.elim
  · exact h.elim

/-! ### the other statements -/
def mExpr (ma : METy) : MSTy := fun E ρ => ma ρ (fun _ ρ1 => E.nx ρ1) E.ex
def mRet (ma : METy) : MSTy := fun E ρ => ma ρ (fun d ρ1 => E.rt d ρ1) E.ex
def mRetN : MSTy := fun E ρ => E.rt .non ρ
def mBrk : MSTy := fun E ρ => E.bk ρ
def mCnt : MSTy := fun E ρ => E.ct ρ
def mIf (m : MTTy) (s u : MSTy) : MSTy := fun E ρ => m ρ (fun c ρ1 => (c = true → s E ρ1) ∧ (c = false → u E ρ1)) E.ex
theorem ss_expr (ha : Sim K W vw1 b1 ta ma) : SimS K np W (tDrop ta) (mExpr ma) := fun B F σ ρ H D E hp s h k =>
  ha B F σ ρ H _ _ E.ex s h (fun v1 d1 ρ1 F1 H1 S1 s1 r1 m1 z1 a1 h1 => k.nx σ ρ1 F1 H1 s1 a1.stp h1) (k.ex σ)
theorem ss_ret (ha : Sim K W false b1 ta ma) : SimS K np W (tRet ta) (mRet ma) := fun B F σ ρ H D E hp s h k =>
  ha B F σ ρ H _ _ E.ex s h (fun v1 d1 ρ1 F1 H1 S1 s1 r1 m1 z1 a1 h1 => by
    have := z1 rfl; subst this
    exact k.rt0 v1 d1 σ ρ1 F1 H1 s1 r1 a1.stp h1) (k.ex σ)
/-- a new thing of its own handed back -/
theorem ss_retW (ha : SimW K W b1 ta ma) : SimS K np W (tRet ta) (mRet ma) := fun B F σ ρ H D E hp s h k =>
  ha B F σ ρ H _ _ E.ex s h (fun v d S ρ1 F1 H1 s1 r1 ns hS a1 h1 => k.rt v d S σ ρ1 F1 H1 s1 r1 ns hS a1.stp h1) (k.ex σ)
theorem ss_retN : SimS K np W tRetN mRetN := fun B F σ ρ H D E hp s h k => k.rt0 .non .non σ ρ F H s .non1 .refl h
theorem ss_brk : SimS K np W tBreak mBrk := fun B F σ ρ H D E hp s h k => k.bk σ ρ F H s .refl h
theorem ss_cnt : SimS K np W tCont mCnt := fun B F σ ρ H D E hp s h k => k.ct σ ρ F H s .refl h
theorem ss_if (hm : SimT K W b1 tt mt) (h1 : SimS K np W ts s) (h2 : SimS K np W tu u) : SimS K np W (tIfS tt ts tu) (mIf mt s u) := by
  intro B F σ ρ H D E hp st h k
  refine hm B F σ ρ H _ _ E.ex st h (fun c ρ1 F1 H1 s1 a1 p1 => ?_) (k.ex σ)
  cases c with
  | true =>
    show ts D σ H1
    exact h1 B F1 σ ρ1 H1 D E hp s1 (p1.1 rfl) (k.aft a1.stp)
  | false =>
    show tu D σ H1
    exact h2 B F1 σ ρ1 H1 D E hp s1 (p1.2 rfl) (k.aft a1.stp)
/-- a slot's own list handed back: the slot is empty behind it -/
def mRetMv (i : Nat) : MSTy := fun E ρ => match ρ[i]? with
  | some (some (.mls ds)) => (match fzs ds with
    | true => E.rt (.lst ds) (ρ.set i none)
    | false => False)
  | some (some d) => (match d.fz with
    | true => E.rt d ρ
    | false => False)
  | _ => False
theorem Sta.move {B : Bg} {F : List Addr} {σ : L2.St} {ρ : Env} {H : Hp} {i : Nat} {ds : List D} (s : Sta K B F σ ρ H) (h : ρ[i]? = some (some (.mls ds))) (hf : fzs ds = true) :
    ∃ v F', σ[i]? = some (some v) ∧ Sta K B F' σ (ρ.set i none) H ∧ R K (Gof F' B) H [v] [.lst ds] [] ∧ Stp F H F' H := by
  obtain ⟨v, S1, F', h1, h2, h3, pm⟩ := s.env.take h
  have nd := pm.nodup_iff.mp s.nd
  rw [List.nodup_append] at nd
  have sub : ∀ a ∈ F', a ∈ F := fun a z => by
    rw [pm.mem_iff]
    exact List.mem_append_right _ z
  have cv : ∀ a o, H a = some o → ¬ Gof F B a → ¬ Gof F' B a := fun a o _ n z => by
    rcases z with z | z
    · exact n (.inl (sub a z))
    · exact n (.inr z)
  refine ⟨v, F', h1, ⟨h3.conv cv, nd.2.1, fun a z => s.ap a (sub a z), s.old, s.pin⟩, ?_, ⟨fun a o e _ => e, fun a z => .inl (sub a z), fun a o e => ⟨o, e⟩⟩⟩
  cases h2 with
  | «at» z _ => cases z
  | @mls a ws es _ _ T1 T q1 q2 q3 =>
    have := q2.fzs0 hf; subst this
    have ha : a ∈ F := by rw [pm.mem_iff]; simp
    refine .lst (fun z => ?_) q1 (q2.conv cv) .nil
    rcases z with z | z
    · exact nd.2.2 a (by simp) a z rfl
    · exact s.ap a ha z
theorem ss_retMv {i : Nat} : SimS K np W (tRet (tVar i)) (mRetMv i) := by
  intro B F σ ρ H D E hp s h k
  unfold mRetMv at h
  split at h
  · rename_i ds e
    split at h
    · rename_i hf
      obtain ⟨v, F', h1, h2, h3, h4⟩ := s.move e hf
      exact ⟨v, h1, k.rt0 v _ σ _ F' H h2 h3 h4 h⟩
    · exact h.elim
  · rename_i d _ e
    split at h
    · rename_i hf
      obtain ⟨v, S1, h1, h2, _⟩ := s.env.get e
      have := h2.fz0 hf; subst this
      exact ⟨v, h1, k.rt0 v d σ ρ F H s h2 .refl h⟩
    · exact h.elim
  · exact h.elim
/-- x = y, y's own list: y is empty behind it; as an expression -/
def mMv (i : Nat) : METy := fun ρ q _ => match ρ[i]? with
  | some (some (.mls ds)) => (match fzs ds with
    | true => q (.lst ds) (ρ.set i none)
    | false => False)
  | some (some d) => (match d.fz with
    | true => q d ρ
    | false => False)
  | _ => False
theorem sim_mv {i : Nat} : Sim K W false false (tVar i) (mMv i) := by
  intro B F σ ρ H Q q x s h k _
  unfold mMv at h
  split at h
  · rename_i ds e
    split at h
    · rename_i hf
      obtain ⟨v, F', h1, h2, h3, h4⟩ := s.move e hf
      exact ⟨v, h1, k v _ _ F' H [] h2 h3 (by simp) (fun _ => rfl) ⟨h4, fun z => nomatch z⟩ h⟩
    · exact h.elim
  · rename_i d _ e
    split at h
    · rename_i hf
      obtain ⟨v, S1, h1, h2, _⟩ := s.env.get e
      have := h2.fz0 hf; subst this
      exact ⟨v, h1, k v d ρ F H [] s h2 (by simp) (fun _ => rfl) .refl h⟩
    · exact h.elim
  · exact h.elim

/-! ### loops -/
def mWhile (m : MTTy) (s : MSTy) : MSTy := fun E ρ => ∃ I : Nat → Env → Prop, (∃ n, I n ρ) ∧ ∀ n ρ, I n ρ →
  m ρ (fun c ρ1 => (c = true → s { E with nx := fun ρ' => ∃ n', n' < n ∧ I n' ρ', ct := fun ρ' => ∃ n', n' < n ∧ I n' ρ', bk := E.nx } ρ1) ∧ (c = false → E.nx ρ1)) E.ex
theorem ss_while (hm : SimT K W b1 tt mt) (h1 : SimS K np W ts s) : SimS K np W (tWhile tt ts) (mWhile mt s) := by
  intro B F σ ρ H D E hp st h k
  obtain ⟨I, ⟨n0, i0⟩, turn⟩ := h
  refine ⟨fun n σ' H' => ∃ ρ' F', Sta K B F' σ' ρ' H' ∧ Stp F H F' H' ∧ I n ρ', ⟨n0, ρ, F, st, .refl, i0⟩, ?_⟩
  rintro n σ1 H1 ⟨ρ1, F1, s1, a1, i1⟩
  refine hm B F1 σ1 ρ1 H1 _ _ E.ex s1 (turn n ρ1 i1) (fun c ρ2 F2 H2 s2 a2 p2 => ?_) ((k.ex σ1).aft a1)
  cases c with
  | true =>
    rw [if_pos rfl]
    refine ⟨fun σ' H' => ∃ n', n' < n ∧ ∃ ρ' F', Sta K B F' σ' ρ' H' ∧ Stp F H F' H' ∧ I n' ρ', fun σ' H' z => z, ?_⟩
    have k2 := k.aft (a1.trans a2.stp)
    have w : ∀ σ' ρ' F' H', Sta K B F' σ' ρ' H' → Stp F2 H2 F' H' → (∃ n', n' < n ∧ I n' ρ') → ∃ n', n' < n ∧ ∃ ρ' F', Sta K B F' σ' ρ' H' ∧ Stp F H F' H' ∧ I n' ρ' := fun σ' ρ' F' H' s' x ⟨n', l, i'⟩ =>
      ⟨n', l, ρ', F', s', (a1.trans a2.stp).trans x, i'⟩
    exact h1 B F2 σ1 ρ2 H2 _ _ hp s2 (p2.1 rfl) ⟨w, k2.rt, k2.nx, w, k2.ex⟩
  | false =>
    rw [if_neg (by decide)]
    exact k.nx σ1 ρ2 F2 H2 s2 (a1.trans a2.stp) (p2.2 rfl)
/-- J goes through ds, whatever happens to what may change -/
def Wk (K : Frg) (B : Bg) (F : List Addr) (H : Hp) (J : It) (ds : List D) : Prop :=
  ∃ (Gd : Hp → Prop) (Y : Nat → Hp → V → Hp → Prop), L2.Walk J ds.length Gd Y ∧
    ∀ F' H' (G' : Addr → Prop), Stp F H F' H' → (∀ a o, H a = some o → ¬ Gof F B a → ¬ G' a) → Dom G' H' → Gd H' ∧ ∀ i x H'', i < ds.length → Y i H' x H'' → Same H' H'' ∧ ∃ d, ds[i]? = some d ∧ R K G' H'' [x] [d] []
theorem gof_stp {B : Bg} {F F' : List Addr} {H H' : Hp} (x : Stp F H F' H') : ∀ a o, H a = some o → ¬ Gof F B a → ¬ Gof F' B a := fun a o e n z => by
  rcases z with z | z
  · rcases x.fresh a z with q | q
    · exact n (.inl q)
    · rw [e] at q; cases q
  · exact n (.inr z)
abbrev MITy := Env → (List D → Env → Prop) → EK → Prop
def KI (K : Frg) (B : Bg) (b : Bool) (F : List Addr) (σ : L2.St) (ρ : Env) (H : Hp) (Q : It → Hp → Prop) (q : List D → Env → Prop) : Prop :=
  ∀ J ds ρ' F' H', Sta K B F' σ ρ' H' → Wk K B F' H' J ds → Aft b F H ρ F' H' ρ' → q ds ρ' → Q J H'
def SimI (K : Frg) (W : WX) (b : Bool) (wi : TI) (t : MITy) : Prop := ∀ B F σ ρ H Q q x, Sta K B F σ ρ H → t ρ q x → KI K B b F σ ρ H Q q → KX K B W F σ H x → wi σ H Q
def mFor (mi : MITy) (mg : MGTy) (s : MSTy) : MSTy := fun E ρ => mi ρ (fun ds ρ1 => ∃ I : Nat → Env → Prop, I 0 ρ1 ∧
  (∀ i d ρ, ds[i]? = some d → I i ρ → mg d ρ (fun ρ2 => s { E with nx := I (i + 1), ct := I (i + 1), bk := E.nx } ρ2)) ∧ ∀ ρ, I ds.length ρ → E.nx ρ) E.ex
theorem ss_for {wi : TI} {mi : MITy} {g : TG} {mg : MGTy} {tg : List Nat} (hi : SimI K W b1 wi mi) (hg : SimG K np tg g mg) (h1 : SimS K np W ts s) : SimS K np W (tFor wi g ts) (mFor mi mg s) := by
  intro B F σ ρ H D E hp st h k
  refine hi B F σ ρ H _ _ E.ex st h (fun J ds ρ1 F1 H1 s1 wk a1 p1 => ?_) (k.ex σ)
  obtain ⟨I, i0, turn, fin⟩ := p1
  obtain ⟨Gd, Y, w, cy⟩ := wk
  refine L2.for_it w (fun i σ' H' => ∃ ρ' F', Sta K B F' σ' ρ' H' ∧ Stp F1 H1 F' H' ∧ I i ρ') ⟨ρ1, F1, s1, .refl, i0⟩ ?_ ?_ ?_
  · rintro i σ' H' _ ⟨ρ', F', s', x', _⟩
    exact (cy F' H' _ x' (gof_stp x') s'.dom).1
  · rintro i x σ' H' H'' hi ⟨ρ', F', s', x', ii⟩ y
    obtain ⟨sm, d, hd, rd⟩ := (cy F' H' _ x' (gof_stp x') s'.dom).2 i x H'' hi y
    have k2 := k.aft (a1.stp.trans (x'.trans (.same sm)))
    refine hg B F' σ' ρ' H'' x d _ _ hp (s'.ext sm) rd (turn i d ρ' hd ii) fun σ2 ρ2 F2 s2 st2 _ e => ?_
    have k3 := k2.aft st2
    have xx : Stp F1 H1 F2 H'' := (x'.trans (.same sm)).trans st2
    have w' : ∀ σ3 ρ3 F3 H3, Sta K B F3 σ3 ρ3 H3 → Stp F2 H'' F3 H3 → I (i + 1) ρ3 → ∃ ρ' F', Sta K B F' σ3 ρ' H3 ∧ Stp F1 H1 F' H3 ∧ I (i + 1) ρ' := fun σ3 ρ3 F3 H3 s3 x3 i3 => ⟨ρ3, F3, s3, xx.trans x3, i3⟩
    exact h1 B F2 σ2 ρ2 H'' _ _ hp s2 e ⟨w', k3.rt, k3.nx, w', k3.ex⟩
  · rintro σ' H' ⟨ρ', F', s', x', ii⟩
    exact k.nx σ' ρ' F' H' s' (a1.stp.trans x') (fin ρ' ii)

/-! ### a def's body -/
def outK : List Bool → List D → Env → (List D → Prop) → Prop
  | [], [], _, k => k []
  | false :: ms, d :: ds, _ :: ρ, k => outK ms ds ρ (fun l => k (d :: l))
  | true :: ms, _ :: ds, some d :: ρ, k => outK ms ds ρ (fun l => k (d :: l))
  | _, _, _, _ => False
def endsOf (ms : List Bool) (ds : List D) (q : D → List D → Prop) (x : Er → List D → Prop) : Es where
  nx := fun ρ => outK ms ds ρ (q .non)
  rt := fun d ρ => outK ms ds ρ (q d)
  bk := fun _ => False
  ct := fun _ => False
  ex := fun er ρ => outK ms ds ρ (x er)
def npOf (ms : List Bool) : Nat → Bool := fun i => ms.getD i false
def pinsOf : List Bool → List V → Nat → List (Nat × V)
  | true :: ms, v :: vs, i => (i, v) :: pinsOf ms vs (i + 1)
  | false :: ms, _ :: vs, i => pinsOf ms vs (i + 1)
  | _, _, _ => []
theorem pinsOf_np : ∀ (ms : List Bool) (vs : List V) (i : Nat), ∀ p ∈ pinsOf ms vs i, i ≤ p.1 ∧ ms.getD (p.1 - i) false = true ∧ vs[p.1 - i]? = some p.2
  | [], _, _, p, h => by simp [pinsOf] at h
  | true :: ms, [], _, p, h => by simp [pinsOf] at h
  | false :: ms, [], _, p, h => by simp [pinsOf] at h
  | true :: ms, v :: vs, i, p, h => by
    rcases List.mem_cons.mp h with rfl | h
    · simp
    · obtain ⟨h1, h2, h3⟩ := pinsOf_np ms vs (i + 1) p h
      have e : p.1 - i = (p.1 - (i + 1)) + 1 := by omega
      refine ⟨by omega, ?_, ?_⟩
      · rw [e]; simpa using h2
      · rw [e]; simpa using h3
  | false :: ms, v :: vs, i, p, h => by
    obtain ⟨h1, h2, h3⟩ := pinsOf_np ms vs (i + 1) p h
    have e : p.1 - i = (p.1 - (i + 1)) + 1 := by omega
    refine ⟨by omega, ?_, ?_⟩
    · rw [e]; simpa using h2
    · rw [e]; simpa using h3
theorem E.nones {G : Addr → Prop} {H : Hp} : ∀ (n : Nat), E K G H (List.replicate n Option.none) (List.replicate n Option.none) []
  | 0 => .nil
  | n + 1 => .dead (E.nones n)
theorem E.start {G : Addr → Prop} {H : Hp} {n : Nat} : ∀ {ms vs ds S}, RA K G H ms vs ds S → E K G H (vs.map some ++ List.replicate n none) (ds.map some ++ List.replicate n none) S := by
  intro ms vs ds S r
  induction r with
  | nil => exact E.nones n
  | val h _ ih => exact .live (S1 := []) h ih
  | ref h _ ih => exact .live h ih
/-- the arguments behind the body -/
theorem outK_arg {G G' : Addr → Prop} {H H' : Hp} : ∀ {ms vs ds S}, RA K G H ms vs ds S → ∀ {i : Nat} {σ : L2.St} {ρ : Env} {F : List Addr} {k : List D → Prop}, E K G' H' σ ρ F → (∀ v d, R K G H [v] [d] [] → R K G' H' [v] [d] []) →
    (∀ p ∈ pinsOf ms vs i, σ[p.1 - i]? = some (some p.2)) → outK ms ds ρ k → ∃ ds' S', RA K G' H' ms vs ds' S' ∧ k ds' ∧ ∃ T, F.Perm (S' ++ T) := by
  intro ms vs ds S r
  induction r with
  | nil =>
    intro i σ ρ F k e _ _ h
    exact ⟨[], [], .nil, h, F, List.Perm.refl _⟩
  | @val v d ms vs ds S h0 _ ih =>
    intro i σ ρ F k e cv hp h
    cases ρ with
    | nil => exact h.elim
    | cons o ρ =>
      cases e with
      | dead e =>
        obtain ⟨ds', S', h1, h2, T, h3⟩ := ih (i := i + 1) e cv (fun p z => by
          have := (pinsOf_np ms vs (i + 1) p z).1
          have e2 := hp p z
          have e3 : p.1 - i = (p.1 - (i + 1)) + 1 := by omega
          rw [e3] at e2
          simpa using e2) h
        exact ⟨d :: ds', S', .val (cv _ _ h0) h1, h2, T, h3⟩
      | @live v1 d1 σ1 ρ1 S1 F1 r1 e =>
        obtain ⟨ds', S', h1, h2, T, h3⟩ := ih (i := i + 1) e cv (fun p z => by
          have := (pinsOf_np ms vs (i + 1) p z).1
          have e2 := hp p z
          have e3 : p.1 - i = (p.1 - (i + 1)) + 1 := by omega
          rw [e3] at e2
          simpa using e2) h
        refine ⟨d :: ds', S', .val (cv _ _ h0) h1, h2, S1 ++ T, ?_⟩
        refine (List.Perm.append_left S1 h3).trans ?_
        rw [← List.append_assoc, ← List.append_assoc]
        exact List.Perm.append_right _ List.perm_append_comm
  | @ref v d ms vs ds S1 S h0 _ ih =>
    intro i σ ρ F k e cv hp h
    cases ρ with
    | nil => exact h.elim
    | cons o ρ =>
      cases o with
      | none => exact h.elim
      | some d' =>
        cases e with
        | @live v1 d1 σ1 ρ1 S2 F1 r1 e =>
          have hv : v1 = v := by
            have := hp (i, v) (by simp [pinsOf])
            simpa using this
          subst hv
          obtain ⟨ds', S', h1, h2, T, h3⟩ := ih (i := i + 1) e cv (fun p z => by
            have := (pinsOf_np ms vs (i + 1) p z).1
            have e2 := hp p (by simp [pinsOf, z])
            have e3 : p.1 - i = (p.1 - (i + 1)) + 1 := by omega
            rw [e3] at e2
            simpa using e2) h
          refine ⟨d' :: ds', S2 ++ S', .ref r1 h1, h2, T, ?_⟩
          rw [List.append_assoc]
          exact List.Perm.append_left _ h3
theorem arg_of {G0 : Addr → Prop} {pn : List (Nat × V)} {F F' : List Addr} {σ' : L2.St} {ρ' : Env} {H H' : Hp} {ms : List Bool} {vs : List V} {ds : List D} {k : List D → Prop} (a : Arg K ms G0 F vs ds H) (s : Sta K ⟨G0, pinsOf ms vs 0⟩ F' σ' ρ' H') (x : Stp F H F' H') (h : outK ms ds ρ' k) :
    ∃ ds' F'', Arg K ms G0 F'' vs ds' H' ∧ k ds' ∧ (∀ b, b ∈ F'' → b ∈ F') ∧ Stp F H F'' H' := by
  have cvR : ∀ v d, R K (Gof F ⟨G0, []⟩) H [v] [d] [] → R K (Gof F' ⟨G0, pinsOf ms vs 0⟩) H' [v] [d] [] := fun v d r => by
    refine r.mono (C := fun a => a ∈ F) (fun a o e n => x.keep a o e n) (fun b z => ⟨.inl z, a.ra.mem b z⟩) (fun b o e n z => ?_) (fun _ z => absurd z (by simp))
    rcases z with z | z
    · rcases x.fresh b z with q | q
      · exact n (.inl q)
      · rw [e] at q; cases q
    · exact n (.inr z)
  obtain ⟨ds', F'', h1, h2, T, h3⟩ := outK_arg a.ra (i := 0) s.env cvR (fun p z => s.pin p z) h
  have sub : ∀ b, b ∈ F'' → b ∈ F' := fun b z => by
    rw [h3.mem_iff]
    exact List.mem_append_left _ z
  have nd := h3.nodup_iff.mp s.nd
  rw [List.nodup_append] at nd
  refine ⟨ds', F'', ⟨h1.conv fun b o _ n z => n ?_, nd.1, fun b z => s.ap b (sub b z), s.old⟩, h2, sub, ⟨x.keep, fun b z => x.fresh b (sub b z), x.dom⟩⟩
  rcases z with z | z
  · exact .inl (sub b z)
  · exact .inr z
theorem arg_of2 {G0 : Addr → Prop} {S F F' : List Addr} {σ' : L2.St} {ρ' : Env} {H H' : Hp} {ms : List Bool} {vs : List V} {ds : List D} {k : List D → Prop} (a : Arg K ms G0 F vs ds H) (hS : ∀ b ∈ S, H b = none) (s : Sta K (Bg.andS ⟨G0, pinsOf ms vs 0⟩ S) F' σ' ρ' H') (x : Stp F H F' H') (h : outK ms ds ρ' k) :
    ∃ ds' F'', Arg K ms (orS G0 S) F'' vs ds' H' ∧ k ds' ∧ (∀ b, b ∈ F'' → b ∈ F') ∧ Stp F H F'' H' := by
  have cvR : ∀ v d, R K (Gof F ⟨G0, []⟩) H [v] [d] [] → R K (Gof F' (Bg.andS ⟨G0, pinsOf ms vs 0⟩ S)) H' [v] [d] [] := fun v d r => by
    refine r.mono (C := fun a => a ∈ F) (fun a o e n => x.keep a o e n) (fun b z => ⟨.inl z, a.ra.mem b z⟩) (fun b o e n z => ?_) (fun _ z => absurd z (by simp))
    rcases z with z | z | z
    · rcases x.fresh b z with q | q
      · exact n (.inl q)
      · rw [e] at q; cases q
    · exact n (.inr z)
    · have := hS b z
      rw [e] at this; cases this
  obtain ⟨ds', F'', h1, h2, T, h3⟩ := outK_arg a.ra (i := 0) s.env cvR (fun p z => s.pin p z) h
  have sub : ∀ b, b ∈ F'' → b ∈ F' := fun b z => by
    rw [h3.mem_iff]
    exact List.mem_append_left _ z
  have nd := h3.nodup_iff.mp s.nd
  rw [List.nodup_append] at nd
  refine ⟨ds', F'', ⟨h1.conv fun b o _ n z => n ?_, nd.1, fun b z => s.ap b (sub b z), s.old⟩, h2, sub, ⟨x.keep, fun b z => x.fresh b (sub b z), x.dom⟩⟩
  rcases z with z | z
  · exact .inl (sub b z)
  · exact .inr z
theorem okXN {P : Program} {w : World} {K : Frg} {mg : Str → Option Value} {base : Heap} {x qual : Str} {st : Stmt} {f : Addr} {fd : FuncData} {N ps : List Str} {k : Nat} {sp : Sp} (F : Fun K x qual st f fd) (S : FnScope N ps (defScope st)) (len : ∀ vs H Q E, sp vs H Q E → vs.length = ps.length)
    (hbody : ∀ (cdv : Value) (A : Around) (outer : List PySem.Env) (s : Shared) (H : Hp) (vs : List V) (Q : VK) (E : XK), Room k (A.deeper (envOfC qual (defScope st) s.heap.objs.size f cdv)) → sp vs H Q E →
      ∃ t, PSs (cxOf (L2N.CX P w) P w K mg base N qual (defScope st) f cdv A outer s H E) (defBody st) t ∧ t { nx := fun _ H' => Q .non H', rt := Q } (start N vs) H) : FnOk P w K mg base (L2N.CX P w) (k + 1) f fd ps sp := by
  obtain ⟨oc, od, kV, doc, pm, an, cdv, ct, osl, rfl, lk, hcd⟩ := F.ex
  exact fn_of lk hcd S len fun A outer s H vs Q E hr hsp => hbody cdv A outer s H vs Q E hr hsp
theorem body_run {K : Frg} {N ps : List Str} {ms : List Bool} {spec : FS} {ts : TS} {t : MSTy} {vs : List V} {H : Hp} {Q : VK} {E : XK} (hms : ms.length = ps.length) (h2 : SimS K (npOf ms) (fun cls d _ H' => E cls d H') ts t)
    (h3 : ∀ ds q x, ds.length = ms.length → spec ds q x → t (endsOf ms ds q x) (ds.map some ++ List.replicate (N.length - ps.length) none)) (hsp : spOf K ms spec vs H Q E) : ts { nx := fun _ H' => Q .non H', rt := Q } (L2.start N vs) H := by
  obtain ⟨G0, F, ds, q, x', a, hs, hq, hx⟩ := hsp
  have hlv := a.ra.len
  have hld : ds.length = ms.length := by
    have : ∀ {ms vs ds S}, RA K (Gof F ⟨G0, []⟩) H ms vs ds S → ds.length = ms.length := by
      intro ms vs ds S r
      induction r <;> simp_all
    exact this a.ra
  have e0 : Sta K ⟨G0, pinsOf ms vs 0⟩ F (L2.start N vs) (ds.map some ++ List.replicate (N.length - ps.length) none) H := by
    refine ⟨?_, a.nd, a.ap, a.old, fun p hp => ?_⟩
    · unfold L2.start
      rw [show N.length - vs.length = N.length - ps.length by rw [hlv, hms]]
      exact (Mi.E.start a.ra).conv fun b o _ n z => n z
    · obtain ⟨_, _, h⟩ := pinsOf_np ms vs 0 p hp
      unfold L2.start
      simp only [Nat.sub_zero] at h
      have hl : p.1 < vs.length := (List.getElem?_eq_some_iff.mp h).1
      rw [List.getElem?_append_left (by simpa using hl), List.getElem?_map, h]
      rfl
  refine h2 _ F _ _ H _ _ (fun p hp => ?_) e0 (h3 ds q x' hld hs) ?_
  · have := (pinsOf_np ms vs 0 p hp).2.1
    simpa [npOf] using this
  · have fin : ∀ v d S σ' ρ' F' H', Sta K (Bg.andS ⟨G0, pinsOf ms vs 0⟩ S) F' σ' ρ' H' → R K (Gof F' (Bg.andS ⟨G0, pinsOf ms vs 0⟩ S)) H' [v] [d] S → S.Nodup → (∀ a ∈ S, H a = none) → Stp F H F' H' → outK ms ds ρ' (q d) → Q v H' := fun v d S σ' ρ' F' H' s' r' ns hS x1 o => by
      obtain ⟨ds', F'', a', k', sub, x2⟩ := arg_of2 a hS s' x1 o
      refine hq d ds' v S H' F'' a' (r'.conv fun b o _ n z => n ?_) ns hS x2 k'
      rcases z with z | z
      · exact .inl (sub b z)
      · exact .inr z
    refine ⟨fun σ' ρ' F' H' s' x1 o => ?_, fin, fun _ _ _ _ _ _ z => z.elim, fun _ _ _ _ _ _ z => z.elim, fun σ' er ρ' F' H' cls dx s' re x1 o => ?_⟩
    · exact fin .non .non [] σ' ρ' F' H' s'.nilS .non1 (by simp) (fun _ z => absurd z (by simp)) x1 o
    · obtain ⟨ds', F'', a', k', sub, x2⟩ := arg_of (pn := []) a s' x1 o
      refine hx er ds' cls dx H' F'' a' (re.conv fun b o _ n z => n ?_) x2 k'
      rcases z with z | z
      · exact .inl (sub b z)
      · exact .inr z
theorem fn_ok {P : Program} {w : World} {mg : Str → Option Value} {base : Heap} {x qual : Str} {st : Stmt} {f : Addr} {fd : FuncData} {N ps : List Str} {k : Nat} (ms : List Bool) (spec : FS) (Fn : Fun K x qual st f fd) (S : FnScope N ps (defScope st)) (hms : ms.length = ps.length := by rfl)
    (hb : ∀ (cdv : Value) (A : Around) (outer : List PySem.Env) (s : Shared) (H : Hp) (E : XK), Room k (A.deeper (envOfC qual (defScope st) s.heap.objs.size f cdv)) →
      ∃ ts t, PSs (cxOf (L2N.CX P w) P w K mg base N qual (defScope st) f cdv A outer s H E) (defBody st) ts ∧ SimS K (npOf ms) (fun cls d _ H' => E cls d H') ts t ∧
        ∀ ds q x, ds.length = ms.length → spec ds q x → t (endsOf ms ds q x) (ds.map some ++ List.replicate (N.length - ps.length) none)) :
    FnOk P w K mg base (L2N.CX P w) (k + 1) f fd ps (spOf K ms spec) := by
  refine okXN Fn S (spOf_len hms) fun cdv A outer s H vs Q E hr hsp => ?_
  obtain ⟨ts, t, h1, h2, h3⟩ := hb cdv A outer s H E hr
  refine ⟨ts, h1, ?_⟩
  exact body_run hms h2 h3 hsp
end
end Mi
end

-- text MF
section
set_option Elab.async false
set_option linter.all false
set_option maxRecDepth 100000
set_option maxHeartbeats 4000000
/-! MF: what is walked, comprehensions, own lists. -/
namespace Mi
open PySem PySem.Spec PyProof.Rows L2
section
variable {K : Frg} {np : Nat → Bool} {W : WX} {vw vw1 vw2 b b1 b2 b3 : Bool} {te ta tb : TE} {t ma mb : METy} {ts tu : TS} {s u : MSTy} {tt : TT} {mt : MTTy} {tr : TA} {mr : MATy}

/-! ### walks -/
def iAny (K : Frg) (te : TE) : TI := fun σ H R => te σ H fun v H1 => (∃ a, v = .ref a ∧ (∃ xs, SqL K H1 a xs) ∧ R (Itl K a) H1) ∨ (∃ a, v = .ref a ∧ (∃ xs, SqT K H1 a xs) ∧ R (Itt K a) H1) ∨ ∃ x, v = .str x ∧ R (Its x) H1
theorem pi_any {X : Cx} {tg e : Expr} {te : TE} (he : PE X e te) : PI X tg e (iAny X.K te) := by
  refine ⟨fun pins s σ H R I h => ?_⟩
  refine thn (he.run pins s σ H _ I h) fun v s1 ⟨x, H1, I1, r1, q1⟩ => ?_
  rcases q1 with ⟨a, e, ⟨xs, hq⟩, q⟩ | ⟨a, e, ⟨xs, hq⟩, q⟩ | ⟨y, e, q⟩
  · subst e
    cases r1
    obtain ⟨its, rv, p, hz⟩ := I1.list hq
    refine wpAny_pyIter_list p.isList ?_
    refine ⟨s1.heap.objs.size, [s1.heap.objs.size], _, _, H1, rfl, I1.kept (t' := s1.toks) fun b o e => Heap.get?_push_of_some _ e, turn_list a _, ⟨_, Heap.get?_push_size _ rfl, rfl, rfl⟩, fun b hb => ?_, q⟩
    have e : b = s1.heap.objs.size := by simpa using hb
    subst e
    exact I1.fpOk (Nat.le_refl _) (I1.hok.fresh (Nat.le_refl _))
  · subst e
    cases r1
    obtain ⟨its, rv, p, hz⟩ := I1.tuple hq
    refine wpAny_pyIter_tuple (show s1.heap.IsTuple a its.toArray from p) ?_
    refine ⟨s1.heap.objs.size, [s1.heap.objs.size], _, _, H1, rfl, I1.kept (t' := s1.toks) fun b o e => Heap.get?_push_of_some _ e, turn_tuple a _, ⟨_, Heap.get?_push_size _ rfl, rfl, rfl⟩, fun b hb => ?_, q⟩
    have e : b = s1.heap.objs.size := by simpa using hb
    subst e
    exact I1.fpOk (Nat.le_refl _) (I1.hok.fresh (Nat.le_refl _))
  · subst e
    obtain ⟨t, rfl⟩ := r1
    cases ha : y.cps.all (· < 128)
    · exact wpAny_pyIter_wide ha (pi_one (tk := s1.toks) I1 _ (turn_str _ y t "str_iterator" (.inr rfl)) ⟨_, Heap.get?_push_size _ rfl, rfl, rfl⟩ q)
    · exact wpAny_pyIter_ascii ha (pi_one (tk := s1.toks) I1 _ (turn_str _ y t "str_ascii_iterator" (.inl rfl)) ⟨_, Heap.get?_push_size _ rfl, rfl, rfl⟩ q)
/-- the items of what is walked -/
def itemsOf : D → Option (List D)
  | .lst ds => some ds
  | .rol ds => some ds
  | .tup ds => some ds
  | .str a => some (a.map fun c => .str [c])
  | _ => none
def miAny (ma : METy) : MITy := fun ρ q x => ma ρ (fun d ρ1 => match itemsOf d with
  | some ds => q ds ρ1
  | none => False) x
theorem wk_at {B : Bg} {F : List Addr} {σ : L2.St} {ρ : Env} {H : Hp} (s : Sta K B F σ ρ H) {J : It} {ws : List V} {ds : List D} {Gd : Hp → Prop} (w : L2.Walk J ws.length Gd (YAt ws)) (r : R K (Gof F B) H ws ds [])
    (g : ∀ F' H', Stp F H F' H' → Gd H') : Wk K B F H J ds := by
  refine ⟨Gd, YAt ws, by rw [← r.length]; exact w, fun F' H' G' x hG dm => ⟨g F' H' x, fun i v H'' hi y => ?_⟩⟩
  obtain ⟨rfl, hv⟩ := y
  have r' : R K G' H'' ws ds [] := r.mono (C := fun a => a ∈ F) (fun a o e n => x.keep a o e n) (fun a z => ⟨.inl z, s.memF z⟩) hG (fun _ z => absurd z (by simp))
  have hl := r.length
  have hd : ds[i]? = some ds[i] := List.getElem?_eq_getElem hi
  obtain ⟨v', h1, h2⟩ := r'.get0 hd
  rw [hv] at h1; cases h1
  exact ⟨Same.refl _, _, hd, h2⟩
theorem simi_any (ha : Sim K W false b1 ta ma) : SimI K W b1 (iAny K ta) (miAny ma) := by
  intro B F σ ρ H Q q x s h k e
  refine ha B F σ ρ H _ _ x s h (fun v1 d1 ρ1 F1 H1 S1 s1 r1 m1 z1 a1 h1 => ?_) e
  have := z1 rfl; subst this
  split at h1
  · rename_i ds hi
    unfold itemsOf at hi
    split at hi
    · cases hi
      cases r1 with
      | «at» z _ => cases z
      | @lst a ws es _ _ S na q1 q2 q3 =>
        refine .inl ⟨a, rfl, ⟨ws, SqL.of q1⟩, k _ _ ρ1 F1 H1 s1 (wk_at s1 walk_list q2 fun F' H' x => SqL.of (x.keep a _ q1 fun z => na (.inl z))) a1 h1⟩
    · cases hi
      cases r1 with
      | «at» z _ => cases z
      | @rol a ws es _ _ S q1 q2 q3 =>
        have g : ∀ F' H', Stp F1 H1 F' H' → SqL K H' a ws := fun F' H' x => by
          rcases q1 with q1 | ⟨o, q1⟩
          · exact q1 _
          · refine .inl (.inr ⟨o, x.keep a _ q1 fun z => ?_⟩)
            have := s1.memF z
            rw [q1] at this
            exact this
        exact .inl ⟨a, rfl, ⟨ws, g F1 H1 .refl⟩, k _ _ ρ1 F1 H1 s1 (wk_at s1 walk_list q2 g) a1 h1⟩
    · cases hi
      cases r1 with
      | «at» z _ => cases z
      | @tup a ws es _ _ S q1 q2 q3 =>
        have g : ∀ F' H', Stp F1 H1 F' H' → SqT K H' a ws := fun F' H' x => by
          rcases q1 with (q1 | ⟨o, q1⟩) | q1
          · refine .inl (.inl (x.keep a _ q1 fun z => ?_))
            have := s1.memF z
            rw [q1] at this
            exact this
          · refine .inl (.inr ⟨o, x.keep a _ q1 fun z => ?_⟩)
            have := s1.memF z
            rw [q1] at this
            exact this
          · exact .inr q1
        exact .inr (.inl ⟨a, rfl, ⟨ws, g F1 H1 .refl⟩, k _ _ ρ1 F1 H1 s1 (wk_at s1 walk_tup q2 g) a1 h1⟩)
    · rename_i a
      cases hi
      obtain ⟨rfl, hl⟩ := r1.str
      refine .inr (.inr ⟨_, rfl, k _ _ ρ1 F1 H1 s1 ⟨fun _ => True, fun i H v H' => H' = H ∧ ∃ c, a[i]? = some c ∧ v = .str ⟨#[c]⟩, ?_, fun F' H' G' x hG dm => ⟨trivial, fun i v H'' hi y => ?_⟩⟩ a1 h1⟩)
      · have w := walk_str (z := (⟨a.toArray⟩ : Str))
        have e : (⟨a.toArray⟩ : Str).cps.size = (a.map fun c => D.str [c]).length := by simp
        rw [e] at w
        exact w.mono (fun _ h => h) fun i H x H' _ _ y => by simpa using y
      · obtain ⟨rfl, c, hc, rfl⟩ := y
        exact ⟨Same.refl _, .str [c], by simp [hc], .str1 (by rw [line_eq]; exact (by decide : 1 ≤ 16777216))⟩
    · cases hi
  · exact h1.elim
/-- range -/
def rngI (lo : Int) (n : Nat) : List D := (List.range n).map fun (i : Nat) => .int (lo + (i : Int))
def Bd (j : Int) : Prop := -(2 ^ 62) ≤ j ∧ j < 2 ^ 62
def miRng1 (ma : METy) : MITy := fun ρ q x => ma ρ (fun d ρ1 => match d with
  | .int j => Bd j ∧ q (rngI 0 j.toNat) ρ1
  | _ => False) x
def miRng2 (ma mb : METy) : MITy := fun ρ q x => ma ρ (fun d ρ1 => mb ρ1 (fun e ρ2 => match d, e with
  | .int i, .int j => (Bd i ∧ Bd j) ∧ q (rngI i (j - i).toNat) ρ2
  | _, _ => False) x) x
theorem wk_rng {B : Bg} {F : List Addr} {H : Hp} {lo : Int} {n : Nat} : Wk K B F H (Itr lo n) (rngI lo n) := by
  refine ⟨fun _ => True, YFn fun i => .int (lo + i), ?_, fun F' H' G' x hG dm => ⟨trivial, fun i v H'' hi y => ?_⟩⟩
  · have : (rngI lo n).length = n := by simp [rngI]
    rw [this]
    exact walk_range
  · obtain ⟨rfl, rfl⟩ := y
    refine ⟨Same.refl _, .int (lo + i), ?_, .int1⟩
    have : i < n := by simpa [rngI] using hi
    simp [rngI, this]
theorem simi_rng1 (ha : Sim K W vw1 b1 ta ma) : SimI K W b1 (iRng1 (tCons ta tNil)) (miRng1 ma) := by
  intro B F σ ρ H Q q x s h k e
  refine ha B F σ ρ H _ _ x s h (fun v1 d1 ρ1 F1 H1 S1 s1 r1 m1 z1 a1 h1 => ?_) e
  split at h1
  · have := r1.int; subst this
    exact ⟨_, rfl, h1.1.1, h1.1.2, k _ _ ρ1 F1 H1 s1 wk_rng a1 h1.2⟩
  · exact h1.elim
theorem simi_rng2 (ha : Sim K W false b1 ta ma) (hb : Sim K W false b2 tb mb) : SimI K W (b1 && b2) (iRng2 (tCons ta (tCons tb tNil))) (miRng2 ma mb) := by
  intro B F σ ρ H Q q x s h k e
  refine ha B F σ ρ H _ _ x s h (fun v1 d1 ρ1 F1 H1 S1 s1 r1 m1 z1 a1 h1 => ?_) e
  refine hb B F1 σ ρ1 H1 _ _ x s1 h1 (fun v2 d2 ρ2 F2 H2 S2 s2 r2 m2 z2 a2 h2 => ?_) (e.aft a1.stp)
  split at h2
  · have := r1.int; have := r2.int; subst_vars
    exact ⟨_, _, rfl, ⟨h2.1.1.1, h2.1.1.2, h2.1.2.1, h2.1.2.2⟩, k _ _ ρ2 F2 H2 s2 wk_rng (a1.trans a2) h2.2⟩
  · exact h2.elim
def rngC (lo c : Int) (n : Nat) : List D := (List.range n).map fun (i : Nat) => .int (lo + (i : Int) * c)
def miRng3 (ma mb mc : METy) : MITy := fun ρ q x => ma ρ (fun d ρ1 => mb ρ1 (fun e ρ2 => mc ρ2 (fun g ρ3 => match d, e, g with
  | .int i, .int j, .int c => ∃ n, RgC i j c n ∧ q (rngC i c n) ρ3
  | _, _, _ => False) x) x) x
theorem wk_rngC {B : Bg} {F : List Addr} {H : Hp} {lo c : Int} {n : Nat} : Wk K B F H (Itc lo c n) (rngC lo c n) := by
  refine ⟨fun _ => True, YFn fun i => .int (lo + (i : Nat) * c), ?_, fun F' H' G' x hG dm => ⟨trivial, fun i v H'' hi y => ?_⟩⟩
  · have : (rngC lo c n).length = n := by simp [rngC]
    rw [this]
    exact walk_rangeC
  · obtain ⟨rfl, rfl⟩ := y
    refine ⟨Same.refl _, .int (lo + i * c), ?_, .int1⟩
    have : i < n := by simpa [rngC] using hi
    simp [rngC, this]
theorem simi_rng3 {tc : TE} {mc : METy} (ha : Sim K W false b1 ta ma) (hb : Sim K W false b2 tb mb) (hc : Sim K W false b3 tc mc) : SimI K W (b1 && (b2 && b3)) (iRng3 (tCons ta (tCons tb (tCons tc tNil)))) (miRng3 ma mb mc) := by
  intro B F σ ρ H Q q x s h k e
  refine ha B F σ ρ H _ _ x s h (fun v1 d1 ρ1 F1 H1 S1 s1 r1 m1 z1 a1 h1 => ?_) e
  refine hb B F1 σ ρ1 H1 _ _ x s1 h1 (fun v2 d2 ρ2 F2 H2 S2 s2 r2 m2 z2 a2 h2 => ?_) (e.aft a1.stp)
  refine hc B F2 σ ρ2 H2 _ _ x s2 h2 (fun v3 d3 ρ3 F3 H3 S3 s3 r3 m3 z3 a3 h3 => ?_) (e.aft (a1.stp.trans a2.stp))
  split at h3
  · have := r1.int; have := r2.int; have := r3.int; subst_vars
    obtain ⟨n, hn, hq⟩ := h3
    exact ⟨_, _, _, n, rfl, hn, k _ _ ρ3 F3 H3 s3 wk_rngC (a1.trans (a2.trans a3)) hq⟩
  · exact h3.elim
/-- enumerate of a list -/
def pairs (ds : List D) : List D := (List.range ds.length).zipWith (fun (i : Nat) d => .tup [.int (i : Int), d]) ds

/-! ### new lists -/
/-- B with one more object that is not to be touched -/
def Bg.and (B : Bg) (p : Addr) : Bg := ⟨fun a => B.G0 a ∨ a = p, B.pn⟩
def KN (K : Frg) (B : Bg) (b : Bool) (F : List Addr) (σ : L2.St) (ρ : Env) (H : Hp) (Q : VK) (q : List D → Env → Prop) : Prop :=
  ∀ p ws ds ρ' F' H', Sta K (B.and p) F' σ ρ' H' → H' p = some (.lst ws) → ¬ B.G0 p → R K (Gof F' (B.and p)) H' ws ds [] → Aft b F H ρ F' H' ρ' → H p = none → q ds ρ' → Q (.ref p) H'
/-- an expression that gives a new list that nothing else holds -/
def SimN (K : Frg) (W : WX) (b : Bool) (te : TE) (t : MATy) : Prop := ∀ B F σ ρ H Q q x, Sta K B F σ ρ H → t ρ q x → KN K B b F σ ρ H Q q → KX K B W F σ H x → te σ H Q
theorem gof_and {B : Bg} {F : List Addr} {p a : Addr} : Gof F (B.and p) a ↔ (Gof F B a ∨ a = p) := by
  unfold Gof Bg.and
  constructor
  · rintro (h | h | h)
    · exact .inl (.inl h)
    · exact .inl (.inr h)
    · exact .inr h
  · rintro ((h | h) | h)
    · exact .inl h
    · exact .inr (.inl h)
    · exact .inr (.inr h)
/-- p let go again -/
theorem Sta.drop {B : Bg} {F : List Addr} {σ : L2.St} {ρ : Env} {H : Hp} {p : Addr} (s : Sta K (B.and p) F σ ρ H) : Sta K B F σ ρ H :=
  ⟨s.env.conv fun b o _ n z => n (gof_and.mpr (.inl z)), s.nd, fun a z q => s.ap a z (.inl q), fun a z => s.old a (.inl z), s.pin⟩
def mFz (t : MATy) : METy := fun ρ q x => t ρ (fun ds ρ1 => q (.lst ds) ρ1) x
def mOwn (t : MATy) : METy := fun ρ q x => t ρ (fun ds ρ1 => q (.mls ds) ρ1) x
theorem SimN.fz {t : MATy} (h : SimN K W b te t) : Sim K W false b te (mFz t) := by
  intro B F σ ρ H Q q x s hh k e
  refine h B F σ ρ H Q _ x s hh (fun p ws ds ρ' F' H' s' hp np r a _ q' => ?_) e
  refine k _ _ ρ' F' H' [] s'.drop ?_ (by simp) (fun _ => rfl) a q'
  refine .lst (fun z => ?_) hp (r.conv fun b o _ n z => n (gof_and.mpr (.inl z))) .nil
  rcases z with z | z
  · exact s'.ap p z (.inr rfl)
  · exact np z
/-- a new object is laid that is not to be touched -/
theorem Sta.lay {B : Bg} {F : List Addr} {σ : L2.St} {ρ : Env} {H : Hp} {p : Addr} {o : HO} (s : Sta K B F σ ρ H) (hp : H p = none) (mu : Mut (some o)) : Sta K (B.and p) F σ ρ (upd H p o) := by
  have s1 := s.ext (same_upd (o := o) hp)
  have np : ¬ Gof F B p := s.dom.new hp
  refine ⟨s.env.mono (C := fun _ => False) (fun a u e _ => by rw [upd_ne (ne_of_none e hp)]; exact e) (fun _ z => z.elim) (fun a u e n z => ?_) (fun _ _ z => z), s.nd, fun a z q => ?_, fun a z => ?_, s.pin⟩
  · rcases gof_and.mp z with z | z
    · exact n z
    · exact ne_of_none e hp z
  · rcases q with q | q
    · exact s.ap a z q
    · subst q; exact np (.inl z)
  · rcases z with z | z
    · exact s1.old a z
    · subst z
      rw [upd_same]
      exact mu
theorem R.lay {B : Bg} {F : List Addr} {H : Hp} {p : Addr} {o : HO} {ws : List V} {ds : List D} (r : R K (Gof F B) H ws ds []) (hp : H p = none) : R K (Gof F (B.and p)) (upd H p o) ws ds [] := by
  refine r.mono (C := fun _ => False) (fun a u e _ => by rw [upd_ne (ne_of_none e hp)]; exact e) (fun _ z => z.elim) (fun a u e n z => ?_) (fun _ _ z => z)
  rcases gof_and.mp z with z | z
  · exact n z
  · exact ne_of_none e hp z
def mNew (n : Nat) (mr : MATy) : MATy := fun ρ q x => mr ρ (fun ds ρ1 => match ds.length.ble n with
  | true => q ds ρ1
  | false => False) x
theorem simn_lst {tr : TA} {mr : MATy} (n : Nat) (ha : SimA K W false b1 tr mr) (hn : n ≤ 1000 := by decide) : SimN K W b1 (tLst tr) (mNew n mr) := by
  intro B F σ ρ H Q q x s h k e
  refine ha B F σ ρ H _ _ x s h (fun vs ds ρ1 F1 H1 S1 s1 r1 m1 z1 a1 h1 => ?_) e
  have := z1 rfl; subst this
  split at h1
  · rename_i hl
    have := Nat.le_of_ble_eq_true hl
    refine ⟨by rw [r1.length, line_eq]; omega, fun p hp => ?_⟩
    refine k p vs ds ρ1 F1 _ (s1.lay hp trivial) upd_same (fun z => s1.dom.new hp (.inr z)) (r1.lay hp) (a1.ext (same_upd hp)) ?_ h1
    cases e0 : H p with
    | none => rfl
    | some o =>
      obtain ⟨o', e1⟩ := a1.stp.dom p o e0
      rw [hp] at e1; cases e1
  · exact h1.elim
/-- x = [..], the slot's own from now on -/
def mSetM (i : Nat) (t : MATy) : MSTy := fun E ρ => t ρ (fun ds ρ1 => match Nat.blt i ρ1.length with
  | true => E.nx (ρ1.set i (some (.mls ds)))
  | false => False) E.ex
theorem ss_setM {i : Nat} {t : MATy} (h : SimN K W b te t) (hi : np i = false := by rfl) : SimS K np W (tAsg te (gName i)) (mSetM i t) := by
  intro B F σ ρ H D E hp s hh k
  refine h B F σ ρ H _ _ E.ex s hh (fun p ws ds ρ' F' H' s' hpp nB r af hn q' => ?_) (k.ex σ)
  split at q'
  · rename_i hl
    show D.nx (σ.set i (some (.ref p))) H'
    have hl' : i < ρ'.length := by simpa [Nat.blt_eq] using hl
    obtain ⟨S2, e2, S1, pm⟩ := s'.env.kill i
    have hnn : (ρ'.set i none)[i]? = some none := by simp [hl']
    have rp : R K (Gof F' (B.and p)) H' [.ref p] [.mls ds] [p] := by
      have := R.mls hpp r (.nil (K := K) (G := Gof F' (B.and p)) (H := H'))
      simpa using this
    obtain ⟨F2, e3, pm3⟩ := e2.put hnn rp
    rw [List.set_set] at e3
    have nd := pm.nodup_iff.mp s'.nd
    rw [List.nodup_append] at nd
    have sub : ∀ a ∈ S2, a ∈ F' := fun a z => by
      rw [pm.mem_iff]
      exact List.mem_append_right _ z
    have m2 : ∀ a, a ∈ F2 ↔ (a = p ∨ a ∈ S2) := fun a => by
      rw [pm3.mem_iff]; simp
    have np' : p ∉ S2 := fun z => s'.ap p (sub p z) (.inr rfl)
    refine k.nx _ _ F2 H' ⟨e3.conv fun a o _ n z => n ?_, ?_, fun a z => ?_, fun a z => s'.old a (.inl z), fun q hq => ?_⟩ ⟨fun a o e n => ?_, fun a z => ?_, af.stp.dom⟩ q'
    · rcases z with z | z
      · rcases (m2 a).mp z with z | z
        · exact gof_and.mpr (.inr z)
        · exact gof_and.mpr (.inl (.inl (sub a z)))
      · exact gof_and.mpr (.inl (.inr z))
    · rw [pm3.nodup_iff]
      show (p :: S2).Nodup
      exact List.nodup_cons.mpr ⟨np', nd.2.1⟩
    · rcases (m2 a).mp z with z | z
      · subst z; exact nB
      · exact fun q => s'.ap a (sub a z) (.inl q)
    · rw [List.getElem?_set_ne (Ne.symm (np_ne hp hi q hq))]
      exact s'.pin q hq
    · exact af.stp.keep a o e n
    · rcases (m2 a).mp z with z | z
      · subst z; exact .inr hn
      · exact af.stp.fresh a (sub a z)
  · exact q'.elim

theorem SimN.own {t : MATy} (h : SimN K W b te t) : SimW K W b te (mOwn t) := by
  intro B F σ ρ H Q q x s hh k e
  refine h B F σ ρ H Q _ x s hh (fun p ws ds ρ' F' H' s' hp np r a hn q' => ?_) e
  have c : ∀ a, (B.andS [p]).G0 a ↔ (B.and p).G0 a := fun a => by unfold Bg.andS Bg.and; simp
  refine k _ _ [p] ρ' F' H' (s'.congr c rfl) ?_ (by simp) (fun a z => by rw [List.mem_singleton] at z; subst z; exact hn) a q'
  have r1 := R.mls hp r (.nil (K := K) (G := Gof F' (B.and p)) (H := H'))
  have r2 : R K (Gof F' (B.and p)) H' [.ref p] [.mls ds] [p] := by simpa using r1
  exact r2.conv fun a o _ n z => n (by
    rcases z with z | z
    · exact .inl z
    · exact .inr ((c a).mp z))
/-- a new thing, the slot's own from now on -/
def mSetW (i : Nat) (t : METy) : MSTy := fun E ρ => t ρ (fun d ρ1 => match Nat.blt i ρ1.length with
  | true => E.nx (ρ1.set i (some d))
  | false => False) E.ex
theorem ss_setW {i : Nat} {t : METy} (h : SimW K W b te t) (hi : np i = false := by rfl) : SimS K np W (tAsg te (gName i)) (mSetW i t) := by
  intro B F σ ρ H D E hp s hh k
  refine h B F σ ρ H _ _ E.ex s hh (fun v d S ρ' F' H' s' r ns hS af q' => ?_) (k.ex σ)
  split at q'
  · rename_i hl
    show D.nx (σ.set i (some v)) H'
    have hl' : i < ρ'.length := by simpa [Nat.blt_eq] using hl
    obtain ⟨S2, e2, S1, pm⟩ := s'.env.kill i
    have hnn : (ρ'.set i none)[i]? = some none := by simp [hl']
    obtain ⟨F2, e3, pm3⟩ := e2.put hnn r
    rw [List.set_set] at e3
    have nd := pm.nodup_iff.mp s'.nd
    rw [List.nodup_append] at nd
    have sub : ∀ a ∈ S2, a ∈ F' := fun a z => by
      rw [pm.mem_iff]
      exact List.mem_append_right _ z
    have m2 : ∀ a, a ∈ F2 ↔ (a ∈ S ∨ a ∈ S2) := fun a => by
      rw [pm3.mem_iff]; simp
    refine k.nx _ _ F2 H' ⟨e3.conv fun a o _ n z => n ?_, ?_, fun a z => ?_, fun a z => s'.old a (.inl z), fun q hq => ?_⟩ ⟨fun a o e n => ?_, fun a z => ?_, af.stp.dom⟩ q'
    · rcases z with z | z
      · rcases (m2 a).mp z with z | z
        · exact gofS.mpr (.inr z)
        · exact gofS.mpr (.inl (.inl (sub a z)))
      · exact gofS.mpr (.inl (.inr z))
    · rw [pm3.nodup_iff, List.nodup_append]
      exact ⟨ns, nd.2.1, fun x hx y hy e => s'.ap y (sub y hy) (.inr (e ▸ hx))⟩
    · rcases (m2 a).mp z with z | z
      · intro q
        obtain ⟨o, e⟩ := mut_ne (s.old a q)
        rw [hS a z] at e; cases e
      · exact fun q => s'.ap a (sub a z) (.inl q)
    · rw [List.getElem?_set_ne (Ne.symm (np_ne hp hi q hq))]
      exact s'.pin q hq
    · exact af.stp.keep a o e n
    · rcases (m2 a).mp z with z | z
      · exact .inr (hS a z)
      · exact af.stp.fresh a (sub a z)
  · exact q'.elim

/-! ### own lists changed -/
/-- the list of slot i becomes another one: what the rules of append, x[k] = e .. share -/
theorem Sta.change {B : Bg} {F : List Addr} {σ : L2.St} {ρ : Env} {H : Hp} {i : Nat} {ds : List D} (s : Sta K B F σ ρ H) (h : ρ[i]? = some (some (.mls ds))) :
    ∃ p ws S1, σ[i]? = some (some (.ref p)) ∧ H p = some (.lst ws) ∧ R K (Gof F B) H ws ds S1 ∧
      ∀ ws' ds' S2, R K (Gof F B) H ws' ds' S2 → (∀ a ∈ S2, a ∈ S1) → S2.Nodup → ∃ F', Sta K B F' σ (ρ.set i (some (.mls ds'))) (upd H p (.lst ws')) ∧ Stp F H F' (upd H p (.lst ws')) := by
  obtain ⟨v, S0, F1, h1, h2, h3, pm⟩ := s.env.take h
  cases h2 with
  | «at» z _ => cases z
  | @mls p ws es _ _ S1 T q1 q2 q3 =>
    cases q3
    rw [List.append_nil] at pm
    have nd := pm.nodup_iff.mp s.nd
    rw [List.nodup_append] at nd
    obtain ⟨nd1, nd2, nd3⟩ := nd
    have pF : p ∈ F := by rw [pm.mem_iff]; simp
    refine ⟨p, ws, S1, h1, q1, q2, fun ws' ds' S2 r2 sub n2 => ?_⟩
    have pS1 : p ∉ S1 := (List.nodup_cons.mp nd1).1
    have pF1 : p ∉ F1 := fun z => nd3 p (by simp) p z rfl
    have keep : ∀ a o, H a = some o → ¬ (a = p) → upd H p (.lst ws') a = some o := fun a o e n => by rw [upd_ne n]; exact e
    have hC : ∀ a, a = p → Gof F B a ∧ Mut (H a) := fun a e => by subst e; exact ⟨.inl pF, by rw [q1]; trivial⟩
    have e4 : E K (Gof F B) (upd H p (.lst ws')) σ (ρ.set i none) F1 := h3.mono (C := fun a => a = p) keep hC (fun _ _ _ n => n) fun a z e => pF1 (e ▸ z)
    have r4 : R K (Gof F B) (upd H p (.lst ws')) ws' ds' S2 := r2.mono (C := fun a => a = p) keep hC (fun _ _ _ n => n) fun a z e => pS1 (e ▸ sub a z)
    have hl : i < ρ.length := (List.getElem?_eq_some_iff.mp h).1
    have hnn : (ρ.set i none)[i]? = some none := by simp [hl]
    have rp : R K (Gof F B) (upd H p (.lst ws')) [.ref p] [.mls ds'] (p :: S2) := by
      have := R.mls (upd_same (H := H) (a := p) (o := .lst ws')) r4 .nil
      simpa using this
    obtain ⟨F2, e5, pm5⟩ := e4.put hnn rp
    rw [List.set_set] at e5
    have es : σ.set i (some (.ref p)) = σ := by
      apply List.ext_getElem?
      intro j
      by_cases hj : j = i
      · subst hj
        have : j < σ.length := (List.getElem?_eq_some_iff.mp h1).1
        rw [h1]
        simp [this]
      · rw [List.getElem?_set_ne (Ne.symm hj)]
    rw [es] at e5
    have m5 : ∀ a, a ∈ F2 ↔ (a = p ∨ a ∈ S2 ∨ a ∈ F1) := fun a => by rw [pm5.mem_iff]; simp
    have sub2 : ∀ a ∈ F2, a ∈ F := fun a z => by
      rcases (m5 a).mp z with z | z | z
      · subst z; exact pF
      · rw [pm.mem_iff]; simp [sub a z]
      · rw [pm.mem_iff]; simp [z]
    refine ⟨F2, ⟨e5.conv fun a o _ n z => n ?_, ?_, fun a z => s.ap a (sub2 a z), fun a z => ?_, s.pin⟩, ⟨fun a o e n => ?_, fun a z => .inl (sub2 a z), fun a o e => ?_⟩⟩
    · rcases z with z | z
      · exact .inl (sub2 a z)
      · exact .inr z
    · rw [pm5.nodup_iff]
      show (p :: (S2 ++ F1)).Nodup
      refine List.nodup_cons.mpr ⟨fun z => ?_, List.nodup_append.mpr ⟨n2, nd2, fun x hx y hy e => nd3 x (by simp [sub x hx]) y hy e⟩⟩
      rcases List.mem_append.mp z with z | z
      · exact pS1 (sub p z)
      · exact pF1 z
    · by_cases e : a = p
      · subst e; rw [upd_same]; trivial
      · rw [upd_ne e]; exact s.old a z
    · rw [upd_ne (fun z => n (by rw [z]; exact pF))]
      exact e
    · by_cases e2 : a = p
      · subst e2; exact ⟨_, upd_same⟩
      · exact ⟨o, by rw [upd_ne e2]; exact e⟩
theorem R.nd1 {G : Addr → Prop} {H : Hp} {vs ds S} (_ : R K G H vs ds S) (h : S.Nodup) : S.Nodup := h
theorem Sta.nodup_sub {B : Bg} {F : List Addr} {σ : L2.St} {ρ : Env} {H : Hp} {i : Nat} {ds : List D} (s : Sta K B F σ ρ H) (h : ρ[i]? = some (some (.mls ds))) : ∀ {p ws S1}, σ[i]? = some (some (.ref p)) → H p = some (.lst ws) → R K (Gof F B) H ws ds S1 → S1.Nodup := by
  intro p ws S1 h1 h2 r
  obtain ⟨v, S0, F1, k1, k2, k3, pm⟩ := s.env.take h
  rw [h1] at k1; cases k1
  have nd := pm.nodup_iff.mp s.nd
  rw [List.nodup_append] at nd
  cases k2 with
  | «at» z _ => cases z
  | @mls p ws' es _ _ S1' T q1 q2 q3 =>
    rw [h2] at q1; cases q1
    cases q3
    rw [List.append_nil] at nd
    have : ∀ {vs : List V} {ds : List D} {S S' : List Addr}, R K (Gof F B) H vs ds S → R K (Gof F B) H vs ds S' → S = S' := by
      intro vs ds S S' r
      induction r generalizing S' with
      | nil => intro q; cases q; rfl
      | «at» z _ ih =>
        intro q
        cases q with
        | «at» _ q => exact ih q
        | tup _ _ _ => cases z
        | lst _ _ _ _ => cases z
        | rol _ _ _ => cases z
        | mls _ _ _ => cases z
        | fdc _ _ _ _ _ => cases z
        | mdc _ _ _ _ => cases z
        | exc _ _ _ _ _ _ => cases z
        | ins _ _ _ _ _ => cases z
      | tup _ _ _ _ ih =>
        intro q
        cases q with
        | «at» z q => cases z
        | tup _ _ q => exact ih q
      | lst _ _ _ _ _ ih =>
        intro q
        cases q with
        | «at» z q => cases z
        | lst _ _ _ q => exact ih q
      | rol _ _ _ _ ih =>
        intro q
        cases q with
        | «at» z q => cases z
        | rol _ _ q => exact ih q
      | mls h _ _ ih1 ih2 =>
        intro q
        cases q with
        | «at» z q => cases z
        | mls h' q1 q2 =>
          rw [h] at h'; cases h'
          rw [ih1 q1, ih2 q2]
      | fdc _ _ _ _ _ _ ih =>
        intro q
        cases q with
        | «at» z q => cases z
        | fdc _ _ _ _ q => exact ih q
      | mdc h hk _ _ ih1 ih2 =>
        intro q
        cases q with
        | «at» z q => cases z
        | mdc h' hk' q1 q2 =>
          rw [h] at h'; cases h'
          rw [ih1 q1, ih2 q2]
      | exc _ hd h hk _ _ ih1 ih =>
        intro q
        obtain ⟨T1, T2, e, r1, r2⟩ := q.cut _ _ _ _ rfl rfl
        have := r1.fz0 rfl
        subst this
        rw [e, List.nil_append]
        exact ih r2
      | ins h g hk _ _ ih1 ih2 =>
        intro q
        cases q with
        | «at» z q => cases z
        | ins h' g' hk' q1 q2 =>
          rw [h] at h'; cases h'
          rw [ih1 q1, ih2 q2]
    rw [this r q2]
    exact (List.nodup_cons.mp nd.1).2
theorem Sta.own {B : Bg} {F : List Addr} {σ : L2.St} {ρ : Env} {H : Hp} {i : Nat} {ds : List D} (s : Sta K B F σ ρ H) (h : ρ[i]? = some (some (.mls ds))) : ∃ p ws, σ[i]? = some (some (.ref p)) ∧ H p = some (.lst ws) := by
  obtain ⟨v, S1, h1, h2, _⟩ := s.env.get h
  obtain ⟨a, ws, _, rfl, h3, _⟩ := h2.mlsE
  exact ⟨a, ws, h1, h3⟩
/-- x.append(e) -/
def mAppend (i : Nat) (ma : METy) : MSTy := fun E ρ => match ρ[i]? with
  | some (some (.mls _)) => ma ρ (fun d ρ1 => match ρ1[i]? with
    | some (some (.mls ds)) => ds.length < 16777216 ∧ E.nx (ρ1.set i (some (.mls (ds ++ [d]))))
    | _ => False) E.ex
  | _ => False
theorem ss_append {i : Nat} (ha : Sim K W false b1 ta ma) : SimS K np W (tDrop (tBM K "list" rAppend (tVar i) (tCons ta tNil))) (mAppend i ma) := by
  intro B F σ ρ H D E hp s h k
  unfold mAppend at h
  split at h
  · rename_i ds0 e0
    obtain ⟨p, ws0, h1, h2⟩ := s.own e0
    refine ⟨.ref p, h1, .inl ⟨rfl, ws0, SqL.of h2⟩, ?_⟩
    refine ha B F σ ρ H _ _ E.ex s h (fun v1 d1 ρ1 F1 H1 S1 s1 r1 m1 z1 a1 p1 => ?_) (k.ex σ)
    have := z1 rfl; subst this
    split at p1
    · rename_i ds e1
      obtain ⟨p', ws, S2, g1, g2, g3, ch⟩ := s1.change e1
      rw [h1] at g1; cases g1
      have nd := s1.nodup_sub e1 h1 g2 g3
      obtain ⟨F2, s2, st2⟩ := ch (ws ++ [v1]) (ds ++ [d1]) S2 (by have := g3.app r1; rwa [List.append_nil] at this) (fun a z => z) nd
      exact ⟨p, ws, v1, rfl, rfl, g2, by rw [g3.length, line_eq]; exact p1.1, k.nx σ _ F2 _ s2 (a1.stp.trans st2) p1.2⟩
    · exact p1.elim
  · exact h.elim
theorem R.set0 {G : Addr → Prop} {H : Hp} : ∀ {vs ds S}, R K G H vs ds S → ∀ (j : Nat) {v : V} {d : D}, R K G H [v] [d] [] → ∃ S', R K G H (vs.set j v) (ds.set j d) S' ∧ (∀ a ∈ S', a ∈ S) ∧ (S.Nodup → S'.Nodup) := by
  intro vs
  induction vs with
  | nil => intro ds S r j v d _; cases r; exact ⟨[], .nil, fun _ z => z, fun z => z⟩
  | cons w ws ih =>
    intro ds S r j v d q
    cases ds with
    | nil => cases r
    | cons e es =>
      obtain ⟨S1, S2, rfl, r1, r2⟩ := r.uncons
      cases j with
      | zero => exact ⟨S2, q.cons r2, fun a z => List.mem_append_right _ z, fun n => (List.nodup_append.mp n).2.1⟩
      | succ j =>
        obtain ⟨S', h1, h2, h3⟩ := ih r2 j q
        refine ⟨S1 ++ S', r1.cons h1, fun a z => ?_, fun n => ?_⟩
        · rcases List.mem_append.mp z with z | z
          · exact List.mem_append_left _ z
          · exact List.mem_append_right _ (h2 a z)
        · obtain ⟨n1, n2, n3⟩ := List.nodup_append.mp n
          exact List.nodup_append.mpr ⟨n1, h3 n2, fun x hx y hy e => n3 x hx y (h2 y hy) e⟩
/-- x[k] = e -/
def mSetIx (i : Nat) (ma mk : METy) : MSTy := fun E ρ => ma ρ (fun d ρ1 => match ρ1[i]? with
  | some (some (.mls _)) => mk ρ1 (fun j ρ2 => match ρ2[i]? with
    | some (some (.mls ds)) => (match j with
      | .int jj => ∃ n, ixN ds.length jj = some n ∧ E.nx (ρ2.set i (some (.mls (ds.set n d))))
      | _ => False)
    | _ => False) E.ex
  | _ => False) E.ex
theorem ss_setIx {i : Nat} {tk : TE} {mk : METy} (ha : Sim K W false b1 ta ma) (hk : Sim K W false b2 tk mk) : SimS K np W (tAsg ta (gSub (tVar i) tk rSetL)) (mSetIx i ma mk) := by
  intro B F σ ρ H D E hp s h k
  refine ha B F σ ρ H _ _ E.ex s h (fun v1 d1 ρ1 F1 H1 S1 s1 r1 m1 z1 a1 p1 => ?_) (k.ex σ)
  have := z1 rfl; subst this
  split at p1
  · rename_i ds0 e0
    obtain ⟨p, ws0, h1, h2⟩ := s1.own e0
    refine ⟨.ref p, h1, ?_⟩
    refine hk B F1 σ ρ1 H1 _ _ E.ex s1 p1 (fun v2 d2 ρ2 F2 H2 S2 s2 r2 m2 z2 a2 p2 => ?_) ((k.ex σ).aft a1.stp)
    have r1' := r1.aftσ s1 a2.stp
    split at p2
    · rename_i ds e1
      split at p2
      · rename_i jj
        obtain ⟨n, hn, p3⟩ := p2
        have := r2.int; subst this
        obtain ⟨p', ws, S3, g1, g2, g3, ch⟩ := s2.change e1
        rw [h1] at g1; cases g1
        have nd := s2.nodup_sub e1 h1 g2 g3
        obtain ⟨S4, r4, sub4, nd4⟩ := g3.set0 n r1'
        obtain ⟨F3, s3, st3⟩ := ch _ _ S4 r4 sub4 (nd4 nd)
        exact ⟨p, ws, jj, n, rfl, rfl, g2, by rw [g3.length]; exact hn, k.nx σ _ F3 _ s3 ((a1.stp.trans a2.stp).trans st3) p3⟩
      · exact p2.elim
    · exact p2.elim
  · exact p1.elim
/-! ### comprehensions -/
def wipeE : Env → List Nat → Env
  | ρ, [] => ρ
  | ρ, i :: is => (wipeE ρ is).set i none
/-- behind a comprehension: its own names are what they were, if that was frozen -/
def back (ρ ρ0 : Env) : List Nat → Env
  | [] => ρ
  | i :: is => (back ρ ρ0 is).set i (match ρ0[i]? with
    | some (some d) => (match d.fz with
      | true => some d
      | false => none)
    | _ => none)
def mtYes : MTTy := fun ρ q _ => q true ρ
theorem simt_yes : SimT K W true tYes mtYes := fun B F σ ρ H Q q x s h k _ => k true ρ F H s .refl h
def mLc (mi : MITy) (mg : MGTy) (mt : MTTy) (me : METy) (vs : List Nat) : MATy := fun ρ q x => mi ρ (fun ds ρ1 => ∃ I : Nat → List D → Env → Prop, I 0 [] ρ1 ∧
  (∀ (k : Nat) d acc ρ, ds[k]? = some d → I k acc ρ → mg d (wipeE ρ vs) (fun ρ2 => mt ρ2 (fun c ρ3 => (c = true → me ρ3 (fun e ρ4 => I (k + 1) (acc ++ [e]) (back ρ4 ρ vs)) (fun _ _ => False)) ∧ (c = false → I (k + 1) acc (back ρ3 ρ vs))) (fun _ _ => False))) ∧
  ds.length < 16777216 ∧ ∀ acc ρ', I ds.length acc ρ' → q acc ρ') x

theorem wipe_at : ∀ (vs : List Nat) (σ : L2.St) (j : Nat), j ∉ vs → (wipe σ vs)[j]? = σ[j]?
  | [], _, _, _ => rfl
  | v :: vs, σ, j, h => by
    unfold wipe
    rw [List.getElem?_set_ne (fun z => h (by rw [z]; exact List.mem_cons_self))]
    exact wipe_at vs σ j fun z => h (List.mem_cons_of_mem _ z)
theorem wipe_in : ∀ (vs : List Nat) (σ : L2.St) (j : Nat), j ∈ vs → (wipe σ vs)[j]? = if j < σ.length then some none else none
  | [], _, _, h => by simp at h
  | v :: vs, σ, j, h => by
    unfold wipe
    rw [List.getElem?_set, wipe_length]
    by_cases e : v = j
    · subst e
      rw [if_pos rfl]
    · rw [if_neg e]
      rcases List.mem_cons.mp h with z | z
      · exact absurd z.symm e
      · exact wipe_in vs σ j z
theorem wipe_but {vs : List Nat} {σ σ' : L2.St} (h : But vs (wipe σ vs) σ') : wipe σ' vs = wipe σ vs := by
  apply List.ext_getElem?
  intro j
  have hl : σ'.length = σ.length := by rw [h.len, wipe_length]
  by_cases e : j ∈ vs
  · rw [wipe_in vs σ' j e, wipe_in vs σ j e, hl]
  · rw [wipe_at vs σ' j e, wipe_at vs σ j e, h.sl j e, wipe_at vs σ j e]
theorem E.wipe {G : Addr → Prop} {H : Hp} : ∀ (vs : List Nat) {σ ρ F}, E K G H σ ρ F → ∃ F', E K G H (L2.wipe σ vs) (wipeE ρ vs) F' ∧ ∃ T, F.Perm (T ++ F')
  | [], _, _, F, e => ⟨F, e, [], List.Perm.refl _⟩
  | v :: vs, σ, ρ, F, e => by
    obtain ⟨F1, e1, T, pm⟩ := E.wipe vs e
    obtain ⟨F2, e2, T2, pm2⟩ := e1.kill v
    refine ⟨F2, ?_, T ++ T2, ?_⟩
    · unfold L2.wipe wipeE
      by_cases hl : v < (wipeE ρ vs).length
      · exact e2.setV (by simp [hl])
      · have hl2 : (L2.wipe σ vs).length ≤ v := by rw [e1.length]; omega
        rw [List.set_eq_of_length_le hl2]
        exact e2
    · refine pm.trans ?_
      rw [List.append_assoc]
      exact List.Perm.append_left T pm2
/-- the outer slots come back -/
def outer (σ' σ : L2.St) : List Nat → L2.St
  | [] => σ'
  | i :: is => (outer σ' σ is).set i (σ.getD i none)
theorem outer_len (σ' σ : L2.St) : ∀ vs, (outer σ' σ vs).length = σ'.length
  | [] => rfl
  | i :: is => by unfold outer; rw [List.length_set, outer_len σ' σ is]
theorem outer_at (σ' σ : L2.St) (hl : σ'.length = σ.length) : ∀ (vs : List Nat) (j : Nat), (outer σ' σ vs)[j]? = if j ∈ vs then σ[j]? else σ'[j]?
  | [], j => by simp [outer]
  | i :: is, j => by
    unfold outer
    rw [List.getElem?_set, outer_len, outer_at σ' σ hl is j]
    by_cases e : i = j
    · subst e
      rw [if_pos rfl, if_pos (List.mem_cons_self)]
      by_cases h : i < σ.length
      · rw [if_pos (by omega), List.getD_eq_getElem?_getD, List.getElem?_eq_getElem h] <;> rfl
      · rw [if_neg (by omega), List.getElem?_eq_none (by omega)]
    · rw [if_neg e]
      by_cases h : j ∈ is
      · rw [if_pos h, if_pos (List.mem_cons_of_mem _ h)]
      · rw [if_neg h, if_neg (fun z => by rcases List.mem_cons.mp z with z | z; exact e z.symm; exact h z)]
theorem outer_eq {σ' σ : L2.St} {vs : List Nat} (h : But vs (L2.wipe σ vs) σ') : outer σ' σ vs = σ := by
  apply List.ext_getElem?
  intro j
  rw [outer_at σ' σ (by rw [h.len, wipe_length])]
  by_cases e : j ∈ vs
  · rw [if_pos e]
  · rw [if_neg e, h.sl j e, wipe_at vs σ j e]
theorem back_len (ρ ρ0 : Env) : ∀ vs, (back ρ ρ0 vs).length = ρ.length
  | [] => rfl
  | i :: is => by unfold back; rw [List.length_set, back_len ρ ρ0 is]
theorem E.back {G : Addr → Prop} {H : Hp} {σ' σ : L2.St} {ρ ρ0 : Env} (hl : σ'.length = σ.length) (hf : ∀ (i : Nat) d, ρ0[i]? = some (some d) → d.fz = true → ∃ v, σ[i]? = some (some v) ∧ R K G H [v] [d] []) :
    ∀ (vs : List Nat) {F}, E K G H σ' ρ F → ∃ F', E K G H (outer σ' σ vs) (Mi.back ρ ρ0 vs) F' ∧ ∃ T, F.Perm (T ++ F')
  | [], F, e => ⟨F, e, [], List.Perm.refl _⟩
  | i :: is, F, e => by
    obtain ⟨F1, e1, T, pm⟩ := E.back hl hf is e
    obtain ⟨F2, e2, T2, pm2⟩ := e1.kill i
    have pmT : F.Perm ((T ++ T2) ++ F2) := by
      refine pm.trans ?_
      rw [List.append_assoc]
      exact List.Perm.append_left T pm2
    by_cases hi : i < (Mi.back ρ ρ0 is).length
    · have hn : ((Mi.back ρ ρ0 is).set i none)[i]? = some none := by simp [hi]
      have dead : ∃ F', E K G H (outer σ' σ (i :: is)) ((Mi.back ρ ρ0 is).set i none) F' ∧ ∃ T, F.Perm (T ++ F') := ⟨F2, by unfold outer; exact e2.setV hn, _, pmT⟩
      unfold Mi.back
      split
      · rename_i d ed
        split
        · rename_i fz
          obtain ⟨v, hv, rv⟩ := hf i d ed fz
          obtain ⟨F3, e3, pm3⟩ := e2.put hn rv
          rw [List.set_set] at e3
          refine ⟨F3, ?_, T ++ T2, ?_⟩
          · unfold outer
            rw [List.getD_eq_getElem?_getD, hv]
            exact e3
          · rw [List.nil_append] at pm3
            exact pmT.trans (List.Perm.append_left _ pm3.symm)
        · exact dead
      · exact dead
    · have hi2 : (outer σ' σ is).length ≤ i := by rw [e1.length]; omega
      unfold outer Mi.back
      rw [List.set_eq_of_length_le hi2, List.set_eq_of_length_le (by omega)]
      exact ⟨F1, e1, T, pm⟩
def WF : WX := fun _ _ _ _ => False
theorem simn_lc {wi : TI} {mi : MITy} {g : TG} {mg : MGTy} {vs : List Nat} (hi : SimI K W b1 wi mi) (hg : SimG K (fun _ => false) vs g mg) (ht : SimT K WF b2 tt mt) (he : Sim K WF false b3 te t) : SimN K W false (tLc wi g tt te vs) (mLc mi mg mt t vs) := by
  intro B F σ ρ H Q q x s h k e
  refine hi B F σ ρ H _ _ x s h (fun J ds ρ1 F1 H1 s1 wk a1 p1 => ?_) e
  obtain ⟨I, i0, turn, hlen, fin⟩ := p1
  obtain ⟨Gd, Y, w, cy⟩ := wk
  intro D hD
  have hDH : H D = none := by
    cases e0 : H D with
    | none => rfl
    | some o =>
      obtain ⟨o', e1⟩ := a1.stp.dom D o e0
      rw [hD] at e1; cases e1
  have nBD : ¬ B.G0 D := fun z => s1.dom.new hD (.inr z)
  refine L2.lc_it w (fun i H' => ∃ acc ws ρ' F', Sta K (B.and D) F' σ ρ' H' ∧ H' D = some (.lst ws) ∧ R K (Gof F' (B.and D)) H' ws acc [] ∧ acc.length ≤ i ∧ i ≤ ds.length ∧ Stp F1 H1 F' H' ∧ I i acc ρ')
    ⟨[], [], ρ1, F1, s1.lay hD trivial, upd_same, .nil, Nat.le_refl _, Nat.zero_le _, .same (same_upd hD), i0⟩ ?_ ?_ ?_
  · rintro i H' _ ⟨acc, ws, ρ', F', s', _, _, _, _, x', _⟩
    exact (cy F' H' (Gof F' B) x' (gof_stp x') s'.drop.dom).1
  · rintro i v H' H'' hil ⟨acc, ws, ρ', F', s', hDw, ra, hal, _, x', ii⟩ y
    have hGG : ∀ a o, H1 a = some o → ¬ Gof F1 B a → ¬ Gof F' (B.and D) a := fun a o e1 n z => by
      rcases gof_and.mp z with z | z
      · exact gof_stp x' a o e1 n z
      · exact ne_of_none e1 hD z
    obtain ⟨sm, d, hd, rd⟩ := (cy F' H' (Gof F' (B.and D)) x' hGG s'.dom).2 i v H'' hil y
    have s2 := s'.ext sm
    have ra2 := ra.same sm
    have hDw2 := sm D _ hDw
    -- the inner state
    obtain ⟨Fw, ew, T, pmw⟩ := E.wipe vs s2.env
    have ndw := pmw.nodup_iff.mp s2.nd
    rw [List.nodup_append] at ndw
    have subw : ∀ a ∈ Fw, a ∈ F' := fun a z => by rw [pmw.mem_iff]; exact List.mem_append_right _ z
    have cvw : ∀ a o, H'' a = some o → ¬ Gof F' (B.and D) a → ¬ Gof Fw ⟨(B.and D).G0, []⟩ a := fun a o _ n z => by
      rcases z with z | z
      · exact n (.inl (subw a z))
      · exact n (.inr z)
    have sw : Sta K ⟨(B.and D).G0, []⟩ Fw (L2.wipe σ vs) (wipeE ρ' vs) H'' := ⟨ew.conv cvw, ndw.2.1, fun a z => s2.ap a (subw a z), s2.old, fun _ z => absurd z (by simp)⟩
    have tn := turn i d acc ρ' hd ii
    have rdw := rd.conv cvw
    refine hg ⟨(B.and D).G0, []⟩ Fw _ _ H'' v d _ _ (fun _ z => absurd z (by simp)) sw rdw tn fun σ2 ρ2 F2 s3 st2 bu q2 => ?_
    refine ⟨wipe_but bu, ?_⟩
    -- the end of a turn
    have ending : ∀ (ρ4 : Env) (F4 : List Addr) (H4 : Hp) (acc' : List Mi.D), Sta K ⟨(B.and D).G0, []⟩ F4 σ2 ρ4 H4 → Stp F2 H'' F4 H4 → acc'.length ≤ i + 1 → I (i + 1) acc' (Mi.back ρ4 ρ' vs) →
        ∃ ws4 F5, H4 D = some (.lst ws4) ∧ R K (Gof F4 ⟨(B.and D).G0, []⟩) H4 ws4 acc [] ∧ Sta K (B.and D) F5 σ (Mi.back ρ4 ρ' vs) H4 ∧ (∀ a ∈ F5, a ∈ F4) ∧ Stp F1 H1 F5 H4 := fun ρ4 F4 H4 acc' s4 st4 hl4 i4 => by
      have stw : Stp F' H'' Fw H'' := ⟨fun a o e1 _ => e1, fun a z => .inl (subw a z), fun a o e1 => ⟨o, e1⟩⟩
      have stA : Stp F' H'' F4 H4 := stw.trans (st2.trans st4)
      have hD4 : H4 D = some (.lst ws) := by
        refine stA.keep D _ hDw2 fun z => ?_
        exact s2.ap D z (.inr rfl)
      have cv4 : ∀ a o, H'' a = some o → ¬ Gof F' (B.and D) a → ¬ Gof F4 ⟨(B.and D).G0, []⟩ a := fun a o e1 n z => by
        rcases z with z | z
        · rcases stA.fresh a z with q | q
          · exact n (.inl q)
          · rw [e1] at q; cases q
        · exact n (.inr z)
      have carry : ∀ {vs' : List V} {ds' : List Mi.D}, R K (Gof F' (B.and D)) H'' vs' ds' [] → R K (Gof F4 ⟨(B.and D).G0, []⟩) H4 vs' ds' [] := fun {vs' ds'} r =>
        r.mono (C := fun a => a ∈ F') (fun a o e1 n => stA.keep a o e1 n) (fun a z => ⟨.inl z, s2.memF z⟩) cv4 (fun _ z => absurd z (by simp))
      have hl2 : σ2.length = σ.length := by rw [bu.len, wipe_length]
      obtain ⟨F5, e5, T5, pm5⟩ := E.back (K := K) (σ := σ) (ρ0 := ρ') hl2 (fun j d0 ed fz => by
        obtain ⟨v0, S0, g1, g2, _⟩ := s2.env.get ed
        have := g2.fz0 fz; subst this
        exact ⟨v0, g1, carry g2⟩) vs s4.env
      rw [outer_eq bu] at e5
      have nd5 := pm5.nodup_iff.mp s4.nd
      rw [List.nodup_append] at nd5
      have sub5 : ∀ a ∈ F5, a ∈ F4 := fun a z => by rw [pm5.mem_iff]; exact List.mem_append_right _ z
      refine ⟨ws, F5, hD4, carry ra2, ⟨e5.conv fun a o _ n z => n ?_, nd5.2.1, fun a z => s4.ap a (sub5 a z), s4.old, s2.pin⟩, sub5, ?_⟩
      · rcases z with z | z
        · exact .inl (sub5 a z)
        · exact .inr z
      · have := (x'.trans (.same sm)).trans stA
        exact ⟨this.keep, fun a z => this.fresh a (sub5 a z), this.dom⟩
    refine ht ⟨(B.and D).G0, []⟩ F2 σ2 ρ2 H'' _ _ _ s3 q2 (fun c ρ3 F3 H3 s4 a3 p3 => ?_) (fun _ _ _ _ _ _ _ _ _ z => z.elim)
    cases c with
    | true =>
      rw [if_pos rfl]
      refine he ⟨(B.and D).G0, []⟩ F3 σ2 ρ3 H3 _ _ _ s4 (p3.1 rfl) (fun v4 d4 ρ4 F4 H4 S4 s5 r5 m5 z5 a5 q5 => ?_) (fun _ _ _ _ _ _ _ _ _ z => z.elim)
      have := z5 rfl; subst this
      obtain ⟨ws4, F5, h1, h2, h3, h4, h5⟩ := ending ρ4 F4 H4 (acc ++ [d4]) s5 (a3.stp.trans a5.stp) (by rw [List.length_append]; simpa using hal) q5
      have cv5 : ∀ a o, H4 a = some o → ¬ Gof F4 ⟨(B.and D).G0, []⟩ a → ¬ Gof F5 (B.and D) a := fun a o _ n z => by
        rcases z with z | z
        · exact n (.inl (h4 a z))
        · exact n (.inr z)
      have r6 : R K (Gof F5 (B.and D)) H4 (ws4 ++ [v4]) (acc ++ [d4]) [] := by
        have := (h2.app r5).conv cv5
        simpa using this
      have nDF : D ∉ F5 := fun z => h3.ap D z (.inr rfl)
      have keep : ∀ a o, H4 a = some o → ¬ (a = D) → upd H4 D (.lst (ws4 ++ [v4])) a = some o := fun a o e1 n => by rw [upd_ne n]; exact e1
      have hC : ∀ a, a = D → Gof F5 (B.and D) a ∧ Mut (H4 a) := fun a e1 => by subst e1; exact ⟨.inr (.inr rfl), by rw [h1]; trivial⟩
      refine ⟨ws4, h1, by rw [h2.length, line_eq]; omega, acc ++ [d4], ws4 ++ [v4], _, F5, ⟨h3.env.mono (C := fun a => a = D) keep hC (fun _ _ _ n => n) (fun a z e1 => nDF (e1 ▸ z)), h3.nd, h3.ap, fun a z => ?_, h3.pin⟩, upd_same,
        r6.mono (C := fun a => a = D) keep hC (fun _ _ _ n => n) (fun _ z => absurd z (by simp)), by rw [List.length_append]; simpa using hal, hil, ⟨fun a o e1 n => ?_, h5.fresh, fun a o e1 => ?_⟩, q5⟩
      · by_cases e1 : a = D
        · subst e1; rw [upd_same]; trivial
        · rw [upd_ne e1]; exact h3.old a z
      · rw [upd_ne (ne_of_none e1 hD)]
        exact h5.keep a o e1 n
      · rw [upd_ne (ne_of_none e1 hD)]
        exact h5.dom a o e1
    | false =>
      rw [if_neg (by decide)]
      obtain ⟨ws4, F5, h1, h2, h3, h4, h5⟩ := ending ρ3 F3 H3 acc s4 a3.stp (by omega) (p3.2 rfl)
      refine ⟨acc, ws4, _, F5, h3, h1, h2.conv fun a o _ n z => n ?_, by omega, hil, h5, p3.2 rfl⟩
      rcases z with z | z
      · exact .inl (h4 a z)
      · exact .inr z
  · rintro H' ⟨acc, ws, ρ', F', s', hDw, ra, hal, _, x', ii⟩
    exact k D ws acc ρ' F' H' s' hDw nBD ra ⟨a1.stp.trans x', fun z => nomatch z⟩ hDH (fin acc ρ' ii)
end
end Mi
end

-- text MG
section
set_option Elab.async false
set_option linter.all false
set_option maxRecDepth 100000
set_option maxHeartbeats 4000000
/-! MG: defs of the text, the law's end. -/
namespace Mi
open PySem PySem.Spec PyProof.Rows L2
/-- the def x of the text stands -/
def Tx (K : Frg) (mg : Str → Option Value) (x : Str) (st : Stmt) (ps : List Str) : Prop :=
  ∃ f fd, mg x = some (.ref f) ∧ Fun K x x st f fd ∧ ∀ us : List Value, us.length = ps.length → bindArgs fd ⟨us, []⟩ = pure (ps.zip us)
/-- and it keeps its promise -/
def Ok (P : Program) (w : World) (K : Frg) (mg : Str → Option Value) (base : Heap) (x : Str) (st : Stmt) (ps : List Str) (ms : List Bool) (k : Nat) (sp : FS) : Prop :=
  ∃ f fd, mg x = some (.ref f) ∧ PySem.W.keepIn K (.ref f) = true ∧ Binds K fd ps [] ∧ (∀ us : List Value, us.length = ps.length → bindArgs fd ⟨us, []⟩ = pure (ps.zip us)) ∧ FnOk P w K mg base (L2N.CX P w) k f fd ps (spOf K ms sp)
theorem ok_of {P : Program} {w : World} {K : Frg} {mg : Str → Option Value} {base : Heap} {x : Str} {st : Stmt} {ps : List Str} {ms : List Bool} {k : Nat} {sp : FS} (t : Tx K mg x st ps)
    (h : ∀ f fd, Fun K x x st f fd → FnOk P w K mg base (L2N.CX P w) k f fd ps (spOf K ms sp)) : Ok P w K mg base x st ps ms k sp := by
  obtain ⟨f, fd, g, F, b⟩ := t
  exact ⟨f, fd, g, F.kp, .all b, b, h f fd F⟩
theorem Ok.mono {P : Program} {w : World} {K : Frg} {mg : Str → Option Value} {base : Heap} {x : Str} {st : Stmt} {ps : List Str} {ms : List Bool} {k k' : Nat} {sp : FS} (h : Ok P w K mg base x st ps ms k sp) (hk : k ≤ k') : Ok P w K mg base x st ps ms k' sp := by
  obtain ⟨f, fd, g, kp, b, b2, F⟩ := h
  exact ⟨f, fd, g, kp, b, b2, F.mono hk⟩
theorem tx_mk {K : Frg} {mg : Str → Option Value} {h : Heap} (X : K.In h) (G : h.Ns mainGlobals mg) {x : Str} {st : Stmt} {ps : List Str} {f : Addr} {od an : Option Addr} {sl : Array (Option Value)} {oc kV dc pm cd ct : Value}
    (hb : ∀ us : List Value, us.length = ps.length → bindArgs (PySem.W.fnOf x x (defArgs st) (defBody st) (defScope st) .none kV dc pm an cd ct) ⟨us, []⟩ = pure (ps.zip us))
    (a : PySem.W.nsIn K mainGlobals x = some (some (.ref f))) (l : K.lookup f = some ⟨oc, od, .func (PySem.W.fnOf x x (defArgs st) (defBody st) (defScope st) .none kV dc pm an cd ct), sl⟩) (c : PySem.W.codeIn K cd x = true) (k : PySem.W.keepIn K (.ref f) = true) :
    Tx K mg x st ps := ⟨f, _, PySem.W.mg_of X G a, fun_mk l c k, hb⟩
/-- the law's promise: True, whatever the script -/
def spLaw : FS := fun ds q _ => ∃ ns : List Int, ds = [.rol (ns.map D.int)] ∧ ns.length ≤ 63 ∧ q (.bl true) ds
theorem R.ofInts {K : Frg} {G : Addr → Prop} {H : Hp} : ∀ ns : List Int, R K G H (ns.map V.int) (ns.map D.int) []
  | [] => .nil
  | _ :: ns => .at .int (R.ofInts ns)
theorem law_sp {K : Frg} {H : Hp} {a : Addr} {ns : List Int} (hl : ns.length ≤ 63) (ho : Only H) (hs : SqL K H a (ns.map V.int)) : spOf K [false] spLaw [.ref a] H (fun v _ => v = .bl true) fun _ _ _ => False := by
  refine ⟨fun _ => False, [], [.rol (ns.map D.int)], fun d _ => d = .bl true, fun _ _ => False, ⟨.val (.rol ?_ (R.ofInts ns) .nil) .nil, by simp, fun _ z => absurd z (by simp), fun _ z => z.elim⟩, ⟨ns, rfl, hl, rfl⟩, fun d ds' v S H' F' _ r _ _ _ e => ?_, fun _ _ _ _ _ _ _ _ _ z => z.elim⟩
  · rcases hs with (hs | ⟨o, hs⟩) | hs
    · rcases ho a with e | ⟨o, xs, e⟩
      · rw [hs] at e; cases e
      · rw [hs] at e; cases e
    · exact .inr ⟨o, hs⟩
    · exact .inl fun _ => .inr hs
  · subst e
    exact r.bl
theorem law_F {l : PySem.W.OpenLaw} {w : World} {K : Frg} {mg : Str → Option Value} {fa : Addr} {x : Str} {st : Stmt} {k : Nat} (hmg : mg x = some (.ref fa)) (t : Tx K mg x st ["script"])
    (h : ∀ base f fd, Fun K x x st f fd → FnOk l.prog w K mg base (L2N.CX l.prog w) k f fd ["script"] (spOf K [false] spLaw)) :
    ∃ fd : FuncData, (∀ (s : Shared) (u : Value), BindsTo s fd ⟨[u], []⟩ [("script", u)]) ∧ ∀ base : Heap, K.In base → base.Ns mainGlobals mg → FnOk l.prog w K mg base (L2N.CX l.prog w) k fa fd ["script"] (spOf K [false] spLaw) := by
  obtain ⟨f, fd, g, F, b⟩ := t
  rw [g] at hmg; cases hmg
  exact ⟨fd, fun s u => .of_eq (b [u] rfl), fun base _ _ => h base _ fd F⟩
end Mi
namespace Mi
open PySem PySem.Spec PyProof.Rows L2
theorem cx_no {P : Program} {w : World} {H : Hp} {s : Shared} {e : Value} {s' : Shared} (h : L2N.CX P w [] H s (fun _ _ _ => False) e s') : False := by
  obtain ⟨_, _, _, _, _, _, _, _, _, _, _, _, z⟩ := h
  exact z.elim
/-- a mirror keeps its promise: ms tells the parameters that may change, n the further names -/
def WpOk (ms : List Bool) (n : Nat) (sp : FS) (m : MSTy) : Prop := ∀ ds q x, ds.length = ms.length → sp ds q x → m (endsOf ms ds q x) (ds.map some ++ List.replicate n none)
end Mi
namespace Mi
open PySem PySem.Spec PyProof.Rows L2
theorem bd_mk {X : Cx} {body : List Stmt} {K : Frg} {np : Nat → Bool} {W : WX} {ts : TS} {t : MSTy} {C : MSTy → Prop} (h1 : PSs X body ts) (h2 : SimS K np W ts t) (h3 : C t) : ∃ ts t, PSs X body ts ∧ SimS K np W ts t ∧ C t := ⟨ts, t, h1, h2, h3⟩
end Mi
end

-- text MH
section
set_option Elab.async false
set_option linter.all false
set_option maxRecDepth 100000
set_option maxHeartbeats 4000000
/-! MH: further operators: -x, chains, in, [::-1], join. -/
namespace Mi
open PySem PySem.Spec PyProof.Rows L2
section
variable {K : Frg} {np : Nat → Bool} {W : WX} {vw vw1 vw2 vw3 b b1 b2 b3 : Bool} {te ta tb tc : TE} {t ma mb mc : METy} {ts tu : TS} {s u : MSTy} {tt : TT} {mt : MTTy} {tr : TA} {mr : MATy}
def fNeg : D → (D → Prop) → Prop := fun x q => match x with
  | .int i => q (.int (-i))
  | _ => False
theorem us_neg : USim K (rU fun i => .int (-i)) fNeg := by
  intro G H v1 d1 S1 Q q dm r1 h k
  unfold fNeg at h
  split at h
  · have := r1.int; subst this
    exact ⟨_, rfl, k _ _ H (Same.refl _) .int1 h⟩
  · exact h.elim
def fIpAdd : F2 := fI0 fun i j => .int (i + j)
theorem rs_ipadd : RSim K (ipI fun i j => i + j) fIpAdd := rs_I0 (g := fun i j => .int (i + j)) fun _ _ => .int
theorem rs_ipsub : RSim K (ipI fun i j => i - j) fSub := rs_I0 (g := fun i j => .int (i - j)) fun _ _ => .int
theorem sim_chain {r r' : R2} {f g : F2} (hr : RSim K r f) (hr' : RSim K r' g) (ha : Sim K W false b1 ta ma) (hb : Sim K W false b2 tb mb) (hc : Sim K W false b3 tc mc) : Sim K W false (b1 && (b2 && b3)) (tChain r r' ta tb tc) (mChain f g ma mb mc) := by
  intro B F σ ρ H Q q x s h k e
  refine ha B F σ ρ H _ _ x s h (fun v1 d1 ρ1 F1 H1 S1 s1 r1 m1 z1 a1 h1 => ?_) e
  refine hb B F1 σ ρ1 H1 _ _ x s1 h1 (fun v2 d2 ρ2 F2 H2 S2 s2 r2 m2 z2 a2 h2 => ?_) (e.aft a1.stp)
  have := z1 rfl; have := z2 rfl; subst_vars
  refine hr (Gof F2 B) H2 v1 v2 d1 d2 [] [] _ _ s2.dom (r1.aftV s1 a2 (.inl rfl)) r2 h2 fun v d H' sm rv p => ?_
  split at p
  · rename_i c
    have := rv.bl; subst this
    refine ⟨c, rfl, ?_⟩
    cases c with
    | true =>
      rw [if_pos rfl]
      have s3 := s2.ext sm
      have r2' := r2.same sm
      refine hc B F2 σ ρ2 H' _ _ x s3 (p.1 rfl) (fun v3 d3 ρ3 F3 H3 S3 s4 r3 m3 z3 a3 h3 => ?_) (e.aft ((a1.trans a2).ext sm).stp)
      have := z3 rfl; subst this
      refine hr' (Gof F3 B) H3 v2 v3 d2 d3 [] [] _ _ s4.dom (r2'.aftV s3 a3 (.inl rfl)) r3 h3 fun v d H'' sm' r p => ?_
      have aa := (((a1.trans a2).ext sm).trans a3).ext sm'
      exact k v d ρ3 F3 H'' [] (s4.ext sm') r (by simp) (fun _ => rfl) (aa.weak fun z => by rw [Bool.and_assoc]; exact z) p
    | false =>
      rw [if_neg (by decide)]
      refine k _ _ ρ2 F2 H' [] (s2.ext sm) .bl1 (by simp) (fun _ => rfl) (((a1.trans a2).ext sm).weak fun z => ?_) (p.2 rfl)
      simp only [Bool.and_eq_true] at z ⊢
      exact ⟨z.1, z.2.1⟩
  · exact p.elim

/-! ### in -/
/-- a stands in c -/
def isIn (a c : List Nat) : Bool := (List.range (c.length + 1)).any fun i => decide ((c.drop i).take a.length = a)
theorem pre_iff (a l : List Nat) : TL.pre a l = true ↔ l.take a.length = a := by
  unfold TL.pre
  rw [beq_iff_eq]
theorem at_in (x y : List Nat) (hy : y ≠ []) (i : Nat) : StrLaws.At (⟨x.toArray⟩ : Str) ⟨y.toArray⟩ (⟨x.toArray⟩ : Str).length i ↔ (x.drop i).take y.length = y := by
  have tx : TL.tl (⟨x.toArray⟩ : Str) = x := by simp
  have ty : TL.tl (⟨y.toArray⟩ : Str) = y := by simp
  rw [TL.at_iff (by rw [ty]; exact hy), tx, ty, pre_iff]
theorem isIn_iff (a c : List Nat) : isIn a c = true ↔ ∃ i, i ≤ c.length ∧ (c.drop i).take a.length = a := by
  unfold isIn
  rw [List.any_eq_true]
  constructor
  · rintro ⟨i, hi, h⟩
    exact ⟨i, by rw [List.mem_range] at hi; omega, of_decide_eq_true h⟩
  · rintro ⟨i, hi, h⟩
    exact ⟨i, by rw [List.mem_range]; omega, decide_eq_true h⟩
theorem occ_in (x y : List Nat) (hy : y ≠ []) : (!(Builtin.Str.occurrences (⟨x.toArray⟩ : Str) ⟨y.toArray⟩ 0 (⟨x.toArray⟩ : Str).length 1).isEmpty) = isIn y x := by
  have lx : (⟨x.toArray⟩ : Str).length = x.length := str_len x
  rw [StrLaws.occ_eq, Bool.eq_iff_iff, isIn_iff]
  have key := StrLaws.occ_first (⟨x.toArray⟩ : Str) ⟨y.toArray⟩ (⟨x.toArray⟩ : Str).length 1 (Nat.le_refl 1) (List.range' 0 ((⟨x.toArray⟩ : Str).length + 1 - 0)) 0 (fun i hi' => (List.mem_range'_1.mp hi').1)
  rcases key with ⟨h0, hn⟩ | ⟨pr, a, post, e, ha, hat, he⟩
  · rw [h0]
    simp only [List.isEmpty_nil, Bool.not_true, Bool.false_eq_true, false_iff]
    rintro ⟨i, hi, h2⟩
    exact hn i (by rw [List.mem_range'_1, lx]; omega) ((at_in x y hy i).mpr h2)
  · have hm : a ∈ List.range' 0 ((⟨x.toArray⟩ : Str).length + 1 - 0) := by rw [e]; simp
    rw [List.mem_range'_1, lx] at hm
    constructor
    · intro _
      exact ⟨a, by omega, (at_in x y hy a).mp hat⟩
    · intro _
      generalize (forIn (List.range' 0 ((⟨x.toArray⟩ : Str).length + 1 - 0)) ((#[] : Array Nat), 0) (StrLaws.occBody ⟨x.toArray⟩ ⟨y.toArray⟩ (⟨x.toArray⟩ : Str).length 1)).run.fst = A at ha
      cases hA : A.toList with
      | nil =>
        have : A = #[] := by simpa using hA
        subst this
        simp at ha
      | cons p q => rfl
/-- a text in a text -/
def fIn : F2 := fun x y q => match x, y with
  | .str a, .str c => a ≠ [] ∧ q (.bl (isIn a c))
  | _, _ => False
def fNotIn : F2 := fun x y q => match x, y with
  | .str a, .str c => a ≠ [] ∧ q (.bl (!isIn a c))
  | _, _ => False
abbrev rInS : R2 := fun x y H Q => ∃ i j, x = .str i ∧ y = .str j ∧ Q (.bl (!(Builtin.Str.occurrences j i 0 j.length 1).isEmpty)) H
abbrev rNotInS : R2 := fun x y H Q => ∃ i j, x = .str i ∧ y = .str j ∧ Q (.bl (!(!(Builtin.Str.occurrences j i 0 j.length 1).isEmpty))) H
theorem op_inA {X : Cx} : OpR X (compareOp .In) rInS := op_in_str
theorem op_notInA {X : Cx} : OpR X (compareOp .NotIn) rNotInS := op_notin_str
theorem rs_in : RSim K rInS fIn := by
  intro G H v1 v2 d1 d2 S1 S2 Q q dm r1 r2 h k
  unfold fIn at h
  split at h
  · obtain ⟨rfl, e1⟩ := r1.str
    obtain ⟨rfl, e2⟩ := r2.str
    refine ⟨_, _, rfl, rfl, ?_⟩
    rw [occ_in _ _ h.1]
    exact k _ _ H (Same.refl _) .bl1 h.2
  · exact h.elim
theorem rs_notin : RSim K rNotInS fNotIn := by
  intro G H v1 v2 d1 d2 S1 S2 Q q dm r1 r2 h k
  unfold fNotIn at h
  split at h
  · obtain ⟨rfl, e1⟩ := r1.str
    obtain ⟨rfl, e2⟩ := r2.str
    refine ⟨_, _, rfl, rfl, ?_⟩
    rw [occ_in _ _ h.1]
    exact k _ _ H (Same.refl _) .bl1 h.2
  · exact h.elim

/-! ### x[::-1] -/
def tRevA (K : Frg) (te : TE) : TE := fun σ H Q => te σ H fun x H1 => (∃ a xs, x = .ref a ∧ SqL K H1 a xs ∧ ∀ p, H1 p = none → Q (.ref p) (upd H1 p (.lst xs.reverse))) ∨ ∃ z, x = .str z ∧ z.length ≤ sizeLine ∧ Q (.str ⟨z.cps.toList.reverse.toArray⟩) H1
theorem rev_pick (z : Str) : (⟨((Builtin.Str.strSliceIndices none none (-1) z.length).filterMap (z.cps[·]?)).toArray⟩ : Str) = ⟨z.cps.toList.reverse.toArray⟩ := by
  have e : Builtin.Str.strSliceIndices none none (-1) z.length = (List.range z.length).map fun k => z.length - 1 - k := by
    unfold Builtin.Str.strSliceIndices
    exact PySem.W.krv_sliceRange z.length
  rw [e, PySem.W.krv_range, List.filterMap_reverse]
  have := PySem.W.krv_all z.cps
  show (⟨((List.range z.cps.size).filterMap (z.cps[·]?)).reverse.toArray⟩ : Str) = _
  rw [this]
theorem pe_rev {X : Cx} {e : Expr} {te : TE} {k : Nat} {p1 p2 p3 pos : Pos} (he : PE X e te) : PE X (.Subscript e (.Slice none none (some (.UnaryOp .USub (.Constant (.int 1) k p1) p2)) p3) pos) (tRevA X.K te) := by
  refine ⟨fun pins s σ H Q I h => ?_⟩
  refine Subscript_ (thn (he.run pins s σ H _ I h) fun v s1 ⟨x, H1, I1, r1, q1⟩ => ?_)
  have hst : PO X (some (.UnaryOp .USub (.Constant (.int 1) k p1) p2)) (tPart (tUn (rU fun i => .int (-i)) (tC (.int 1)))) := po_some (pe_un un_neg pe_int)
  refine wpAny_Slice (thn (po_none.run pins s1 σ H1 (fun o H2 => o = none ∧ H2 = H1) I1 ⟨rfl, rfl⟩) fun vl s2 ⟨l, H2, I2, pl, el, e2⟩ => ?_)
  subst el e2
  refine thn (po_none.run pins s2 σ H2 (fun o H3 => o = none ∧ H3 = H2) I2 ⟨rfl, rfl⟩) fun vu s3 ⟨u, H3, I3, pu, eu, e3⟩ => ?_
  subst eu e3
  refine thn (hst.run pins s3 σ H3 (fun o H4 => o = some (-1) ∧ H4 = H3) I3 ⟨1, rfl, -1, rfl, rfl, rfl⟩) fun vs s4 ⟨o, H4, I4, ps, eo, e4⟩ => ?_
  subst eo e4
  have I5 : Inv X pins σ H4 { s4 with heap := s4.heap.push { cls := .type "slice", data := .fields #[vl, vu, vs] } } := I4.kept (t' := s4.toks) fun b ob q => Heap.get?_push_of_some _ q
  rcases q1 with ⟨a, xs, ex, hx, q⟩ | ⟨z, ex, hz, q⟩
  · subst ex
    cases r1
    obtain ⟨its, r, ht, hz⟩ := I5.list hx
    have hlen := r.length
    show wpAny (model X.prog X.w) X.A (subscriptTail e (.Slice none none (some (.UnaryOp .USub (.Constant (.int 1) k p1) p2)) p3) (.ref a) (.ref s4.heap.objs.size)) (EP X pins σ Q) X.xe { s4 with heap := s4.heap.push { cls := .type "slice", data := .fields #[vl, vu, vs] } }
    refine tail_any (ops := [.ref a, .ref s4.heap.objs.size]) ht.isList.typeIs (PySem.slot_list_getitem.lookup) ?_ (by with_unfolding_all rfl)
    refine wpAny_getItem_list_slice ht.isList (Heap.IsSliceOf.new _ vl vu vs) pl pu ps (by decide) ?_ (by rw [List.size_toArray]; omega)
    rw [PySem.W.krv_pick]
    refine ⟨.ref _, _, I5.laid (t' := s4.toks) (o := .lst xs.reverse) (fun b ob q => Heap.get?_push_of_some _ q) (Nat.le_refl _) ?_, rfl, q _ (I5.hok.fresh (Nat.le_refl _))⟩
    exact ⟨by rw [List.length_reverse]; exact hz, _, 0, r.reverse, Heap.get?_push_size _ rfl⟩
  · subst ex
    obtain ⟨t, rfl⟩ := r1
    show wpAny (model X.prog X.w) X.A (subscriptTail e (.Slice none none (some (.UnaryOp .USub (.Constant (.int 1) k p1) p2)) p3) (.str z t) (.ref s4.heap.objs.size)) (EP X pins σ Q) X.xe { s4 with heap := s4.heap.push { cls := .type "slice", data := .fields #[vl, vu, vs] } }
    refine tail_any (ops := [.ref s4.heap.objs.size, .str z t]) (typeIs_str _ _ _) (F.slot_str_getitem.lookup) ?_ (by with_unfolding_all rfl)
    obtain ⟨os, hos, hcs, hds⟩ := Heap.IsSliceOf.new s4.heap vl vu vs
    obtain ⟨l, rfl, hl⟩ := IsPart.raw pl
    obtain ⟨u, rfl, hu⟩ := IsPart.raw pu
    obtain ⟨st, rfl, hs⟩ := IsPart.raw ps
    cases l with
    | some _ => cases hl
    | none =>
      cases u with
      | some _ => cases hu
      | none =>
        cases st with
        | none => cases hs
        | some st =>
          obtain ⟨j, tj⟩ := st
          have hj : j = -1 := by
            first
              | (cases hs; rfl)
              | (have := Option.some.inj hs; simpa using this)
          subst hj
          refine wpAny_getItem_str_slice (l := none) (u := none) (st := some (-1, tj)) ⟨os, hos, hcs, hds⟩ rfl ?_
          show Made.post (Made.str ⟨((Builtin.Str.strSliceIndices none none (-1) z.length).filterMap (z.cps[·]?)).toArray⟩) (EP X pins σ Q) _
          rw [rev_pick]
          exact ⟨by show (z.cps.toList.reverse.toArray).size ≤ sizeLine; rw [List.size_toArray, List.length_reverse, Array.length_toList]; exact hz, .str _, H4, I5.tok _, ⟨_, rfl⟩, q⟩
def mRev (ma : METy) : METy := fun ρ q x => ma ρ (fun d ρ1 => match d with
  | .str a => q (.str a.reverse) ρ1
  | .lst ds => q (.lst ds.reverse) ρ1
  | _ => False) x
theorem R.rev {G : Addr → Prop} {H : Hp} : ∀ {ws : List V} {es : List D}, R K G H ws es [] → R K G H ws.reverse es.reverse []
  | [], [], _ => .nil
  | [], _ :: _, r => by cases r
  | _ :: _, [], r => by cases r
  | w :: ws, e :: es, r => by
    obtain ⟨S1, S2, z, r1, r2⟩ := r.uncons
    obtain ⟨z1, z2⟩ := List.append_eq_nil_iff.mp z.symm
    subst z1 z2
    rw [List.reverse_cons, List.reverse_cons]
    exact (R.rev r2).app r1
theorem sim_rev (ha : Sim K W vw1 b1 ta ma) : Sim K W false b1 (tRevA K ta) (mRev ma) := by
  intro B F σ ρ H Q q x s h k e
  refine ha B F σ ρ H _ _ x s h (fun v1 d1 ρ1 F1 H1 S1 s1 r1 m1 z1 a1 h1 => ?_) e
  split at h1
  · obtain ⟨rfl, hl⟩ := r1.str
    refine .inr ⟨_, rfl, by rw [str_len]; exact hl, ?_⟩
    simp only [List.toList_toArray]
    exact k _ _ ρ1 F1 H1 [] s1 (.str1 (by rw [List.length_reverse]; exact hl)) (by simp) (fun _ => rfl) a1 h1
  · obtain ⟨a, ws, rfl, hs, rr⟩ := r1.lstE
    exact .inl ⟨a, ws, rfl, SqL.of hs, fun p hp => k _ _ ρ1 F1 _ [] (s1.ext (same_upd hp)) (.newL s1.dom hp rr.rev) (by simp) (fun _ => rfl) (a1.ext (same_upd hp)) h1⟩
  · exact h1.elim

/-! ### sep.join(xs) -/
def mJoin (mo ma : METy) : METy := fun ρ q x => mo ρ (fun d0 ρ1 => match d0 with
  | .str a => ma ρ1 (fun d ρ2 => ∃ xs : List (List Nat), sq d = some (xs.map D.str) ∧ (xs.map List.length).sum + xs.length * a.length ≤ 16777216 ∧ q (.str (TL.joinL a xs)) ρ2) x
  | _ => False) x
theorem txt_join (a : List Nat) (xs : List (List Nat)) : Txt.join (⟨a.toArray⟩ : Str) (xs.map fun x => (⟨x.toArray⟩ : Str)) = ⟨(TL.joinL a xs).toArray⟩ := by
  have fold : ∀ (ys : List (List Nat)) (c : List Nat), (List.foldl (fun acc (p : Str) => acc ++ (⟨a.toArray⟩ : Str).cps ++ p.cps) c.toArray (ys.map fun x => (⟨x.toArray⟩ : Str))) = (c ++ (ys.map fun y => a ++ y).flatten).toArray := by
    intro ys
    induction ys with
    | nil => intro c; simp
    | cons y ys ih =>
      intro c
      rw [List.map_cons, List.foldl_cons]
      have : c.toArray ++ (⟨a.toArray⟩ : Str).cps ++ (⟨y.toArray⟩ : Str).cps = (c ++ (a ++ y)).toArray := by simp
      rw [this, ih]
      simp
  have jl : ∀ (y : List Nat) (ys : List (List Nat)), TL.joinL a (y :: ys) = y ++ (ys.map fun y => a ++ y).flatten := by
    intro y ys
    induction ys generalizing y with
    | nil => simp [TL.joinL]
    | cons z zs ih =>
      show y ++ (a ++ TL.joinL a (z :: zs)) = _
      rw [ih z]
      simp
  cases xs with
  | nil => rfl
  | cons y ys =>
    rw [jl]
    show (⟨_⟩ : Str) = _
    have := fold ys y
    simp only [List.map_cons, List.headD_cons, List.drop_succ_cons, List.drop_zero]
    rw [this]
theorem R.strs {G : Addr → Prop} {H : Hp} : ∀ {ws : List V} {xs : List (List Nat)} {S}, R K G H ws (xs.map D.str) S → ws = (xs.map fun x => (⟨x.toArray⟩ : Str)).map V.str
  | [], [], _, _ => rfl
  | [], _ :: _, _, r => by cases r
  | _ :: _, [], _, r => by cases r
  | w :: ws, x :: xs, _, r => by
    obtain ⟨S1, S2, z, r1, r2⟩ := r.uncons
    obtain ⟨rfl, _⟩ := r1.str
    rw [R.strs r2]
    rfl
theorem joinL_len (a : List Nat) : ∀ xs : List (List Nat), (TL.joinL a xs).length ≤ (xs.map List.length).sum + xs.length * a.length
  | [] => by simp [TL.joinL]
  | [x] => by simp [TL.joinL]
  | x :: y :: r => by
    have ih := joinL_len a (y :: r)
    show (x ++ (a ++ TL.joinL a (y :: r))).length ≤ _
    rw [List.length_append, List.length_append, List.map_cons, List.sum_cons, List.length_cons, Nat.succ_mul]
    omega
theorem sim_join {to : TE} {mo : METy} (ho : Sim K W vw1 b1 to mo) (ha : Sim K W vw2 b2 ta ma) : Sim K W false (b1 && b2) (tM1 (fun x xs H Q => ∃ a p ys, x = .str a ∧ xs = [.ref p] ∧ (SqL K H p (ys.map V.str) ∨ SqT K H p (ys.map V.str)) ∧
    (ys.map (·.length)).sum + ys.length * a.length ≤ 16777216 ∧ Q (.str (Txt.join a ys)) H) to ta) (mJoin mo ma) := by
  intro B F σ ρ H Q q x s h k e
  refine ho B F σ ρ H _ _ x s h (fun v1 d1 ρ1 F1 H1 S1 s1 r1 m1 z1 a1 h1 => ?_) e
  split at h1
  · rename_i a
    obtain ⟨rfl, hl⟩ := r1.str
    refine ⟨⟨_, rfl⟩, ?_⟩
    refine ha B F1 σ ρ1 H1 _ _ x s1 h1 (fun v2 d2 ρ2 F2 H2 S2 s2 r2 m2 z2 a2 h2 => ?_) (e.aft a1.stp)
    obtain ⟨xs, hd, hsz, hq⟩ := h2
    obtain ⟨p, ws, S3, rfl, hs, rr, _⟩ := r2.sqE hd
    have ew := rr.strs
    subst ew
    refine ⟨_, p, _, rfl, rfl, hs, ?_, ?_⟩
    · rw [List.map_map]
      have : ((fun x : Str => x.length) ∘ fun x : List Nat => (⟨x.toArray⟩ : Str)) = List.length := by
        funext x
        exact str_len x
      rw [this, List.length_map, str_len]
      exact hsz
    · rw [txt_join]
      exact k _ _ ρ2 F2 H2 [] s2 (.str1 (Nat.le_trans (joinL_len a xs) (by rw [line_eq]; exact hsz))) (by simp) (fun _ => rfl) (a1.trans a2) hq
  · exact h1.elim
/-! ### a call without arguments -/
theorem pe_callS0 {X : Cx} {CX : CXT} {k : Nat} {f : Addr} {fd : FuncData} {ps : List Str} {sp : Sp} {E : L2.St → XK} {x : Str} {p pos : Pos} (F : FnOk X.prog X.w X.K X.mg X.base CX k f fd ps sp) (hr : Room k X.A) (hg : Gl X x) (hm : X.mg x = some (.ref f)) (hk : PySem.W.keepIn X.K (.ref f) = true) (hb : Binds X.K fd ps []) (hx : ∀ σ, PassesAt CX X σ (E σ))
    (hdb : (x == ("__debug__" : Str)) = false := by decide) : PE X (.Call (.Name x p) [] [] pos) (tCallS sp E tNil) := by
  refine ⟨fun pins s σ H Q I h => ?_⟩
  refine wpAny_Call_Name_kw (ld_glob I hg hm ?_ hdb)
  exact PySem.W.callWith_K0 I.kIn hk (run_fnS (us := []) F hr hb (hx σ) I .nil h)
end
end Mi
end

-- text MI
section
set_option Elab.async false
set_option linter.all false
set_option maxRecDepth 100000
set_option maxHeartbeats 4000000
/-! MI: enumerate of a list, a tuple, a text. -/
namespace PySem
open Sem (wp)
set_option maxHeartbeats 4000000 in
theorem meets_enumerate_newB1 {v : Value} {o : Obj} {H : Heap → Prop} (B : Begins v o H) :
    Meets (Builtin.«enumerate.__new__» ⟨[.type "enumerate", v], []⟩) (fun _ R s => H s.heap ∧
      R (.ok (.ret (.ref (s.heap.push o).objs.size))) { s with heap := (s.heap.push o).push { cls := .type "enumerate", data := .fields #[.none, .bool false, .ref s.heap.objs.size, rawInt 0, .none, .none] } }) :=
  .of_wp fun prog w A R s h => by
    obtain ⟨hp, g, d, tk, os⟩ := s; obtain ⟨h1, h⟩ := h
    have hsub := sub_enumerate
    have q1 : ∀ {A' : Around} {E : Value → Shared → Prop} {Q : Value → Shared → Prop}, Q (.ref hp.objs.size) ⟨hp.push o, g, d, tk, os⟩ → wpAny (model prog w) A' (pyIter v) Q E ⟨hp, g, d, tk, os⟩ :=
      fun q => B.iter prog w _ _ ⟨hp, g, d, tk, os⟩ _ h1 q
    wp_walk using q1
    refine wpAny_stack_any fun st => wpAny_pure ?_
    split
    · rename_i c _ _ _ _ _
      cases (c == Value.type "enumerate")
      · wp_walk using q1
        exact ⟨_, rfl, h⟩
      · wp_walk using q1
        exact ⟨_, rfl, h⟩
    · wp_walk using q1
      exact ⟨_, rfl, h⟩
section
variable {prog : Program} {w : World} {A : Around} {E : Value → Shared → Prop} {s : Shared}
theorem enum_begins1 {v : Value} {o : Obj} {H : Heap → Prop} {Q : Value → Shared → Prop} (B : Begins v o H) (h1 : H s.heap)
    (h : ∀ h', IsEnum h' (s.heap.objs.size + 1) s.heap.objs.size 0 .none → h'.get? s.heap.objs.size = some o → h'.objs.size = s.heap.objs.size + 2 →
      (∀ b o, s.heap.get? b = some o → h'.get? b = some o) → Q (.ref (s.heap.objs.size + 1)) { s with heap := h' }) :
    wpAny (model prog w) A (call (.type "enumerate") [v]) Q E s := by
  refine callType_new F.called_enumerate (by decide) (F.typeCall_enumerate_1 _) (F.newCall_enumerate_1 _) (fun obj => F.args_object_init_2 obj _) F.entry_enumerate_new
    (meets_enumerate_newB1 B) ⟨h1, ?_⟩
  have hz : (s.heap.push o).objs.size = s.heap.objs.size + 1 := Heap.size_push ..
  show _ ∧ _
  rw [hz]
  have he : IsEnum ((s.heap.push o).push { cls := .type "enumerate", data := .fields #[.none, .bool false, .ref s.heap.objs.size, rawInt 0, .none, .none] }) (s.heap.objs.size + 1) s.heap.objs.size 0 .none := by
    have := Heap.get?_push_size (s.heap.push o) (o := { cls := .type "enumerate", data := .fields #[.none, .bool false, .ref s.heap.objs.size, rawInt 0, .none, .none] }) rfl
    rw [hz] at this; exact this
  refine ⟨⟨_, he, rfl⟩, h _ he (Heap.get?_push_of_some _ (Heap.get?_push_size _ B.free)) (by rw [Heap.size_push, hz]) fun b o x => Heap.get?_push_of_some _ (Heap.get?_push_of_some _ x)⟩
end
end PySem
namespace Mi
open PySem PySem.Spec PyProof.Rows L2
/-- what an inner iterator is: St i of the heap (its own record alone), Sr of the abstract heap (what it draws from), ok: the items -/
structure Inner (P : Program) (w : World) (K : Frg) (it : Addr) (n : Nat) (Sr : Hp → Prop) (Y : Nat → V → Prop) (St : Nat → Heap → Prop) : Prop where
  obj : ∀ i h, St i h → ∃ o, h.get? it = some o ∧ ∀ v, o.data ≠ .cell v
  keep : ∀ i h h', St i h → (∀ o, h.get? it = some o → h'.get? it = some o) → St i h'
  draws : ∀ (X : Cx) (pins : List (Addr × Obj)) (s : Shared) (σ : L2.St) (H : Hp), X.prog = P → X.w = w → X.K = K → X.calm = true → Inv X pins σ H s → Sr H → H it = none → (∃ i, St i s.heap) →
    ∃ (fp : List Addr) (Pv : Nat → Value → Prop) (St' : Nat → Heap → Prop), Draws P w X.A.in1 it fp n Pv St' ∧ (∀ b ∈ fp, b = it ∨ ∃ o, s.heap.get? b = some o ∧ ∀ vs, o.data ≠ .fields vs) ∧ (∀ i, St i s.heap → St' i s.heap) ∧
      (∀ i h, St' i h → St i h) ∧ ∀ i v, i < n → Pv i v → ∃ x, RelV x v ∧ Y i x
def ItE (n : Nat) (Sr : Hp → Prop) (Y : Nat → V → Prop) : It :=
  ⟨fun i H => i < n ∧ Sr H, fun i H v H' => ∃ T x, v = .ref T ∧ H T = none ∧ H' = upd H T (.tup [.int (i : Nat), x]) ∧ Y i x, fun i H => i = n ∧ Sr H⟩
theorem turn_enumA {P : Program} {w : World} {K : Frg} {elts : List Expr} {kk : Nat} {tpos : Pos} {n : Nat} {Sr : Hp → Prop} {Y : Nat → V → Prop} {St : Nat → Heap → Prop} (e it : Addr) (D : Inner P w K it n Sr Y St) :
    Turn P w K (.Tuple elts kk tpos) (ItE n Sr Y) [e, it] e (fun i h => (∃ old, IsEnum h e it ((i : Nat) : Int) old) ∧ St i h ∧ e ≠ it) where
  mem := by simp
  obj := fun i h st b hb => by
    obtain ⟨⟨old, he⟩, hs, _⟩ := st
    have e' : b = e ∨ b = it := by simpa using hb
    rcases e' with z | z
    · rw [z]; exact ⟨_, he, fun v q => nomatch q⟩
    · rw [z]; exact D.obj i h hs
  keep := fun i h h' st k => let ⟨⟨old, he⟩, hi, hne⟩ := st; ⟨⟨old, k e (by simp) _ he⟩, D.keep i h h' hi fun o q => k it (by simp) o q, hne⟩
  item := by
    intro X hP hw hK hc i pins s σ H E I hf st hg
    subst hP hw hK
    obtain ⟨⟨old, he⟩, hit, hne⟩ := st
    obtain ⟨hin, hsr⟩ := hg
    obtain ⟨fp, Pv, St', Dr, hfp, t1, t2, hy⟩ := D.draws X pins s σ H rfl rfl rfl hc I hsr (hf it (by simp)).1 ⟨i, hit⟩
    have hel : e < s.heap.objs.size := Heap.lt_size he
    have hil : it < s.heap.objs.size := by obtain ⟨o, q, _⟩ := D.obj i _ hit; exact Heap.lt_size q
    have hef : e ∉ fp := fun z => by
      rcases hfp e z with q | ⟨o, q, nf⟩
      · exact hne q
      · rw [he] at q; cases q; exact nf _ rfl
    refine wpAny_pyNext_enum_itemD Dr he (t1 i hit) hin hne hef fun x h' tk hx ho hst' hT hsz hk => ?_
    obtain ⟨xv, ru, hyx⟩ := hy i x hin hx
    refine ⟨_, rfl, wpAny_letOwnedTupleGo_enum (s := { s with heap := h', toks := tk + 1 }) ho fun h'' he' sb => ?_⟩
    have hT2 : h''.get? s.heap.objs.size = some { cls := .type "tuple", data := .seq #[.int i tk, x] } := (sb.2 _ (Nat.ne_of_gt hel)).trans hT
    have new : ObjOk X.prog X.w (upd H s.heap.objs.size (.tup [.int (i : Nat), xv])) h'' s.heap.objs.size (.tup [.int (i : Nat), xv]) :=
      ⟨by show 2 ≤ sizeLine; decide, [.int i tk, x], .cons ⟨_, rfl⟩ (.cons ru .nil), ⟨_, hT2, rfl, _, rfl⟩⟩
    have I1 : Inv X pins σ (upd H s.heap.objs.size (.tup [.int (i : Nat), xv])) { s with heap := h'', toks := tk + 1 } :=
      I.turnedNew (ch := [e, it]) (fun b ob hb q => (sb.2 b (fun z => hb (by simp [z]))).trans (hk b ob (fun z => hb (by simp [z])) (fun z => hb (by simp [z])) q)) hf (Nat.le_refl _) new
    refine ⟨.ref s.heap.objs.size, _, I1, rfl, ⟨_, xv, rfl, I.hok.fresh (Nat.le_refl _), rfl, hyx⟩, ⟨⟨x, ?_⟩, D.keep _ _ _ (t2 _ _ hst') fun o q => (sb.2 it (Ne.symm hne)).trans q, hne⟩, fun b hb => ?_⟩
    · have e1 : ((i + 1 : Nat) : Int) = (i : Int) + 1 := by omega
      rw [e1]; exact he'
    · have hb' : b < s.heap.objs.size := by
        have e' : b = e ∨ b = it := by simpa using hb
        rcases e' with z | z
        · rw [z]; exact hel
        · rw [z]; exact hil
      rw [upd_ne (Nat.ne_of_lt hb')]
      exact (hf b hb).1
  done := by
    intro X hP hw hK hc i pins s σ H E I hf st hg
    subst hP hw hK
    obtain ⟨⟨old, he⟩, hit, hne⟩ := st
    obtain ⟨rfl, hsr⟩ := hg
    obtain ⟨fp, Pv, St', Dr, hfp, t1, t2, hy⟩ := D.draws X pins s σ H rfl rfl rfl hc I hsr (hf it (by simp)).1 ⟨_, hit⟩
    obtain ⟨f0, f1, f2, f3, f4, f5⟩ := hf it (by simp)
    exact wpAny_pyNext_enum_endD Dr he (t1 _ hit) fun h' eb => ⟨rfl, I.turned (t' := s.toks) (fun b o hb q => eb b o hb q) f0 f1 f3 f4 f5⟩
  self := fun A i s Q E st h => let ⟨⟨_, he⟩, _⟩ := st; wpAny_pyIter_enum he h
theorem inner_list {P : Program} {w : World} {K : Frg} {it a : Addr} {ws : List V} : Inner P w K it ws.length (fun H => SqL K H a ws) (fun i x => ws[i]? = some x) (fun i h => h.IsListIter it a i) where
  obj := fun i h st => let ⟨o, ho, hc, hd⟩ := st; ⟨o, ho, fun v q => by rw [hd] at q; cases q⟩
  keep := fun i h h' st k => st.at fun o q => k o q
  draws := by
    intro X pins s σ H hP hw hK hc I hs hn ⟨j, hj⟩
    subst hP hw hK
    obtain ⟨its, rv, p, hz⟩ := I.list hs
    obtain ⟨oi, hoi, _, hdi⟩ := hj
    obtain ⟨oa, ha, _, na, hda⟩ := p.isList
    have hne : a ≠ it := fun z => by
      subst z
      rw [ha] at hoi; cases hoi
      rw [hda] at hdi; cases hdi
    have hl : its.toArray.size = ws.length := by rw [List.size_toArray]; exact rv.length.symm
    refine ⟨[it, a], fun i v => its.toArray[i]? = some v, fun i h => h.IsListIter it a i ∧ h.IsList a its.toArray, hl ▸ Draws.list (show X.A.in1.handled = none from I.ok.hd hc) it a hne its.toArray, fun b hb => ?_, fun i h => ⟨h, p.isList⟩, fun i h x => x.1, fun i v hi hv => ?_⟩
    · rcases List.mem_cons.mp hb with z | z
      · exact .inl z
      · rw [List.mem_singleton] at z
        subst z
        exact .inr ⟨oa, ha, fun vs q => by rw [hda] at q; cases q⟩
    · have hx : ws[i]? = some ws[i] := List.getElem?_eq_getElem hi
      obtain ⟨u, hu, ru⟩ := rv.get hx
      have hv' : its[i]? = some v := by simpa using hv
      rw [hv'] at hu; cases hu
      exact ⟨_, ru, hx⟩
theorem inner_tuple {P : Program} {w : World} {K : Frg} {it a : Addr} {ws : List V} : Inner P w K it ws.length (fun H => SqT K H a ws) (fun i x => ws[i]? = some x) (fun i h => h.IsTupleIter it a i) where
  obj := fun i h st => let ⟨o, ho, hc, hd⟩ := st; ⟨o, ho, fun v q => by rw [hd] at q; cases q⟩
  keep := fun i h h' st k => st.at fun o q => k o q
  draws := by
    intro X pins s σ H hP hw hK hc I hs hn ⟨j, hj⟩
    subst hP hw hK
    obtain ⟨its, rv, p, hz⟩ := I.tuple hs
    obtain ⟨oi, hoi, _, hdi⟩ := hj
    obtain ⟨oa, ha, hca, na, hda⟩ := id p
    have hne : a ≠ it := fun z => by
      subst z
      rw [ha] at hoi; cases hoi
      rw [hda] at hdi; cases hdi
    have hl : its.toArray.size = ws.length := by rw [List.size_toArray]; exact rv.length.symm
    refine ⟨[it, a], fun i v => its.toArray[i]? = some v, fun i h => h.IsTupleIter it a i ∧ h.IsTuple a its.toArray, hl ▸ Draws.tuple (show X.A.in1.handled = none from I.ok.hd hc) it a hne its.toArray, fun b hb => ?_, fun i h => ⟨h, p⟩, fun i h x => x.1, fun i v hi hv => ?_⟩
    · rcases List.mem_cons.mp hb with z | z
      · exact .inl z
      · rw [List.mem_singleton] at z
        subst z
        exact .inr ⟨oa, ha, fun vs q => by rw [hda] at q; cases q⟩
    · have hx : ws[i]? = some ws[i] := List.getElem?_eq_getElem hi
      obtain ⟨u, hu, ru⟩ := rv.get hx
      have hv' : its[i]? = some v := by simpa using hv
      rw [hv'] at hu; cases hu
      exact ⟨_, ru, hx⟩
theorem inner_text {P : Program} {w : World} {K : Frg} {it : Addr} {x : Str} {t : Tok} : Inner P w K it x.cps.size (fun _ => True) (fun i v => ∃ c, x.cps[i]? = some c ∧ v = .str ⟨#[c]⟩) (fun i h => h.IsStrIter it (strIterType x) x t i) where
  obj := fun i h st => let ⟨o, ho, hc, hd⟩ := st; ⟨o, ho, fun v q => by rw [hd] at q; cases q⟩
  keep := fun i h h' st k => by
    obtain ⟨o, ho, hc, hd⟩ := st
    exact ⟨o, k o ho, hc, hd⟩
  draws := by
    intro X pins s σ H hP hw hK hc I hs hn _
    subst hP hw hK
    refine ⟨[it], _, _, Draws.text (show X.A.in1.handled = none from I.ok.hd hc) it x t, fun b hb => .inl (by simpa using hb), fun i h => h, fun i h x => x, fun i v hi hv => ?_⟩
    obtain ⟨c, u, h1, rfl⟩ := hv
    exact ⟨.str ⟨#[c]⟩, ⟨u, rfl⟩, c, h1, rfl⟩
theorem walk_enumA {n : Nat} {Sr : Hp → Prop} {Y : Nat → V → Prop} : L2.Walk (ItE n Sr Y) n Sr (fun i H v H' => ∃ T x, v = .ref T ∧ H T = none ∧ H' = upd H T (.tup [.int (i : Nat), x]) ∧ Y i x) :=
  ⟨fun i H hi h => ⟨hi, h⟩, fun H h => ⟨rfl, h⟩, fun i H x H' _ _ y => y⟩
def wEnum (K : Frg) (R : It → Hp → Prop) (v : V) (H1 : Hp) : Prop := (∃ a ws, v = .ref a ∧ SqL K H1 a ws ∧ R (ItE ws.length (fun H => SqL K H a ws) (fun i x => ws[i]? = some x)) H1) ∨
  (∃ a ws, v = .ref a ∧ SqT K H1 a ws ∧ R (ItE ws.length (fun H => SqT K H a ws) (fun i x => ws[i]? = some x)) H1) ∨ ∃ x, v = .str x ∧ R (ItE x.cps.size (fun _ => True) (fun i v => ∃ c, x.cps[i]? = some c ∧ v = .str ⟨#[c]⟩)) H1
def iEnumA (K : Frg) (ta : TA) : TI := fun σ H R => ta σ H fun vs H1 => ∃ v, vs = [v] ∧ wEnum K R v H1
theorem enum_fin {X : Cx} {pins : List (Addr × Obj)} {σ : L2.St} {H1 : Hp} {s1 : Shared} {R : It → Hp → Prop} {elts : List Expr} {kk : Nat} {tpos : Pos} {n : Nat} {Sr : Hp → Prop} {Y : Nat → V → Prop} {St : Nat → Heap → Prop} {v : Value} {o : Obj} {Hh : Heap → Prop} (I1 : Inv X pins σ H1 s1)
    (B : Begins v o Hh) (h1 : Hh s1.heap) (D : Inner X.prog X.w X.K s1.heap.objs.size n Sr Y St) (hst : ∀ h', h'.get? s1.heap.objs.size = some o → St 0 h') (q : R (ItE n Sr Y) H1) :
    wpAny (model X.prog X.w) X.A (call (.type "enumerate") [v]) (fun u s2 => wpAny (model X.prog X.w) X.A (pyIter u) (PIE X pins σ (.Tuple elts kk tpos) R) X.xe s2) X.xe s1 := by
  refine enum_begins1 B h1 fun h' he ho hsz hk => wpAny_pyIter_enum he ?_
  have I2 : Inv X pins σ H1 { s1 with heap := h' } := I1.kept (t' := s1.toks) hk
  refine ⟨s1.heap.objs.size + 1, [s1.heap.objs.size + 1, s1.heap.objs.size], _, _, H1, rfl, I2, turn_enumA (s1.heap.objs.size + 1) s1.heap.objs.size D, ⟨⟨.none, he⟩, hst h' ho, Nat.succ_ne_self _⟩, fun b hb => ?_, q⟩
  have e' : b = s1.heap.objs.size + 1 ∨ b = s1.heap.objs.size := by simpa using hb
  have hle : s1.heap.objs.size ≤ b := by
    rcases e' with z | z
    · rw [z]; exact Nat.le_add_right _ _
    · rw [z]; exact Nat.le_refl _
  exact I1.fpOk hle (I1.hok.fresh hle)
theorem pi_enumA {X : Cx} {e : Expr} {ta : TA} {p pos tpos : Pos} {elts : List Expr} {kk : Nat} (hg : Gl X "enumerate") (hm : X.mg "enumerate" = none) (ha : PA X [e] ta) (hs : starEach [e] X.env = [(false, eval e X.env)] := by rfl) :
    PI X (.Tuple elts kk tpos) (.Call (.Name "enumerate" p) [e] [] pos) (iEnumA X.K ta) := by
  refine ⟨fun pins s σ H R I h => ?_⟩
  refine Call_ (ld_blt I hg hm boot_enumerate (PyProof.Rows.callWith_type1 (thn (ha.run pos pins s σ H _ I h) fun us s1 ⟨vs, H1, I1, r1, q1⟩ => ?_) hs rfl))
  obtain ⟨v, ex, q⟩ := q1
  subst ex
  cases r1 with
  | cons r rr =>
    cases rr
    rcases q with ⟨a, ws, rfl, hq, q⟩ | ⟨a, ws, rfl, hq, q⟩ | ⟨x, rfl, q⟩
    · cases r
      obtain ⟨its, rv, p', hz⟩ := I1.list hq
      exact enum_fin I1 (begins_list a its.toArray) p'.isList inner_list (fun h' ho => ⟨_, ho, rfl, rfl⟩) q
    · cases r
      obtain ⟨its, rv, p', hz⟩ := I1.tuple hq
      exact enum_fin I1 (begins_tuple a its.toArray) p' inner_tuple (fun h' ho => ⟨_, ho, rfl, rfl⟩) q
    · obtain ⟨t, rfl⟩ := r
      exact enum_fin I1 (begins_text x t) trivial inner_text (fun h' ho => ⟨_, ho, rfl, rfl⟩) q
/-- (0, a), (1, b), .. -/
def enumD (ds : List D) : List D := (List.range ds.length).map fun (i : Nat) => .tup [.int (i : Int), ds.getD i .non]
section
variable {K : Frg} {np : Nat → Bool} {W : WX} {b1 : Bool} {ta : TE} {ma : METy}
def miEnum (ma : METy) : MITy := fun ρ q x => ma ρ (fun d ρ1 => match itemsOf d with
  | some ds => q (enumD ds) ρ1
  | none => False) x
theorem wk_enum {B : Bg} {F : List Addr} {σ : L2.St} {ρ : Env} {H : Hp} (s : Sta K B F σ ρ H) {n : Nat} {Sr : Hp → Prop} {Y : Nat → V → Prop} {ds : List D} (hn : ds.length = n) (g : ∀ F' H', Stp F H F' H' → Sr H')
    (hy : ∀ (i : Nat) x F' H' (G' : Addr → Prop), i < n → Y i x → Stp F H F' H' → (∀ a o, H a = some o → ¬ Gof F B a → ¬ G' a) → R K G' H' [x] [ds.getD i .non] []) : Wk K B F H (ItE n Sr Y) (enumD ds) := by
  have hl : (enumD ds).length = n := by simp [enumD, hn]
  refine ⟨Sr, _, by rw [hl]; exact walk_enumA, fun F' H' G' x hG dm => ⟨g F' H' x, fun i v H'' hi y => ?_⟩⟩
  rw [hl] at hi
  obtain ⟨T, xv, rfl, hT, rfl, hyx⟩ := y
  refine ⟨same_upd hT, .tup [.int (i : Nat), ds.getD i .non], ?_, ?_⟩
  · have : i < ds.length := by omega
    simp [enumD, this]
  · have r := hy i xv F' H' G' hi hyx x hG
    exact .newT hT (R.int1.cons0 r)
theorem simi_enum (ha : Sim K W false b1 ta ma) : SimI K W b1 (iEnumA K (tCons ta tNil)) (miEnum ma) := by
  intro B F σ ρ H Q q x s h k e
  refine ha B F σ ρ H _ _ x s h (fun v1 d1 ρ1 F1 H1 S1 s1 r1 m1 z1 a1 h1 => ?_) e
  have := z1 rfl; subst this
  refine ⟨v1, rfl, ?_⟩
  have cy : ∀ {ws : List V} {es : List D}, R K (Gof F1 B) H1 ws es [] → ∀ (i : Nat) x F' H' (G' : Addr → Prop), i < ws.length → ws[i]? = some x → Stp F1 H1 F' H' → (∀ a o, H1 a = some o → ¬ Gof F1 B a → ¬ G' a) → R K G' H' [x] [es.getD i .non] [] := fun {ws es} r i x F' H' G' hi hx st hG => by
    have r' : R K G' H' ws es [] := r.mono (C := fun a => a ∈ F1) (fun a o e n => st.keep a o e n) (fun a z => ⟨.inl z, s1.memF z⟩) hG (fun _ z => absurd z (by simp))
    have hd : es[i]? = some (es.getD i .non) := by
      have : i < es.length := by rw [← r.length]; exact hi
      rw [List.getD_eq_getElem?_getD, List.getElem?_eq_getElem this] <;> rfl
    obtain ⟨v', g1, g2⟩ := r'.get0 hd
    rw [hx] at g1; cases g1
    exact g2
  split at h1
  · rename_i ds hi
    unfold itemsOf at hi
    split at hi
    · cases hi
      obtain ⟨a, ws, rfl, q1, q2⟩ := r1.lstE
      have na : a ∉ F1 := by
        cases r1 with
        | «at» z _ => cases z
        | lst na _ _ _ => exact fun z => na (.inl z)
      exact .inl ⟨a, ws, rfl, SqL.of q1, k _ _ ρ1 F1 H1 s1 (wk_enum s1 q2.length.symm (fun F' H' st => SqL.of (st.keep a _ q1 na)) (cy q2)) a1 h1⟩
    · cases hi
      cases r1 with
      | «at» z _ => cases z
      | @rol a ws es _ _ S q1 q2 q3 =>
        have g : ∀ F' H', Stp F1 H1 F' H' → SqL K H' a ws := fun F' H' x => by
          rcases q1 with q1 | ⟨o, q1⟩
          · exact q1 _
          · refine .inl (.inr ⟨o, x.keep a _ q1 fun z => ?_⟩)
            have := s1.memF z
            rw [q1] at this
            exact this
        exact .inl ⟨a, ws, rfl, g F1 H1 .refl, k _ _ ρ1 F1 H1 s1 (wk_enum s1 q2.length.symm g (cy q2)) a1 h1⟩
    · cases hi
      cases r1 with
      | «at» z _ => cases z
      | @tup a ws es _ _ S q1 q2 q3 =>
        have g : ∀ F' H', Stp F1 H1 F' H' → SqT K H' a ws := fun F' H' x => by
          rcases q1 with (q1 | ⟨o, q1⟩) | q1
          · refine .inl (.inl (x.keep a _ q1 fun z => ?_))
            have := s1.memF z
            rw [q1] at this
            exact this
          · refine .inl (.inr ⟨o, x.keep a _ q1 fun z => ?_⟩)
            have := s1.memF z
            rw [q1] at this
            exact this
          · exact .inr q1
        exact .inr (.inl ⟨a, ws, rfl, g F1 H1 .refl, k _ _ ρ1 F1 H1 s1 (wk_enum s1 q2.length.symm g (cy q2)) a1 h1⟩)
    · rename_i a
      cases hi
      obtain ⟨rfl, hl⟩ := r1.str
      refine .inr (.inr ⟨_, rfl, k _ _ ρ1 F1 H1 s1 (wk_enum s1 (by simp) (fun _ _ _ => trivial) fun i x F' H' G' hi hx st hG => ?_) a1 h1⟩)
      obtain ⟨c, hc, rfl⟩ := hx
      have hc' : a[i]? = some c := by simpa using hc
      have : (a.map fun c => D.str [c]).getD i .non = .str [c] := by
        rw [List.getD_eq_getElem?_getD, List.getElem?_map, hc'] <;> rfl
      rw [this]
      exact .str1 (by rw [line_eq]; exact (by decide : 1 ≤ 16777216))
    · cases hi
  · exact h1.elim
end
end Mi
end

-- text MJ
section
set_option Elab.async false
set_option linter.all false
set_option maxRecDepth 100000
set_option maxHeartbeats 4000000
/-! MJ: words for the plain part: loops and comprehensions over plain data. -/
namespace Mi
open PySem PySem.Spec PyProof.Rows L2
abbrev FE : EK := fun _ _ => False
/-- what a comprehension over ds asks behind its source -/
def LcW (mg : MGTy) (mt : MTTy) (me : METy) (vs : List Nat) (ds : List D) (ρ1 : Env) (q : List D → Env → Prop) : Prop :=
  ∃ I : Nat → List D → Env → Prop, I 0 [] ρ1 ∧
  (∀ (k : Nat) d acc ρ, ds[k]? = some d → I k acc ρ → mg d (wipeE ρ vs) (fun ρ2 => mt ρ2 (fun c ρ3 => (c = true → me ρ3 (fun e ρ4 => I (k + 1) (acc ++ [e]) (back ρ4 ρ vs)) FE) ∧ (c = false → I (k + 1) acc (back ρ3 ρ vs))) FE)) ∧
  ds.length < 16777216 ∧ ∀ acc ρ', I ds.length acc ρ' → q acc ρ'
/-- the slots stand still: a list filtered and mapped -/
theorem lc_pure {mg : MGTy} {mt : MTTy} {me : METy} {vs : List Nat} {ds : List D} {ρ1 : Env} {q : List D → Env → Prop} (g : Nat → Bool) (e : Nat → D)
    (h : ∀ (k : Nat) d, ds[k]? = some d → ∀ (A : D → Env → Prop) (B : Env → Prop), (∀ ρ4, back ρ4 ρ1 vs = ρ1 → g k = true → A (e k) ρ4) → (∀ ρ3, back ρ3 ρ1 vs = ρ1 → g k = false → B ρ3) →
      mg d (wipeE ρ1 vs) (fun ρ2 => mt ρ2 (fun c ρ3 => (c = true → me ρ3 A FE) ∧ (c = false → B ρ3)) FE))
    (hn : ds.length < 16777216) (hq : q (((List.range ds.length).filter g).map e) ρ1) : LcW mg mt me vs ds ρ1 q := by
  refine ⟨fun k acc ρ => ρ = ρ1 ∧ acc = ((List.range k).filter g).map e, ⟨rfl, rfl⟩, ?_, hn, ?_⟩
  · rintro k d acc ρ hd ⟨rfl, rfl⟩
    refine h k d hd _ _ (fun ρ4 hb hg => ⟨hb, ?_⟩) (fun ρ3 hb hg => ⟨hb, ?_⟩)
    · rw [List.range_succ, List.filter_append, List.map_append]
      simp [hg]
    · rw [List.range_succ, List.filter_append, List.map_append]
      simp [hg]
  · rintro acc ρ' ⟨rfl, rfl⟩
    exact hq
theorem lc_rng {mg : MGTy} {mt : MTTy} {me : METy} {vs : List Nat} {lo : Int} {n : Nat} {ρ1 : Env} {q : List D → Env → Prop} (g : Nat → Bool) (e : Nat → D)
    (h : ∀ (k : Nat), k < n → ∀ (A : D → Env → Prop) (B : Env → Prop), (∀ ρ4, back ρ4 ρ1 vs = ρ1 → g k = true → A (e k) ρ4) → (∀ ρ3, back ρ3 ρ1 vs = ρ1 → g k = false → B ρ3) →
      mg (.int (lo + (k : Int))) (wipeE ρ1 vs) (fun ρ2 => mt ρ2 (fun c ρ3 => (c = true → me ρ3 A FE) ∧ (c = false → B ρ3)) FE))
    (hn : n < 16777216) (hq : q (((List.range n).filter g).map e) ρ1) : LcW mg mt me vs (rngI lo n) ρ1 q := by
  have hl : (rngI lo n).length = n := by simp [rngI]
  refine lc_pure g e (fun k d hd A B hA hB => ?_) (by rw [hl]; exact hn) (by rw [hl]; exact hq)
  have hk : k < n := by
    have := (List.getElem?_eq_some_iff.mp hd).1
    omega
  have : d = .int (lo + (k : Int)) := by
    simp [rngI, hk] at hd
    exact hd.symm
  subst this
  exact h k hk A B hA hB
end Mi
namespace Mi
open PySem PySem.Spec PyProof.Rows L2
theorem rng0_get {n k : Nat} {d : D} (h : (rngI 0 n)[k]? = some d) : k < n ∧ d = .int (k : Int) := by
  have hk : k < n := by
    have := (List.getElem?_eq_some_iff.mp h).1
    simpa [rngI] using this
  refine ⟨hk, ?_⟩
  simp [rngI, hk] at h
  exact h.symm
theorem rng_get {lo : Int} {n k : Nat} {d : D} (h : (rngI lo n)[k]? = some d) : k < n ∧ d = .int (lo + (k : Int)) := by
  have hk : k < n := by
    have := (List.getElem?_eq_some_iff.mp h).1
    simpa [rngI] using this
  refine ⟨hk, ?_⟩
  simp [rngI, hk] at h
  exact h.symm
theorem rng_len {lo : Int} {n : Nat} : (rngI lo n).length = n := by simp [rngI]
theorem lc_rng0 {mg : MGTy} {mt : MTTy} {me : METy} {vs : List Nat} {n : Nat} {ρ1 : Env} {q : List D → Env → Prop} (g : Nat → Bool) (e : Nat → D)
    (h : ∀ (k : Nat), k < n → ∀ (A : D → Env → Prop) (B : Env → Prop), (∀ ρ4, back ρ4 ρ1 vs = ρ1 → g k = true → A (e k) ρ4) → (∀ ρ3, back ρ3 ρ1 vs = ρ1 → g k = false → B ρ3) →
      mg (.int (k : Int)) (wipeE ρ1 vs) (fun ρ2 => mt ρ2 (fun c ρ3 => (c = true → me ρ3 A FE) ∧ (c = false → B ρ3)) FE))
    (hn : n < 16777216) (hq : q (((List.range n).filter g).map e) ρ1) : LcW mg mt me vs (rngI 0 n) ρ1 q := by
  refine lc_pure g e (fun k d hd A B hA hB => ?_) (by rw [rng_len]; exact hn) (by rw [rng_len]; exact hq)
  obtain ⟨hk, rfl⟩ := rng0_get hd
  exact h k hk A B hA hB
theorem bd_of {j : Int} (h : -1000000 ≤ j) (h2 : j ≤ 1000000) : Bd j := ⟨by omega, by omega⟩
/-! slices -/
theorem sIx_some {n d : Nat} {i : Int} (h : 0 ≤ i) : HT.sIx n d (some i) = min i.toNat n := by
  show (if i < 0 then (i + n).toNat else min i.toNat n) = _
  rw [if_neg (by omega)]
theorem cutD_int {α : Type} {xs : List α} {i j : Int} (hi : 0 ≤ i) (hj : 0 ≤ j) : cutD xs (some i) (some j) = (xs.take j.toNat).drop i.toNat := by
  unfold cutD
  rw [sIx_some hi, sIx_some hj, List.drop_take]
  by_cases h : i.toNat ≤ xs.length
  · rw [Nat.min_eq_left h]
    by_cases h2 : j.toNat ≤ xs.length
    · rw [Nat.min_eq_left h2]
    · rw [Nat.min_eq_right (by omega), List.take_of_length_le (l := xs.drop i.toNat) (by rw [List.length_drop]; omega), List.take_of_length_le (by rw [List.length_drop]; omega)]
  · rw [show min i.toNat xs.length = xs.length from Nat.min_eq_right (by omega), List.drop_eq_nil_of_le (Nat.le_refl _), List.drop_eq_nil_of_le (i := i.toNat) (by omega)]
    simp
theorem cutD_lo {α : Type} {xs : List α} {i : Int} (hi : 0 ≤ i) : cutD xs (some i) none = xs.drop i.toNat := by
  unfold cutD
  rw [sIx_some hi]
  show (xs.drop (min i.toNat xs.length)).take (xs.length - min i.toNat xs.length) = _
  by_cases h : i.toNat ≤ xs.length
  · rw [Nat.min_eq_left h, List.take_of_length_le (by rw [List.length_drop]; exact Nat.le_refl _)]
  · rw [Nat.min_eq_right (by omega), List.drop_eq_nil_of_le (Nat.le_refl _), List.drop_eq_nil_of_le (by omega)]
    simp
theorem cutD_hi {α : Type} {xs : List α} {j : Int} (hj : 0 ≤ j) : cutD xs none (some j) = xs.take j.toNat := by
  unfold cutD
  rw [sIx_some hj]
  show (xs.drop 0).take (min j.toNat xs.length - 0) = _
  rw [List.drop_zero, Nat.sub_zero]
  by_cases h : j.toNat ≤ xs.length
  · rw [Nat.min_eq_left h]
  · rw [Nat.min_eq_right (by omega), List.take_of_length_le (Nat.le_refl _), List.take_of_length_le (by omega)]
theorem cutD_nn {α : Type} {xs : List α} {i j : Nat} : cutD xs (some (i : Int)) (some (j : Int)) = (xs.take j).drop i := by rw [cutD_int (by omega) (by omega)]; simp
theorem cutD_lon {α : Type} {xs : List α} {i : Nat} : cutD xs (some (i : Int)) none = xs.drop i := by rw [cutD_lo (by omega)]; simp
theorem cutD_hin {α : Type} {xs : List α} {j : Nat} : cutD xs none (some (j : Int)) = xs.take j := by rw [cutD_hi (by omega)]; simp
/-! subscripts -/
theorem atI_nn {α : Type} {xs : List α} {i : Nat} {x : α} (h : xs[i]? = some x) : atI xs (i : Int) = some x := atI_nat h
theorem atI_last' {α : Type} {xs : List α} {x : α} (h : xs.getLast? = some x) : atI xs (-1) = some x := by
  obtain ⟨ys, rfl⟩ : ∃ ys, xs = ys ++ [x] := by
    rw [List.getLast?_eq_some_iff] at h
    exact h
  exact atI_last _ _
end Mi
end

-- text MK
section
set_option Elab.async false
set_option linter.all false
set_option maxRecDepth 100000
set_option maxHeartbeats 4000000
/-! MK: exceptions: raise of an own class, try .. except. -/
namespace Mi
open PySem PySem.Spec PyProof.Rows L2
section
variable {K : Frg} {np : Nat → Bool} {W : WX} {vw vw1 vw2 b b1 b2 b3 : Bool} {te : TE} {ta : TA} {ma : MATy} {me : METy}
/-- a slot is emptied -/
theorem Sta.gone {B : Bg} {F : List Addr} {σ : L2.St} {ρ : Env} {H : Hp} {i : Nat} (s : Sta K B F σ ρ H) (hp : ∀ p ∈ B.pn, p.1 ≠ i) :
    ∃ F', Sta K B F' (σ.set i none) (ρ.set i none) H ∧ Stp F H F' H := by
  obtain ⟨S2, e2, S1, pm⟩ := s.env.kill i
  have e3 : E K (Gof F B) H (σ.set i none) (ρ.set i none) S2 := by
    by_cases hi : i < ρ.length
    · exact e2.setV (by simp [hi])
    · have hs : σ.length ≤ i := by rw [s.len]; omega
      rw [List.set_eq_of_length_le hs]
      exact e2
  have sub : ∀ a ∈ S2, a ∈ F := fun a z => by
    rw [pm.mem_iff]
    exact List.mem_append_right _ z
  have cv : ∀ a o, H a = some o → ¬ Gof F B a → ¬ Gof S2 B a := fun a o _ n z => by
    rcases z with z | z
    · exact n (.inl (sub a z))
    · exact n (.inr z)
  have nd := pm.nodup_iff.mp s.nd
  rw [List.nodup_append] at nd
  refine ⟨S2, ⟨e3.conv cv, nd.2.1, fun a z => s.ap a (sub a z), s.old, fun p hp' => ?_⟩, ⟨fun a o e _ => e, fun a z => .inl (sub a z), fun a o e => ⟨o, e⟩⟩⟩
  rw [List.getElem?_set_ne (Ne.symm (hp p hp'))]
  exact s.pin p hp'

/-- what the text says of a class that a clause names -/
def XCls (K : Frg) (j : Nat) (C : Addr) : Prop := PySem.W.nsIn K mainGlobals (cname j) = some (some (.ref C)) ∧ PySem.W.subIn K (.ref C) (.type "BaseException") = some true ∧ PySem.W.hasDictIn K C = true ∧ PySem.W.typeIn K (.ref C) = some (.type "type") ∧ PySem.W.subIn K (.ref C) (.ref C) = some true
theorem XCls.exm {j k : Nat} {C : Addr} {v : Value} (x : XCls K j C) (g : GoodX K k v) (hj : j < 16) : PySem.W.exmOne K v (.ref C) = some (isSub k j) := by
  obtain ⟨D, rfl, _, _, _, h⟩ := g
  exact PySem.W.exm_ref x.2.1 x.2.2.1 x.2.2.2.1 (h j C hj x.1)
theorem XCls.kit {j k : Nat} {C : Addr} {v : Value} (x : XCls K j C) (g : GoodX K k v) (hj : j < 16) : PySem.W.kitOne K v (.ref C) = some (isSub k j) := by
  have e := x.exm g hj
  unfold PySem.W.exmOne at e
  rw [if_pos (by rw [x.2.1] <;> rfl)] at e
  unfold PySem.W.kitOne
  split
  · rename_i h
    have hv : v = .ref C := by simpa using h
    obtain ⟨D, rfl, g1, _, _, hh⟩ := g
    cases hv
    have e2 := hh j C hj x.1
    unfold PySem.W.kitCls at e
    rw [← e2, x.2.2.2.2]
  · exact e
/-! ### try -/
def mTryAs (j i : Nat) (mb : MSTy) (ms : Xc → MSTy) : MSTy := fun E ρ => mb { E with ex := fun er ρ1 => match isSub er.cls j with
  | true => (match Nat.blt i ρ1.length with
    | true => ∀ c : Xc, ms c { nx := fun ρ2 => E.nx (ρ2.set i none), rt := E.rt, bk := fun ρ2 => E.bk (ρ2.set i none), ct := fun ρ2 => E.ct (ρ2.set i none), ex := fun _ _ => False } (ρ1.set i (some (.exc c er.cls er.fs)))
    | false => False)
  | false => E.ex er ρ1 } ρ
theorem ss_try_as {tb : WX → TS} {ts : Addr → Value → Option Addr → TS} {mb : MSTy} {ms : Xc → MSTy} {C : Addr} {i j : Nat} (hc : XCls K j C) (hb : ∀ W, SimS K np W (tb W) mb) (hs : ∀ c : Xc, SimS K np (fun _ _ _ _ => False) (ts c.a c.v c.d) (ms c))
    (hj : j < 16 := by decide) (hi : np i = false := by rfl) : SimS K np W (fun D σ H => tb (wAs K (.ref C) i ts W D) D σ H) (mTryAs j i mb ms) := by
  intro B F σ ρ H D E hp s h k
  refine hb _ B F σ ρ H D _ hp s h ⟨k.nx, k.rt, k.bk, k.ct, fun σ1 er ρ1 F1 H1 cls dx s1 r1 st hx => ?_⟩
  have pins : ∀ p ∈ B.pn, p.1 ≠ i := fun p z e => by
    have := hp p z
    rw [e, hi] at this
    cases this
  obtain ⟨dd, rfl, g, fv, e1, e2, e3⟩ := r1
  refine ⟨isSub er.cls j, hc.exm g hj, fun e a na => ?_, fun e => ?_⟩
  · have hx : (match isSub er.cls j with
      | true => (match Nat.blt i ρ1.length with
        | true => ∀ c : Xc, ms c { nx := fun ρ2 => E.nx (ρ2.set i none), rt := E.rt, bk := fun ρ2 => E.bk (ρ2.set i none), ct := fun ρ2 => E.ct (ρ2.set i none), ex := fun _ _ => False } (ρ1.set i (some (.exc c er.cls er.fs)))
        | false => False)
      | false => E.ex er ρ1) := hx
    rw [e] at hx
    simp only at hx
    split at hx
    · rename_i hl
      have hl' : i < ρ1.length := Nat.blt_eq.mp hl
      obtain ⟨F2, s2, st2⟩ := s1.store (v := .ref a) (d := .exc ⟨a, some dd, cls⟩ er.cls er.fs) hl' pins (R.exc (c := ⟨a, some dd, cls⟩) g rfl e1 e2 e3 .nil)
      refine hs ⟨a, some dd, cls⟩ B F2 _ _ H1 _ _ hp s2 (hx ⟨a, some dd, cls⟩) ⟨fun σ2 ρ2 F3 H3 s3 st3 e => ?_, fun v d S σ2 ρ2 F3 H3 s3 r3 n3 hS st3 e => ?_, fun σ2 ρ2 F3 H3 s3 st3 e => ?_, fun σ2 ρ2 F3 H3 s3 st3 e => ?_, fun _ _ _ _ _ _ _ _ _ _ z => z.elim⟩
      · obtain ⟨F4, s4, st4⟩ := s3.gone pins
        exact k.nx _ _ F4 H3 s4 ((st.trans st2).trans (st3.trans st4)) e
      · exact k.rt v d S σ2 ρ2 F3 H3 s3 r3 n3 (fun b z => none_back (st.trans st2) (hS b z)) ((st.trans st2).trans st3) e
      · obtain ⟨F4, s4, st4⟩ := s3.gone pins
        exact k.bk _ _ F4 H3 s4 ((st.trans st2).trans (st3.trans st4)) e
      · obtain ⟨F4, s4, st4⟩ := s3.gone pins
        exact k.ct _ _ F4 H3 s4 ((st.trans st2).trans (st3.trans st4)) e
    · exact hx.elim
  · have hx : (match isSub er.cls j with
      | true => (match Nat.blt i ρ1.length with
        | true => ∀ c : Xc, ms c { nx := fun ρ2 => E.nx (ρ2.set i none), rt := E.rt, bk := fun ρ2 => E.bk (ρ2.set i none), ct := fun ρ2 => E.ct (ρ2.set i none), ex := fun _ _ => False } (ρ1.set i (some (.exc c er.cls er.fs)))
        | false => False)
      | false => E.ex er ρ1) := hx
    rw [e] at hx
    exact k.ex σ1 er ρ1 F1 H1 cls (some dd) s1 ⟨dd, rfl, g, fv, e1, e2, e3⟩ st hx
/-- without a name -/
def mTry (j : Nat) (mb ms : MSTy) : MSTy := fun E ρ => mb { E with ex := fun er ρ1 => match isSub er.cls j with
  | true => ms { E with ex := fun _ _ => False } ρ1
  | false => E.ex er ρ1 } ρ
theorem ss_try {tb : WX → TS} {ts : Addr → Value → Option Addr → TS} {mb ms : MSTy} {C : Addr} {j : Nat} (hc : XCls K j C) (hb : ∀ W, SimS K np W (tb W) mb) (hs : ∀ c : Xc, SimS K np (fun _ _ _ _ => False) (ts c.a c.v c.d) ms)
    (hj : j < 16 := by decide) : SimS K np W (fun D σ H => tb (wMany K W D [(.ref C, ts)]) D σ H) (mTry j mb ms) := by
  intro B F σ ρ H D E hp s h k
  refine hb _ B F σ ρ H D _ hp s h ⟨k.nx, k.rt, k.bk, k.ct, fun σ1 er ρ1 F1 H1 cls dx s1 r1 st hx => ?_⟩
  obtain ⟨dd, rfl, g, fv, e1, e2, e3⟩ := r1
  have hx : (match isSub er.cls j with
    | true => ms { E with ex := fun _ _ => False } ρ1
    | false => E.ex er ρ1) := hx
  refine ⟨isSub er.cls j, hc.exm g hj, fun e a na => ?_, fun e => ?_⟩
  · rw [e] at hx
    have k' := k.aft st
    exact hs ⟨a, some dd, cls⟩ B F1 σ1 ρ1 H1 D _ hp s1 hx ⟨k'.nx, k'.rt, k'.bk, k'.ct, fun _ _ _ _ _ _ _ _ _ _ z => z.elim⟩
  · rw [e] at hx
    exact k.ex σ1 er ρ1 F1 H1 cls (some dd) s1 ⟨dd, rfl, g, fv, e1, e2, e3⟩ st hx
/-! ### raise C(e, ..) -/
/-- the promise of an __init__ that stores its parameters -/
def spI2 (K : Frg) (f1 f2 : Str) : Sp := fun vs H Q _ => ∃ (a C : Addr) (x y : V), vs = [.ref a, x, y] ∧ OexC K C ∧ PySem.W.findIn K (.ref C) f1 = some none ∧ PySem.W.findIn K (.ref C) f2 = some none ∧ H a = some (exo a C none) ∧
  ∀ d, H d = none → d ≠ a → Q .non (upd (upd (upd H d (exd d [(f1, x)])) a (exo a C (some d))) d (exd d [(f2, y), (f1, x)]))
def spI1 (K : Frg) (f1 : Str) : Sp := fun vs H Q _ => ∃ (a C : Addr) (x : V), vs = [.ref a, x] ∧ OexC K C ∧ PySem.W.findIn K (.ref C) f1 = some none ∧ H a = some (exo a C none) ∧
  ∀ d, H d = none → d ≠ a → Q .non (upd (upd H d (exd d [(f1, x)])) a (exo a C (some d)))
section
variable {P : Program} {w : World} {mg : Str → Option Value} {base : Heap}
theorem xinit2 {qual n0 f1 f2 : Str} {st : Stmt} {f : Addr} {fd : FuncData} (Fn : Fun K "__init__" qual st f fd) (S : FnScope [n0, f1, f2] [n0, f1, f2] (defScope st))
    (hb : ∀ (cdv : Value) (A : Around) (outer : List PySem.Env) (s : Shared) (H : Hp) (E : XK), PSs (cxOf (L2N.CX P w) P w K mg base [n0, f1, f2] qual (defScope st) f cdv A outer s H E) (defBody st) (tSeq (tOst K f1 (tVar 0) (tVar 1)) (tOst K f2 (tVar 0) (tVar 2)))) :
    FnOk P w K mg base (L2N.CX P w) 1 f fd [n0, f1, f2] (spI2 K f1 f2) := by
  refine okXN Fn S (fun vs H Q E h => ?_) fun cdv A outer s H vs Q E hr hsp => ⟨_, hb cdv A outer s H E, ?_⟩
  · obtain ⟨a, C, x, y, rfl, _⟩ := h
    rfl
  · obtain ⟨a, C, x, y, rfl, T, h1, h2, ea, hq⟩ := hsp
    refine ⟨x, rfl, .ref a, rfl, a, C, rfl, T, h1, .inl ⟨ea, fun d nd da => ?_⟩⟩
    refine ⟨y, rfl, .ref a, rfl, a, C, rfl, T, h2, .inr ⟨d, [(f1, x)], upd_same, ?_, by simp, hq d nd da⟩⟩
    rw [upd_ne da, upd_same]
theorem xinit1 {qual n0 f1 : Str} {st : Stmt} {f : Addr} {fd : FuncData} (Fn : Fun K "__init__" qual st f fd) (S : FnScope [n0, f1] [n0, f1] (defScope st))
    (hb : ∀ (cdv : Value) (A : Around) (outer : List PySem.Env) (s : Shared) (H : Hp) (E : XK), PSs (cxOf (L2N.CX P w) P w K mg base [n0, f1] qual (defScope st) f cdv A outer s H E) (defBody st) (tOst K f1 (tVar 0) (tVar 1))) :
    FnOk P w K mg base (L2N.CX P w) 1 f fd [n0, f1] (spI1 K f1) := by
  refine okXN Fn S (fun vs H Q E h => ?_) fun cdv A outer s H vs Q E hr hsp => ⟨_, hb cdv A outer s H E, ?_⟩
  · obtain ⟨a, C, x, rfl, _⟩ := h
    rfl
  · obtain ⟨a, C, x, rfl, T, h1, ea, hq⟩ := hsp
    exact ⟨x, rfl, .ref a, rfl, a, C, rfl, T, h1, .inl ⟨ea, fun d nd da => hq d nd da⟩⟩
end
def mRaise2 (k f1 f2 : Nat) (ma : MATy) : MSTy := fun E ρ => ma ρ (fun ds ρ1 => match ds with
  | [x, y] => E.ex ⟨k, [(f2, y), (f1, x)]⟩ ρ1
  | _ => False) E.ex
def mRaise1 (k f1 : Nat) (ma : MATy) : MSTy := fun E ρ => ma ρ (fun ds ρ1 => match ds with
  | [x] => E.ex ⟨k, [(f1, x)]⟩ ρ1
  | _ => False) E.ex
theorem ss_raise2 {C : Addr} {k f1 f2 : Nat} (T : OexC K C) (g : GoodX K k (.ref C)) (ha : SimA K W false b1 ta ma) (h1 : f1 < 4 := by decide) (h2 : f2 < 4 := by decide) :
    SimS K np W (fun _ σ H => tMkO C (spI2 K (fname f1) (fname f2)) [] ta σ H fun cls d H' => W cls d σ H') (mRaise2 k f1 f2 ma) := by
  intro B F σ ρ H D E hp s h kk
  refine ha B F σ ρ H _ _ E.ex s h (fun vs ds ρ1 F1 H1 S1 s1 r1 m1 z1 a1 hx => ?_) (kk.ex σ)
  have := z1 rfl; subst this
  split at hx
  · rename_i x y
    have hl := r1.length
    match vs, hl with
    | [vx, vy], _ =>
      have g' := g
      obtain ⟨C', e', _, _, hno, _⟩ := g'
      cases e'
      refine ⟨by simp, fun a na => ⟨a, C, vx, vy, rfl, T, hno f1 h1, hno f2 h2, upd_same, fun d nd da => ⟨rfl, d, [(fname f2, vy), (fname f1, vx)], ?_, upd_same, ?_, ?_⟩⟩⟩
      · rw [upd_ne (Ne.symm da), upd_same]
      · rw [upd_ne da] at nd; exact nd
      · have nd' : H1 d = none := by rw [upd_ne da] at nd; exact nd
        have sm : Same H1 (upd (del (upd (upd (upd (upd H1 a (exo a C none)) d (exd d [(fname f1, vx)])) a (exo a C (some d))) d (exd d [(fname f2, vy), (fname f1, vx)])) a) d (.xd [(fname f2, vy), (fname f1, vx)])) := by
          intro b o e
          have hb : b ≠ d := fun z => by rw [z, nd'] at e; cases e
          have hba : b ≠ a := fun z => by rw [z, na] at e; cases e
          rw [upd_ne hb]
          unfold del
          rw [if_neg hba, upd_ne hb, upd_ne hba, upd_ne hb, upd_ne hba]
          exact e
        obtain ⟨S1', S2', eS, rx, ry⟩ := r1.uncons
        have := List.append_eq_nil_iff.mp eS.symm
        rw [this.1] at rx
        rw [this.2] at ry
        exact kk.ex σ ⟨k, [(f2, y), (f1, x)]⟩ ρ1 F1 _ (.ref C) (some d) (s1.ext sm) ⟨d, rfl, g, [(fname f2, vy), (fname f1, vx)], upd_same, rfl, (ry.same sm).cons0 (rx.same sm)⟩ (a1.stp.trans (.same sm)) hx
  · exact hx.elim
theorem ss_raise1 {C : Addr} {k f1 : Nat} (T : OexC K C) (g : GoodX K k (.ref C)) (ha : SimA K W false b1 ta ma) (h1 : f1 < 4 := by decide) :
    SimS K np W (fun _ σ H => tMkO C (spI1 K (fname f1)) [] ta σ H fun cls d H' => W cls d σ H') (mRaise1 k f1 ma) := by
  intro B F σ ρ H D E hp s h kk
  refine ha B F σ ρ H _ _ E.ex s h (fun vs ds ρ1 F1 H1 S1 s1 r1 m1 z1 a1 hx => ?_) (kk.ex σ)
  have := z1 rfl; subst this
  split at hx
  · rename_i x
    have hl := r1.length
    match vs, hl with
    | [vx], _ =>
      have g' := g
      obtain ⟨C', e', _, _, hno, _⟩ := g'
      cases e'
      refine ⟨by simp, fun a na => ⟨a, C, vx, rfl, T, hno f1 h1, upd_same, fun d nd da => ⟨rfl, d, [(fname f1, vx)], upd_same, ?_, ?_, ?_⟩⟩⟩
      · rw [upd_ne da, upd_same]
      · rw [upd_ne da] at nd; exact nd
      · have nd' : H1 d = none := by rw [upd_ne da] at nd; exact nd
        have sm : Same H1 (upd (del (upd (upd (upd H1 a (exo a C none)) d (exd d [(fname f1, vx)])) a (exo a C (some d))) a) d (.xd [(fname f1, vx)])) := by
          intro b o e
          have hb : b ≠ d := fun z => by rw [z, nd'] at e; cases e
          have hba : b ≠ a := fun z => by rw [z, na] at e; cases e
          rw [upd_ne hb]
          unfold del
          rw [if_neg hba, upd_ne hba, upd_ne hb, upd_ne hba]
          exact e
        exact kk.ex σ ⟨k, [(f1, x)]⟩ ρ1 F1 _ (.ref C) (some d) (s1.ext sm) ⟨d, rfl, g, [(fname f1, vx)], upd_same, rfl, r1.same sm⟩ (a1.stp.trans (.same sm)) hx
  · exact hx.elim
/-! ### in the suite: error.f, isinstance(error, C) -/
def tXfs (a : Addr) (cls : Value) (d : Option Addr) (f : Str) (te : TE) (K : Frg) : TE := fun σ H Q => te σ H fun x H1 => x = .ref a ∧ ∃ (C dd : Addr) (fs : List (Str × V)) (v : V), cls = .ref C ∧ XfC K C ∧ PySem.W.findIn K (.ref C) f = some none ∧ d = some dd ∧ H1 dd = some (.xd fs) ∧ fs.lookup f = some v ∧ Q v H1
theorem pe_xfs {X : Cx} {a : Addr} {oe : Obj} {cls : Value} {d : Option Addr} {pn : List (Addr × Obj)} {e : Expr} {te : TE} {pos : Pos} {n : Str}
    (hz : Zc cls d oe) (hf : ∃ vs, oe.data = .fields vs) (he : PE (X.suite a ((a, oe) :: pn)) e te) (hb : attributeBase e n X.env (eval e X.env) = eval e X.env := by rfl) :
    PE (X.suite a ((a, oe) :: pn)) (.Attribute e n pos) (tXfs a cls d n te X.K) := by
  refine ⟨fun pins s σ H Q I h => ?_⟩
  refine attr_of hb (thn (he.run pins s σ H _ I h) fun u s1 hh => ?_)
  obtain ⟨x, H1, I1, rx, ex, C, dd, fs, v, ec, T, hno, ed, ea, l, q⟩ := hh
  subst ex
  obtain rfl : u = Value.ref a := rx
  subst ec
  subst ed
  obtain ⟨ha, _⟩ := I1.pin (a, oe) (List.mem_append_left _ List.mem_cons_self)
  obtain ⟨vs, hd⟩ := hf
  have hx : ObjOk X.prog X.w H1 s1.heap dd (.xd fs) := I1.hok dd _ ea
  obtain ⟨mA, hns, hr⟩ := hx
  obtain ⟨od, ho, hl⟩ := lookIn_ns hns
  obtain ⟨u, hu, ru⟩ := RelO.some_of (v := v) (o := mA n) (by rw [← l]; exact hr n)
  have J : PySem.W.InstAt s1.heap a oe C (some od) := ⟨ha, hz.1, by unfold PySem.W.notCls; rw [hd] <;> rfl, by rw [hz.2]; exact ho⟩
  exact HandSPX.exc_get I1.kIn J T.ga T.gg T.exC (PySem.W.findObj_own T.hdC hno rfl (by rw [hl, hu])) (handed_of ru) ⟨v, H1, I1.tok _, ru, q⟩
def mXf (c : Xc) (f : Nat) (ma : METy) : METy := fun ρ q x => ma ρ (fun d ρ1 => match d with
  | .exc c' _ fs => c' = c ∧ (match getF fs f with
    | some v => q v ρ1
    | none => False)
  | _ => False) x
theorem getF_zip {fv : List (Str × V)} {fs : List (Nat × D)} {G : Addr → Prop} {H : Hp} (hk : fv.map (·.1) = fs.map (fun p => fname p.1)) (r : R K G H (fv.map (·.2)) (fs.map (·.2)) []) {f : Nat} (hf : f < 24) {d : D} (e : getF fs f = some d) :
    ∃ v, fv.lookup (fname f) = some v ∧ R K G H [v] [d] [] := by
  induction fs generalizing fv with
  | nil => cases e
  | cons p fs ih =>
    match fv, hk with
    | (n, v) :: fv, hk =>
      simp only [List.map_cons, List.cons.injEq] at hk
      obtain ⟨S1, S2, eS, r1, r2⟩ := r.uncons
      have := List.append_eq_nil_iff.mp eS.symm
      rw [this.1] at r1
      rw [this.2] at r2
      unfold getF at e
      split at e
      · rename_i hpf
        cases e
        have hpf := Nat.eq_of_beq_eq_true hpf
        refine ⟨v, ?_, r1⟩
        rw [hk.1, hpf]
        simp [List.lookup]
      · rename_i hpf
        obtain ⟨v', h1, h2⟩ := ih hk.2 r2 e
        refine ⟨v', ?_, h2⟩
        have ne : (fname f == n) = false := by
          rw [hk.1]
          exact fname_inj hf hpf
        simp [List.lookup, ne, h1]
theorem sim_xf {c : Xc} {f : Nat} {ta : TE} {ma : METy} (ha : Sim K W vw1 b1 ta ma) (hf : f < 4 := by decide) : Sim K W false b1 (tXfs c.a c.v c.d (fname f) ta K) (mXf c f ma) := by
  intro B F σ ρ H Q q x s h k e
  refine ha B F σ ρ H _ _ x s h (fun v1 d1 ρ1 F1 H1 S1 s1 r1 m1 z1 a1 h1 => ?_) e
  split at h1
  · rename_i c' k' fs
    obtain ⟨rfl, h1⟩ := h1
    cases r1 with
    | «at» z _ => cases z
    | exc g hd hH hk r2 _ =>
      obtain ⟨C, ev, g1, g2, g3, g4⟩ := g
      split at h1
      · rename_i v hv
        obtain ⟨w, h2, h3⟩ := getF_zip hk r2 (by omega) hv
        exact ⟨rfl, C, _, _, w, ev, g1, g3 f hf, hd, hH, h2, k w v ρ1 F1 H1 [] s1 h3 (by simp) (fun _ => rfl) a1 h1⟩
      · exact h1.elim
  · exact h1.elim
/-- isinstance(e, C) -/
def mIsX (j : Nat) (c : Xc) (ma : METy) : METy := fun ρ q x => ma ρ (fun d ρ1 => match d with
  | .exc c' k _ => c' = c ∧ q (.bl (isSub k j)) ρ1
  | _ => False) x
def rIsXs (K : Frg) (a : Addr) (cls : Value) (d : Option Addr) : List V → Hp → VK → Prop := fun xs H Q => ∃ (C D dd : Addr) (fs : List (Str × V)) (b : Bool), xs = [.ref a, .ref C] ∧ cls = .ref D ∧ ExcC K D ∧ d = some dd ∧ H dd = some (.xd fs) ∧ PySem.W.kitOne K (.ref D) (.ref C) = some b ∧ Q (.bl b) H
theorem call_isXs {X : Cx} {a : Addr} {oe : Obj} {cls : Value} {d : Option Addr} {pn : List (Addr × Obj)} (hz : Zc cls d oe) (hf : ∃ vs, oe.data = .fields vs) : CallR (X.suite a ((a, oe) :: pn)) (.builtin "isinstance") (rIsXs X.K a cls d) := by
  intro pins s σ H xs us Q I r h
  obtain ⟨C, D, dd, fs, b, rfl, ec, T, ed, ea, e, q⟩ := h
  obtain ⟨u1, u2, rfl, r1, r2⟩ := vals2 r
  obtain rfl : u1 = Value.ref a := r1
  obtain rfl : u2 = Value.ref C := r2
  subst ec ed
  obtain ⟨ha, _⟩ := I.pin (a, oe) (List.mem_append.mpr (.inl List.mem_cons_self))
  obtain ⟨vs, hd⟩ := hf
  have hx : ObjOk X.prog X.w H s.heap dd (.xd fs) := I.hok dd _ ea
  obtain ⟨mA, hns, hr⟩ := hx
  obtain ⟨od, ho, hl⟩ := lookIn_ns hns
  have J : PySem.W.InstAt s.heap a oe D (some od) := ⟨ha, hz.1, by unfold PySem.W.notCls; rw [hd] <;> rfl, by rw [hz.2]; exact ho⟩
  have cl : (PySem.W.clsIn X.K D).isSome = true := by
    obtain ⟨cd, hc, _⟩ := PySem.W.any_some T.hd
    rw [hc]; rfl
  exact PySem.W.kia_one (PySem.W.kitx_exc cl T.hg T.hk T.hs T.ha T.hn T.ht T.hm) I.kIn J e (fun z => nomatch z) fun tk => ⟨.bl b, H, I.kept (t' := tk) fun _ _ z => z, rfl, q⟩
theorem sim_isX {j : Nat} {c : Xc} {C : Addr} {ta : TE} {ma : METy} (hc : XCls K j C) (ha : Sim K W vw1 b1 ta ma) (hj : j < 16 := by decide) : Sim K W false b1 (tCB (rIsXs K c.a c.v c.d) (tCons ta (tCons (tC (.ref C)) tNil))) (mIsX j c ma) := by
  intro B F σ ρ H Q q x s h k e
  refine ha B F σ ρ H _ _ x s h (fun v1 d1 ρ1 F1 H1 S1 s1 r1 m1 z1 a1 h1 => ?_) e
  split at h1
  · rename_i c' k' fs
    obtain ⟨rfl, h1⟩ := h1
    cases r1 with
    | «at» z _ => cases z
    | exc g hd hH hk r2 _ =>
      have e2 := hc.kit g hj
      obtain ⟨D, ev, g1, g2, g3, g4⟩ := g
      rw [ev] at e2
      exact ⟨C, D, _, _, _, rfl, ev, g2, hd, hH, e2, k _ _ ρ1 F1 H1 [] s1 .bl1 (by simp) (fun _ => rfl) a1 h1⟩
  · exact h1.elim
/-- a tuple constant of the main: its name -/
theorem glob_tup {X : Cx} : True := trivial
end
end Mi
end

-- text ML
section
set_option Elab.async false
set_option linter.all false
set_option maxRecDepth 100000
set_option maxHeartbeats 4000000
/-! ML: == and != at any depth, in over sequences. -/
namespace Mi
open PySem PySem.Spec PyProof.Rows L2
/-! ### data for == -/
def pyD : D → PyData
  | .non => .none
  | .bl b => .bool b
  | .int i => .int i
  | .str x => .str ⟨x.toArray⟩
  | .tup ds => .tuple (pys ds)
  | .lst ds => .list (pys ds)
  | .rol ds => .list (pys ds)
  | .mls ds => .list (pys ds)
  | _ => .none
where pys : List D → List PyData
  | [] => []
  | d :: ds => pyD d :: pys ds
/-- data of at most n levels of lists and tuples -/
def dat : Nat → D → Bool
  | _, .non => true
  | _, .bl _ => true
  | _, .int _ => true
  | _, .str x => x.all fun c => Nat.blt c 1114112
  | n + 1, .tup ds => dats n ds
  | n + 1, .lst ds => dats n ds
  | n + 1, .rol ds => dats n ds
  | n + 1, .mls ds => dats n ds
  | _, _ => false
where dats : Nat → List D → Bool
  | _, [] => true
  | n, d :: ds => dat n d && dats n ds
def lsD : D → Option (List D)
  | .lst ds => some ds
  | .rol ds => some ds
  | .mls ds => some ds
  | _ => none
def eqD : D → D → Bool
  | .non, e => (match e with
    | .non => true
    | _ => false)
  | .bl a, e => (match e with
    | .bl b => decide (a = b)
    | .int j => decide ((if a then 1 else 0) = j)
    | _ => false)
  | .int i, e => (match e with
    | .bl b => decide (i = if b then 1 else 0)
    | .int j => decide (i = j)
    | _ => false)
  | .str s, e => (match e with
    | .str t => decide (s = t)
    | _ => false)
  | .tup ds, e => (match e with
    | .tup es => eqs ds es
    | _ => false)
  | .lst ds, e => (match lsD e with
    | some es => eqs ds es
    | none => false)
  | .rol ds, e => (match lsD e with
    | some es => eqs ds es
    | none => false)
  | .mls ds, e => (match lsD e with
    | some es => eqs ds es
    | none => false)
  | _, _ => false
where eqs : List D → List D → Bool
  | [], [] => true
  | d :: ds, e :: es => eqD d e && eqs ds es
  | _, _ => false
theorem dats_iff {n : Nat} : ∀ {ds : List D}, dat.dats n ds = true ↔ ∀ d ∈ ds, dat n d = true
  | [] => by simp [dat.dats]
  | d :: ds => by
    have := dats_iff (n := n) (ds := ds)
    simp [dat.dats, this]
theorem pys_map : ∀ ds : List D, pyD.pys ds = ds.map pyD
  | [] => rfl
  | d :: ds => by rw [pyD.pys, pys_map ds, List.map_cons]
theorem dat_mono {n : Nat} : ∀ {d : D}, dat n d = true → dat (n + 1) d = true := by
  induction n with
  | zero =>
    intro d h
    cases d <;> first | (simp only [dat] at h ⊢; done) | (simp only [dat] at h ⊢; exact h) | (simp [dat] at h)
  | succ n ih =>
    intro d h
    cases d <;> first | (simp only [dat] at h ⊢; done) | (simp only [dat] at h ⊢; exact h) | (simp only [dat, dats_iff] at h ⊢; exact fun d hd => ih (h d hd)) | (simp [dat] at h)
section
variable {K : Frg} {np : Nat → Bool} {W : WX} {vw vw1 vw2 b b1 b2 b3 : Bool} {te : TE} {ta : TA} {ma : MATy} {me : METy}
theorem dp_atom {H : Hp} {v : V} {d : D} (z : Atom v d) {n : Nat} (h : dat n d = true) : Dp K H v (pyD d) ∧ (pyD d).canLay0 = true ∧ (pyD d).depth = 0 := by
  cases z with
  | non => exact ⟨.non, by simp only [pyD, PyData.canLay0], by simp only [pyD, PyData.depth]⟩
  | bl => exact ⟨.bl _, by simp only [pyD, PyData.canLay0], by simp only [pyD, PyData.depth]⟩
  | int => exact ⟨.int _, by simp only [pyD, PyData.canLay0], by simp only [pyD, PyData.depth]⟩
  | str hl =>
    refine ⟨.str _, ?_, by simp only [pyD, PyData.depth]⟩
    simp only [pyD, PyData.canLay0, PyData.strOk]
    simp only [dat, List.all_eq_true, Nat.blt_eq] at h
    simpa using h
  | cv => cases n <;> simp [dat] at h
theorem dp_of {G : Addr → Prop} {H : Hp} : ∀ n, (∀ {v d S}, R K G H [v] [d] S → dat n d = true → Dp K H v (pyD d) ∧ (pyD d).canLay0 = true ∧ (pyD d).depth ≤ n) := by
  intro n
  induction n with
  | zero =>
    intro v d S r h
    cases r with
    | «at» z _ =>
      obtain ⟨p1, p2, p3⟩ := dp_atom (K := K) (H := H) z h
      exact ⟨p1, p2, by omega⟩
    | _ => simp [dat] at h
  | succ n ih =>
    have all : ∀ {vs ds S}, R K G H vs ds S → dat.dats n ds = true → DpAll K H vs (pyD.pys ds) ∧ PyData.canLayAll0 (pyD.pys ds) = true ∧ PyData.depthAll (pyD.pys ds) ≤ n := by
      intro vs
      induction vs with
      | nil =>
        intro ds S r h
        cases r
        exact ⟨.nil, rfl, Nat.zero_le _⟩
      | cons v vs ih2 =>
        intro ds S r h
        cases ds with
        | nil => cases r
        | cons d ds =>
          obtain ⟨S1, S2, _, r1, r2⟩ := r.uncons
          simp only [dat.dats, Bool.and_eq_true] at h
          obtain ⟨p1, p2, p3⟩ := ih r1 h.1
          obtain ⟨q1, q2, q3⟩ := ih2 r2 h.2
          refine ⟨.cons p1 q1, ?_, ?_⟩
          · simp only [pyD.pys, PyData.canLayAll0, p2, q2, Bool.and_self]
          · simp only [pyD.pys, PyData.depthAll]; omega
    intro v d S r h
    cases r with
    | «at» z _ =>
      obtain ⟨p1, p2, p3⟩ := dp_atom (K := K) (H := H) z h
      exact ⟨p1, p2, by omega⟩
    | tup z r2 _ =>
      obtain ⟨p1, p2, p3⟩ := all r2 (by simpa only [dat] using h)
      exact ⟨.tup z p1, by simpa only [pyD, PyData.canLay0] using p2, by simp only [pyD, PyData.depth]; omega⟩
    | lst n z r2 _ =>
      obtain ⟨p1, p2, p3⟩ := all r2 (by simpa only [dat] using h)
      exact ⟨.lst (.inl (.inl z)) p1, by simpa only [pyD, PyData.canLay0] using p2, by simp only [pyD, PyData.depth]; omega⟩
    | rol z r2 _ =>
      obtain ⟨p1, p2, p3⟩ := all r2 (by simpa only [dat] using h)
      refine ⟨.lst ?_ p1, by simpa only [pyD, PyData.canLay0] using p2, by simp only [pyD, PyData.depth]; omega⟩
      rcases z with z | z
      · exact z H
      · exact .inl (.inr z)
    | mls z r2 _ =>
      obtain ⟨p1, p2, p3⟩ := all r2 (by simpa only [dat] using h)
      exact ⟨.lst (.inl (.inl z)) p1, by simpa only [pyD, PyData.canLay0] using p2, by simp only [pyD, PyData.depth]; omega⟩
    | _ => simp [dat] at h
theorem eqv_eq : ∀ n, ∀ {d e : D}, dat n d = true → dat n e = true → PyData.eqv (pyD d) (pyD e) = eqD d e := by
  have scal : ∀ {n : Nat} {d e : D}, dat n d = true → dat n e = true → (∀ ds es, (pyD d = .tuple ds ∧ pyD e = .tuple es ∨ pyD d = .list ds ∧ pyD e = .list es) → PyData.eqv (pyD d) (pyD e) = eqD d e) → PyData.eqv (pyD d) (pyD e) = eqD d e := by
    intro n d e h1 h2 hh
    cases d <;> cases e <;> first
      | (simp [dat] at h1; done)
      | (simp [dat] at h2; done)
      | (exact hh _ _ (.inl ⟨rfl, rfl⟩))
      | (exact hh _ _ (.inr ⟨rfl, rfl⟩))
      | (simp only [pyD, PyData.eqv, eqD, lsD]; done)
      | (simp only [pyD, PyData.eqv, eqD, lsD]; rw [Bool.eq_iff_iff]; simp; done)
  intro n
  induction n with
  | zero =>
    intro d e h1 h2
    refine scal h1 h2 fun ds es z => ?_
    rcases z with ⟨z, _⟩ | ⟨z, _⟩ <;> (cases d <;> first | (simp [pyD] at z; done) | (simp [dat] at h1))
  | succ n ih =>
    have all : ∀ {ds es : List D}, dat.dats n ds = true → dat.dats n es = true → PyData.eqvAll (pyD.pys ds) (pyD.pys es) = eqD.eqs ds es := by
      intro ds
      induction ds with
      | nil =>
        intro es _ _
        cases es <;> simp [pyD.pys, PyData.eqvAll, eqD.eqs]
      | cons d ds ih2 =>
        intro es h1 h2
        cases es with
        | nil => simp [pyD.pys, PyData.eqvAll, eqD.eqs]
        | cons e es =>
          simp only [dat.dats, Bool.and_eq_true] at h1 h2
          simp only [pyD.pys, PyData.eqvAll, eqD.eqs, ih h1.1 h2.1, ih2 h1.2 h2.2]
    intro d e h1 h2
    refine scal h1 h2 fun ds es z => ?_
    rcases z with ⟨z1, z2⟩ | ⟨z1, z2⟩
    · cases d <;> first | (simp [pyD] at z1; done) | skip
      cases e <;> first | (simp [pyD] at z2; done) | skip
      simp only [dat] at h1 h2
      simp only [pyD, PyData.eqv, eqD, all h1 h2]
    · cases d <;> first | (simp [pyD] at z1; done) | skip
      all_goals cases e <;> first | (simp [pyD] at z2; done) | skip
      all_goals simp only [dat] at h1 h2
      all_goals simp only [pyD, PyData.eqv, eqD, lsD, all h1 h2]
def fEqA : F2 := fun x y q => match feq x y with
  | some c => q (.bl c)
  | none => dat 60 x = true ∧ dat 60 y = true ∧ q (.bl (eqD x y))
def fNeA : F2 := fun x y q => match feq x y with
  | some c => q (.bl (!c))
  | none => dat 60 x = true ∧ dat 60 y = true ∧ q (.bl (!eqD x y))
theorem shaped_of {d : D} (h2 : (pyD d).canLay0 = true) (h3 : (pyD d).depth ≤ 60) : SeqAt.shaped (pyD d) = true := by
  unfold SeqAt.shaped
  rw [h2]
  simp only [Bool.true_and, decide_eq_true_eq]
  omega
theorem rs_eqA : RSim K (rOr rEq (rEqD K)) fEqA := by
  intro G H v1 v2 d1 d2 S1 S2 Q q dm r1 r2 h k
  unfold fEqA at h
  split at h
  · rename_i c e
    obtain ⟨e1, e2⟩ := feq_ok e
    obtain ⟨z1, z2⟩ := feq_val (atom_of r1 e1) (atom_of r2 e2) e
    refine .inl ⟨z1, ?_⟩
    rw [z2]
    exact k _ _ H (Same.refl _) .bl1 h
  · obtain ⟨h1, h2, h3⟩ := h
    obtain ⟨p1, p2, p3⟩ := dp_of 60 r1 h1
    obtain ⟨q1, q2, q3⟩ := dp_of 60 r2 h2
    refine .inr ⟨_, _, p1, q1, shaped_of p2 p3, shaped_of q2 q3, ?_⟩
    rw [eqv_eq 60 h1 h2]
    exact k _ _ H (Same.refl _) .bl1 h3
theorem rs_neA : RSim K (rOr rNe (rNeD K)) fNeA := by
  intro G H v1 v2 d1 d2 S1 S2 Q q dm r1 r2 h k
  unfold fNeA at h
  split at h
  · rename_i c e
    obtain ⟨e1, e2⟩ := feq_ok e
    obtain ⟨z1, z2⟩ := feq_val (atom_of r1 e1) (atom_of r2 e2) e
    refine .inl ⟨z1, ?_⟩
    rw [z2]
    exact k _ _ H (Same.refl _) .bl1 h
  · obtain ⟨h1, h2, h3⟩ := h
    obtain ⟨p1, p2, p3⟩ := dp_of 60 r1 h1
    obtain ⟨q1, q2, q3⟩ := dp_of 60 r2 h2
    refine .inr ⟨_, _, p1, q1, shaped_of p2 p3, shaped_of q2 q3, ?_⟩
    rw [eqv_eq 60 h1 h2]
    exact k _ _ H (Same.refl _) .bl1 h3
/-! ### x in xs -/
def flD : D → Bool
  | .non => true
  | .bl _ => true
  | .int _ => true
  | .str _ => true
  | _ => false
def flDs : List D → Bool
  | [] => true
  | d :: ds => flD d && flDs ds
def anyE (x : D) : List D → Bool
  | [] => false
  | d :: ds => eqD d x || anyE x ds
def fInA : F2 := fun x y q => match y with
  | .str c => (match x with
    | .str a => a ≠ [] ∧ q (.bl (isIn a c))
    | _ => False)
  | _ => (match sq y with
    | some ds => flD x = true ∧ flDs ds = true ∧ q (.bl (anyE x ds))
    | none => False)
def fNotInA : F2 := fun x y q => match y with
  | .str c => (match x with
    | .str a => a ≠ [] ∧ q (.bl (!isIn a c))
    | _ => False)
  | _ => (match sq y with
    | some ds => flD x = true ∧ flDs ds = true ∧ q (.bl (!anyE x ds))
    | none => False)
theorem flat_atom {G : Addr → Prop} {H : Hp} {v : V} {d : D} {S} (r : R K G H [v] [d] S) (h : flD d = true) : Atom v d ∧ flatV v = true := by
  cases r with
  | «at» z _ => cases z <;> first | (simp [flD] at h; done) | exact ⟨by first | exact .non | exact .bl | exact .int | exact .str (by assumption), rfl⟩
  | _ => simp [flD] at h
theorem eqV_D {v w : V} {d e : D} (z1 : Atom v d) (z2 : Atom w e) (h1 : flD d = true) (h2 : flD e = true) : eqV v w = eqD d e := by
  cases z1 <;> cases z2 <;> first
    | (simp [flD] at h1; done)
    | (simp [flD] at h2; done)
    | (simp only [eqV, eqD]; done)
    | (simp only [eqV, eqD]; rw [Bool.eq_iff_iff]; simp; done)
theorem inV_D {G : Addr → Prop} {H : Hp} {x : V} {d : D} (zx : Atom x d) (hx : flD d = true) : ∀ {ws : List V} {ds : List D} {S}, R K G H ws ds S → flDs ds = true → ws.all flatV = true ∧ inV x ws = anyE d ds := by
  intro ws
  induction ws with
  | nil => intro ds S r _; cases r; exact ⟨rfl, rfl⟩
  | cons w ws ih =>
    intro ds S r h
    cases ds with
    | nil => cases r
    | cons e ds =>
      obtain ⟨S1, S2, _, r1, r2⟩ := r.uncons
      simp only [flDs, Bool.and_eq_true] at h
      obtain ⟨p1, p2⟩ := flat_atom r1 h.1
      obtain ⟨q1, q2⟩ := ih r2 h.2
      refine ⟨by rw [List.all_cons, p2, q1]; rfl, ?_⟩
      show (w :: ws).any _ = _
      rw [List.any_cons, eqV_D p1 zx h.1 hx]
      show (eqD e d || inV x ws) = _
      rw [q2]
      rfl
theorem rs_inA : RSim K (rOr rInS (rIn K false)) fInA := by
  intro G H v1 v2 d1 d2 S1 S2 Q q dm r1 r2 h k
  unfold fInA at h
  split at h
  · split at h
    · obtain ⟨rfl, e1⟩ := r1.str
      obtain ⟨rfl, e2⟩ := r2.str
      refine .inl ⟨_, _, rfl, rfl, ?_⟩
      rw [occ_in _ _ h.1]
      exact k _ _ H (Same.refl _) .bl1 h.2
    · exact h.elim
  · split at h
    · rename_i ds hs
      obtain ⟨h1, h2, h3⟩ := h
      obtain ⟨a, ws, S1, rfl, hq, rr, _⟩ := r2.sqE hs
      obtain ⟨z, fx⟩ := flat_atom r1 h1
      obtain ⟨w1, w2⟩ := inV_D z h1 rr h2
      refine .inr ⟨a, ws, rfl, hq, fx, w1, ?_⟩
      rw [if_neg Bool.false_ne_true, w2]
      exact k _ _ H (Same.refl _) .bl1 h3
    · exact h.elim
theorem rs_notinA : RSim K (rOr rNotInS (rIn K true)) fNotInA := by
  intro G H v1 v2 d1 d2 S1 S2 Q q dm r1 r2 h k
  unfold fNotInA at h
  split at h
  · split at h
    · obtain ⟨rfl, e1⟩ := r1.str
      obtain ⟨rfl, e2⟩ := r2.str
      refine .inl ⟨_, _, rfl, rfl, ?_⟩
      rw [occ_in _ _ h.1]
      exact k _ _ H (Same.refl _) .bl1 h.2
    · exact h.elim
  · split at h
    · rename_i ds hs
      obtain ⟨h1, h2, h3⟩ := h
      obtain ⟨a, ws, S1, rfl, hq, rr, _⟩ := r2.sqE hs
      obtain ⟨z, fx⟩ := flat_atom r1 h1
      obtain ⟨w1, w2⟩ := inV_D z h1 rr h2
      refine .inr ⟨a, ws, rfl, hq, fx, w1, ?_⟩
      rw [if_pos rfl, w2]
      exact k _ _ H (Same.refl _) .bl1 h3
    · exact h.elim
theorem op_eqX {X : Cx} (hu : X.A.units + 64 < cLine) : OpR X (compareOp .Eq) (rOr rEq (rEqD X.K)) := opR_or op_eq (op_eqD hu)
theorem op_neX {X : Cx} (hu : X.A.units + 64 < cLine) : OpR X (compareOp .NotEq) (rOr rNe (rNeD X.K)) := opR_or op_ne (op_neD hu)
theorem op_inX {X : Cx} : OpR X (compareOp .In) (rOr rInS (rIn X.K false)) := opR_or op_in_str op_in_seq
theorem op_notInX {X : Cx} : OpR X (compareOp .NotIn) (rOr rNotInS (rIn X.K true)) := opR_or op_notin_str op_notIn_seq
/-! ### constants of the main: tuples of scalars -/
def kD : Value → Option D
  | .none => some .non
  | .bool b => some (.bl b)
  | .int i _ => some (.int i)
  | .str x _ => some (.str x.cps.toList)
  | _ => none
/-- at a the written part has a tuple of ds -/
def KTup (K : Frg) (a : Addr) (ds : List D) : Prop := ∃ ws, (∀ H, SqT K H a ws) ∧ ∀ G H, R K G H ws ds []
theorem ktup {a : Addr} {dd : Option Addr} {us : Array Value} {n : Nat} {sl : Array (Option Value)} {vs : List V} {ds : List D} (e : K.lookup a = some ⟨.type "tuple", dd, .seq us n, sl⟩) (hs : us.size ≤ 1000) (hv : Vals vs us.toList) (hr : ∀ G H, R K G H vs ds []) : KTup K a ds :=
  ⟨vs, fun H => .inr ⟨_, us, n, e, rfl, rfl, by rw [sizeLine_eq]; omega, hv⟩, hr⟩
theorem sim_glob {a : Addr} {ds : List D} (h : KTup K a ds) : Sim K W false true (tC (.ref a)) (mC (.tup ds)) := by
  intro B F σ ρ H Q q x s hm k e
  obtain ⟨ws, h1, h2⟩ := h
  exact k _ _ ρ F H [] s (.tup (h1 H) (h2 _ H) .nil) (by simp) (fun _ => rfl) .refl hm
end
end Mi
end

-- text MO
section
set_option Elab.async false
set_option linter.all false
set_option maxRecDepth 100000
set_option maxHeartbeats 4000000
/-! MO: the text's classes of exceptions. -/
namespace Mi
open PySem PySem.Spec PyProof.Rows L2
/-- an own exception class whose __init__ stores its parameters; it may be raised -/
def XOk (P : Program) (w : World) (K : Frg) (mg : Str → Option Value) (base : Heap) (k : Nat) (ps : List Str) (sp : Sp) : Prop :=
  ∃ (C fI : Addr) (fd : FuncData), mg (cname k) = some (.ref C) ∧ OexC K C ∧ GoodX K k (.ref C) ∧ PySem.W.findIn K (.ref C) "__init__" = some (some (.ref fI)) ∧ PySem.W.typeIn K (.ref fI) = some (.type "function") ∧
    FnOk P w K mg base (L2N.CX P w) 1 fI fd ps sp ∧ Binds K fd ps []
/-- what the text says of it -/
def XTx (K : Frg) (mg : Str → Option Value) (k : Nat) (qual : Str) (st : Stmt) (ps : List Str) : Prop :=
  ∃ (C fI : Addr) (fd : FuncData), mg (cname k) = some (.ref C) ∧ OexC K C ∧ GoodX K k (.ref C) ∧ PySem.W.findIn K (.ref C) "__init__" = some (some (.ref fI)) ∧ PySem.W.typeIn K (.ref fI) = some (.type "function") ∧
    Fun K "__init__" qual st fI fd ∧ ∀ us : List Value, us.length = ps.length → bindArgs fd ⟨us, []⟩ = pure (ps.zip us)
def XBs (K : Frg) (mg : Str → Option Value) (k : Nat) : Prop := ∃ C : Addr, mg (cname k) = some (.ref C) ∧ XCls K k C
theorem xok_of {P : Program} {w : World} {K : Frg} {mg : Str → Option Value} {base : Heap} {k : Nat} {qual : Str} {st : Stmt} {ps : List Str} {sp : Sp} (t : XTx K mg k qual st ps) (h : ∀ f fd, Fun K "__init__" qual st f fd → FnOk P w K mg base (L2N.CX P w) 1 f fd ps sp) : XOk P w K mg base k ps sp := by
  obtain ⟨C, fI, fd, h1, h2, h3, h4, h5, F, b⟩ := t
  exact ⟨C, fI, fd, h1, h2, h3, h4, h5, h fI fd F, .all b⟩
theorem passF {P : Program} {w : World} {X : Cx} : Passes (L2N.CX P w) X (fun _ _ _ => False) := fun _ _ _ _ _ _ _ ⟨_, _, _, _, _, _, _, _, _, _, _, _, h⟩ => h.elim
/-- what K says of an exception class, fact by fact -/
theorem goodX_mk {K : Frg} {C : Addr} {k : Nat}
    (ga : PySem.W.findIn K (.ref C) "__getattribute__" = some (some (.builtin "BaseException.__getattribute__"))) (gg : PySem.W.findIn K (.ref C) "__getattr__" = some none) (ex : PySem.W.subIn K (.ref C) (.type "BaseException") = some true) (hd : PySem.W.hasDictIn K C = true)
    (hc : PySem.W.findIn K (.ref C) "__class__" = some (some (.builtin "object.__class__"))) (hn : PySem.W.specialIn K (.builtin "object.__class__") "__get__" = some (some (.builtin "getset_descriptor.__get__"))) (ht : PySem.W.takesIn K (.builtin "object.__class__") = some true) (hm : PySem.W.mroIn K C (.type "object") = some true)
    (n0 : PySem.W.findIn K (.ref C) "at" = some none) (n1 : PySem.W.findIn K (.ref C) "word" = some none) (n2 : PySem.W.findIn K (.ref C) "name" = some none) (n3 : PySem.W.findIn K (.ref C) "line" = some none)
    (sub : ∀ j CY, j < 16 → PySem.W.nsIn K mainGlobals (cname j) = some (some (.ref CY)) → PySem.W.subIn K (.ref C) (.ref CY) = some (isSub k j)) : GoodX K k (.ref C) := by
  refine ⟨C, rfl, ⟨ga, gg, ex, hd⟩, ⟨ga, gg, ex, hd, hc, hn, ht, hm⟩, fun f hf => ?_, sub⟩
  match f, hf with
  | 0, _ => exact n0
  | 1, _ => exact n1
  | 2, _ => exact n2
  | 3, _ => exact n3
/-- one class after the other: what is at number j -/
def SubAt (K : Frg) (k j : Nat) (C : Addr) : Prop := ∀ CY, PySem.W.nsIn K mainGlobals (cname j) = some (some (.ref CY)) → PySem.W.subIn K (.ref C) (.ref CY) = some (isSub k j)
theorem sub_no {K : Frg} {k j : Nat} {C : Addr} (h : PySem.W.nsIn K mainGlobals (cname j) = some none) : SubAt K k j C := fun CY e => by rw [h] at e; cases e
theorem sub_at {K : Frg} {k j : Nat} {C D : Addr} (h : PySem.W.nsIn K mainGlobals (cname j) = some (some (.ref D))) (e : PySem.W.subIn K (.ref C) (.ref D) = some (isSub k j)) : SubAt K k j C := fun CY e' => by
  rw [h] at e'; cases e'; exact e
theorem sub_all {K : Frg} {k : Nat} {C : Addr} (h0 : SubAt K k 0 C) (h1 : SubAt K k 1 C) (h2 : SubAt K k 2 C) (h3 : SubAt K k 3 C) (h4 : SubAt K k 4 C) (h5 : SubAt K k 5 C) (h6 : SubAt K k 6 C) (h7 : SubAt K k 7 C) (h8 : SubAt K k 8 C) (h9 : SubAt K k 9 C) (h10 : SubAt K k 10 C) (h11 : SubAt K k 11 C) (h12 : SubAt K k 12 C) (h13 : SubAt K k 13 C) (h14 : SubAt K k 14 C) (h15 : SubAt K k 15 C) :
    ∀ j CY, j < 16 → PySem.W.nsIn K mainGlobals (cname j) = some (some (.ref CY)) → PySem.W.subIn K (.ref C) (.ref CY) = some (isSub k j) := by
  intro j CY hj e
  match j, hj with
  | 0, _ => exact h0 CY e
  | 1, _ => exact h1 CY e
  | 2, _ => exact h2 CY e
  | 3, _ => exact h3 CY e
  | 4, _ => exact h4 CY e
  | 5, _ => exact h5 CY e
  | 6, _ => exact h6 CY e
  | 7, _ => exact h7 CY e
  | 8, _ => exact h8 CY e
  | 9, _ => exact h9 CY e
  | 10, _ => exact h10 CY e
  | 11, _ => exact h11 CY e
  | 12, _ => exact h12 CY e
  | 13, _ => exact h13 CY e
  | 14, _ => exact h14 CY e
  | 15, _ => exact h15 CY e
  | j + 16, h => exact absurd h (by omega)
theorem xbs_mk {K : Frg} {mg : Str → Option Value} {h : Heap} (X : K.In h) (G : h.Ns mainGlobals mg) {k : Nat} {C : Addr} (a : PySem.W.nsIn K mainGlobals (cname k) = some (some (.ref C))) (ex : PySem.W.subIn K (.ref C) (.type "BaseException") = some true) (hd : PySem.W.hasDictIn K C = true)
    (ty : PySem.W.typeIn K (.ref C) = some (.type "type")) (se : PySem.W.subIn K (.ref C) (.ref C) = some true) : XBs K mg k := ⟨C, PySem.W.mg_of X G a, a, ex, hd, ty, se⟩
theorem xtx_mk {K : Frg} {mg : Str → Option Value} {h : Heap} (X : K.In h) (G : h.Ns mainGlobals mg) {k : Nat} {qual : Str} {st : Stmt} {ps : List Str} {C fI : Addr} {od an : Option Addr} {sl : Array (Option Value)} {oc kV dc pm cd ct : Value}
    (hb : ∀ us : List Value, us.length = ps.length → bindArgs (PySem.W.fnOf "__init__" qual (defArgs st) (defBody st) (defScope st) .none kV dc pm an cd ct) ⟨us, []⟩ = pure (ps.zip us))
    (a : PySem.W.nsIn K mainGlobals (cname k) = some (some (.ref C))) (ox : OexC K C) (g : GoodX K k (.ref C)) (i : PySem.W.findIn K (.ref C) "__init__" = some (some (.ref fI))) (ti : PySem.W.typeIn K (.ref fI) = some (.type "function"))
    (l : K.lookup fI = some ⟨oc, od, .func (PySem.W.fnOf "__init__" qual (defArgs st) (defBody st) (defScope st) .none kV dc pm an cd ct), sl⟩) (c : PySem.W.codeIn K cd qual = true) (kp : PySem.W.keepIn K (.ref fI) = true) : XTx K mg k qual st ps :=
  ⟨C, fI, _, PySem.W.mg_of X G a, ox, g, i, ti, fun_mk l c kp, hb⟩
/-- C(e, ..) where nothing is handled -/
theorem pmk_oexN {X : Cx} {CX : CXT} {x : Str} {e : Expr} {es : List Expr} {ta : TA} {p pos : Pos} {C fI : Addr} {k : Nat} {fd : FuncData} {ps : List Str} {sp : Sp} (T : OexC X.K C) (iC : PySem.W.findIn X.K (.ref C) "__init__" = some (some (.ref fI))) (tI : PySem.W.typeIn X.K (.ref fI) = some (.type "function"))
    (F1 : FnOk X.prog X.w X.K X.mg X.base CX k fI fd ps sp) (hr : Room (k + 1) X.A) (hb : Binds X.K fd ps []) (hx : Passes CX X (fun _ _ _ => False)) (hg : Gl X x) (hm : X.mg x = some (.ref C)) (ha : PA X (e :: es) ta)
    (hdb : (x == ("__debug__" : Str)) = false := by decide) (he : starEach (e :: es) X.env = (false, eval e X.env) :: starEach es X.env := by rfl) (hpl : (backTo pos (starEach es X.env)).any (·.1) = false := by rfl) :
    L2N.PMk X (.Call (.Name x p) (e :: es) [] pos) (tMkO C sp [] ta) := by
  intro pins s σ H Q I h
  obtain ⟨nm, q, N, bs, bm, sn, sub, ab, col, dd, k0, k1, k2, k3, k5, hC, hbm⟩ := T.cls
  refine wpAny_Call_Name_kw (ld_glob I hg hm ?_ hdb)
  refine PySem.W.callWith_K (h₀ := X.base) I.ok.mod.kin T.kC (thn (ha.run pos pins s σ H _ I h) fun us s1 ⟨vs, H1, I1, r1, hz, q1⟩ => ⟨I1.kIn, ?_⟩) he hpl
  show wpAny _ _ (call (.ref C) us) _ _ _
  obtain ⟨hp, g, dr, tk, os⟩ := s1
  have hsz : hp.objs.size ≤ hp.objs.size + 1 := Nat.le_succ _
  have hn : H1 (hp.objs.size + 1) = none := I1.hok.fresh hsz
  have hq := q1 (hp.objs.size + 1) hn
  rw [List.append_nil] at hq
  have kk : ∀ b o, hp.get? b = some o → ((hp.push (PySem.W.kdv_tup us)).push (PySem.HandSPX.excO C hp.objs.size)).get? b = some o := fun b o e => Heap.get?_push_of_some _ (Heap.get?_push_of_some _ e)
  have hget : ((hp.push (PySem.W.kdv_tup us)).push (PySem.HandSPX.excO C hp.objs.size)).get? (hp.objs.size + 1) = some (PySem.HandSPX.excO C hp.objs.size) := by heap_get
  have I2 : Inv X pins σ (upd H1 (hp.objs.size + 1) (exo (hp.objs.size + 1) C none)) ⟨(hp.push (PySem.W.kdv_tup us)).push (PySem.HandSPX.excO C hp.objs.size), g, dr, tk, os⟩ :=
    I1.laid (t' := tk) (a := hp.objs.size + 1) (o := exo (hp.objs.size + 1) C none) (h' := (hp.push (PySem.W.kdv_tup us)).push (PySem.HandSPX.excO C hp.objs.size)) kk hsz (exo_ok hget)
  have r2 : Vals (V.ref (hp.objs.size + 1) :: vs) (Value.ref (hp.objs.size + 1) :: us) := .cons rfl r1
  have hl : (Value.ref (hp.objs.size + 1) :: us ++ []).length = ps.length := by
    have e := r2.length
    rw [F1.len _ _ _ _ hq] at e
    rw [List.append_nil]
    exact e.symm
  have hus : us.length ≤ sizeLine := by
    rw [← Paired.length r1, sizeLine_eq]
    omega
  have b2 := hb _ (Value.ref (hp.objs.size + 1) :: us) I2.kIn hl
  rw [List.append_nil] at b2
  refine wpAny_call (PySem.HandSPX.call_own F.excBase_ValueError (fun Y => PySem.HandSPX.refsVE_contains Y bm hbm) (I1.kIn _ _ hC) (PySem.W.looks_findIn I1.kIn iC) (fun self => PySem.W.bind_fn I1.kIn self tI) hus
    (codeAny_mono (F1.run _ X.stack _ _ ⟨Value.ref (hp.objs.size + 1) :: us, []⟩ (Value.ref (hp.objs.size + 1) :: us) _ _ (fun _ _ _ => False) (hr.make C us []) (I2.env0.make C us []) b2 r2 hq) fun r s' hq' => ?_))
  cases r with
  | error er => exact hx pins σ _ _ er s' I2 hq'
  | ok fl =>
    cases fl with
    | ret u =>
      obtain ⟨v, H2, os2, bare2, un2, hok2, rv, ev, d, fs, ea, ed, hd1, q2⟩ := hq'
      subst ev
      obtain ⟨h2, g2, d2, t2, os'⟩ := s'
      obtain ⟨t0, G, J, kG, ge, hoe, na⟩ := mk_end0 (d2 := d2) (t2 := t2) I1 hsz kk un2 hok2 os2 bare2 ea ed hd1
      refine ⟨rv, ⟨hp.objs.size + 1, _, _, ⟨G, g2, d2, t2, os'⟩, _, .ref C, some d, rfl, J, kG, ge, hoe, ⟨rfl, rfl, fun vs hv => ?_⟩, rfl, rfl, na, rfl, bare2, raises_own T.exC T.tyC, q2⟩⟩
      cases hv
      rfl
    | next => exact False.elim hq'
    | brk => exact False.elim hq'
    | cont => exact False.elim hq'
/-! ### within a suite: calls of own defs -/
theorem hotC_suite {X : Cx} {a : Addr} {oe : Obj} {cls : Value} {d : Option Addr} {pn : List (Addr × Obj)} (hz : L2N.Zn cls d oe) (hf : ∃ vs, oe.data = .fields vs) : L2H.HotC (X.suite a ((a, oe) :: pn)) := by
  obtain ⟨vs, hd⟩ := hf
  exact ⟨(a, oe), ⟨rfl, vs, hd, hz.2.2 vs hd⟩, List.mem_cons_self⟩
theorem tk_suite {X : Cx} {a : Addr} {pn : List (Addr × Obj)} : L2N.Takes (X.suite a pn) (fun _ _ _ _ => False) := fun _ _ ⟨_, _, _, _, _, _, _, _, _, _, _, _, _, _, _, _, w⟩ => w.elim
theorem takes0N {X : Cx} : L2N.Takes X (fun _ _ _ _ => False) := fun _ _ ⟨_, _, _, _, _, _, _, _, _, _, _, _, _, _, _, _, w⟩ => w.elim
theorem fn_okH {P : Program} {w : World} {K : Frg} {mg : Str → Option Value} {base : Heap} {x qual : Str} {st : Stmt} {f : Addr} {fd : FuncData} {N ps : List Str} {k : Nat} (ms : List Bool) (spec : FS) (Fn : Fun K x qual st f fd) (S : FnScope N ps (defScope st)) (hms : ms.length = ps.length := by rfl)
    (hb : ∀ (cdv : Value) (A : Around) (outer : List PySem.Env) (s : Shared) (H : Hp) (E : XK) (p : Addr × Obj), L2H.Hot1 A p → L2H.RoomH k (A.deeper (envOfC qual (defScope st) s.heap.objs.size f cdv)) →
      ∃ ts t, PSs (L2H.cxH (L2N.CX P w) P w K mg base N qual (defScope st) f cdv A outer s H E p) (defBody st) ts ∧ SimS K (npOf ms) (fun cls d _ H' => E cls d H') ts t ∧
        ∀ ds q x, ds.length = ms.length → spec ds q x → t (endsOf ms ds q x) (ds.map some ++ List.replicate (N.length - ps.length) none)) :
    L2H.FnH P w K mg base (L2N.CX P w) (k + 1) f fd ps (spOf K ms spec) := by
  obtain ⟨oc, od, kV, doc, pm, an, cdv, ct, osl, rfl, lk, hcd⟩ := Fn.ex
  refine L2H.fn_ofH lk hcd S (spOf_len hms) fun A outer s H vs Q E p hot hr hsp => ?_
  obtain ⟨ts, t, h1, h2, h3⟩ := hb cdv A outer s H E p hot hr
  refine ⟨ts, h1, ?_⟩
  exact body_run hms h2 h3 hsp
theorem hotC_h {CX : CXT} {P : Program} {w : World} {K : Frg} {mg : Str → Option Value} {base : Heap} {N : List Str} {qual : Str} {scope : Scope} {f : Addr} {cd : Value} {A : Around} {outer : List PySem.Env} {s : Shared} {H : Hp} {E : XK} {p : Addr × Obj} (h : L2H.Hot1 A p) :
    L2H.HotC (L2H.cxH CX P w K mg base N qual scope f cd A outer s H E p) := ⟨p, h, List.mem_cons_self⟩
def OkH (P : Program) (w : World) (K : Frg) (mg : Str → Option Value) (base : Heap) (x : Str) (st : Stmt) (ps : List Str) (ms : List Bool) (k : Nat) (sp : FS) : Prop :=
  ∃ f fd, mg x = some (.ref f) ∧ PySem.W.keepIn K (.ref f) = true ∧ Binds K fd ps [] ∧ (∀ us : List Value, us.length = ps.length → bindArgs fd ⟨us, []⟩ = pure (ps.zip us)) ∧ L2H.FnH P w K mg base (L2N.CX P w) k f fd ps (spOf K ms sp)
theorem okh_of {P : Program} {w : World} {K : Frg} {mg : Str → Option Value} {base : Heap} {x : Str} {st : Stmt} {ps : List Str} {ms : List Bool} {k : Nat} {sp : FS} (t : Tx K mg x st ps)
    (h : ∀ f fd, Fun K x x st f fd → L2H.FnH P w K mg base (L2N.CX P w) k f fd ps (spOf K ms sp)) : OkH P w K mg base x st ps ms k sp := by
  obtain ⟨f, fd, g, F, b⟩ := t
  exact ⟨f, fd, g, F.kp, .all b, b, h f fd F⟩
section
variable {K : Frg} {np : Nat → Bool} {W : WX} {vw vw1 b b1 : Bool} {ta : TE} {ma : METy}
/-- list(x), a new list of one's own -/
def mNewL (ma : METy) : MATy := fun ρ q x => ma ρ (fun d ρ1 => match sq d with
  | some ds => fzs ds = true ∧ q ds ρ1
  | none => False) x
theorem simn_listC (ha : Sim K W vw1 b1 ta ma) : SimN K W b1 (tCB (fun xs H Q => ∃ p ys, xs = [.ref p] ∧ (SqL K H p ys ∨ SqT K H p ys) ∧ ∀ l, H l = none → Q (.ref l) (upd H l (.lst ys))) (tCons ta tNil)) (mNewL ma) := by
  intro B F σ ρ H Q q x s h k e
  refine ha B F σ ρ H _ _ x s h (fun v d ρ1 F1 H1 S1 s1 r1 m1 z1 a1 h1 => ?_) e
  split at h1
  · rename_i ds hs
    obtain ⟨a, ws, S2, rfl, hq, rr, _⟩ := r1.sqE hs
    have := rr.fzs0 h1.1; subst this
    refine ⟨a, ws, rfl, hq, fun p hp => ?_⟩
    refine k p ws ds ρ1 F1 _ (s1.lay hp trivial) upd_same (fun z => s1.dom.new hp (.inr z)) (rr.lay hp) (a1.ext (same_upd hp)) ?_ h1.2
    cases e0 : H p with
    | none => rfl
    | some o =>
      obtain ⟨o', e1⟩ := a1.stp.dom p o e0
      rw [hp] at e1; cases e1
  · exact h1.elim
/-- x op e, x a name whose thing is read behind e -/
def mOpL (f : F2) (i : Nat) (mb : METy) : METy := fun ρ q x => match ρ[i]? with
  | some (some _) => mb ρ (fun d2 ρ2 => match ρ2[i]? with
    | some (some d1) => f d1 d2 (fun d => q d ρ2)
    | _ => False) x
  | _ => False
theorem sim_opL {r : R2} {f : F2} {i : Nat} {tb : TE} {mb : METy} (hr : RSim K r f) (hb : Sim K W vw b tb mb) : Sim K W false b (tOp r (tVar i) tb) (mOpL f i mb) := by
  intro B F σ ρ H Q q x s h k e
  unfold mOpL at h
  split at h
  · rename_i d0 e0
    obtain ⟨v, S0, h1, _, _⟩ := s.env.get e0
    refine ⟨v, h1, ?_⟩
    refine hb B F σ ρ H _ _ x s h (fun v2 d2 ρ2 F2 H2 S2 s2 r2 m2 z2 a2 q2 => ?_) e
    split at q2
    · rename_i d1 e1
      obtain ⟨v', S1, h2, r1, _⟩ := s2.env.get e1
      rw [h1] at h2
      cases h2
      exact hr _ _ _ _ _ _ _ _ _ _ s2.dom r1 r2 q2 fun v d H' sm rr qq => k v d ρ2 F2 H' [] (s2.ext sm) rr (by simp) (fun _ => rfl) (a2.ext sm) qq
    · exact q2.elim
  · exact h.elim
end
end Mi
end

-- text MP
section
set_option Elab.async false
set_option linter.all false
set_option maxRecDepth 100000
set_option maxHeartbeats 4000000
/-! MP: a < b < c <= d; more built-ins. -/
namespace Mi
open PySem PySem.Spec PyProof.Rows L2
/-- a op1 b op2 c op3 d -/
def tChain3 (r r' r3 : R2) (ta tb tc td : TE) : TE := fun σ H Q => ta σ H fun x H1 => tb σ H1 fun y H2 => r x y H2 fun z H3 => ∃ k, z = .bl k ∧
  (if k = true then tc σ H3 fun w H4 => r' y w H4 fun z' H5 => ∃ k', z' = .bl k' ∧ (if k' = true then td σ H5 fun u H6 => r3 w u H6 Q else Q (.bl false) H5) else Q (.bl false) H3)
section
variable {X : Cx} {a b c d : Expr} {pos : Pos} {ta tb tc td : TE}
theorem pe_chain3 {op op' op3 : CmpOp} {r r' r3 : R2} (ho : OpR X (compareOp op) r) (ho' : OpR X (compareOp op') r') (ho3 : OpR X (compareOp op3) r3) (ha : PE X a ta) (hb : PE X b tb) (hc : PE X c tc) (hd : PE X d td)
    (hm : lastMarks [op, op', op3] [b, c, d] = false := by with_unfolding_all rfl) : PE X (.Compare a [op, op', op3] [b, c, d] pos) (tChain3 r r' r3 ta tb tc td) := by
  refine ⟨fun pins s σ H Q I h => ?_⟩
  refine Compare_chain (thn (ha.run pins s σ H _ I h) fun v s1 ⟨x, H1, I1, r1, q1⟩ => chain_link (thn (hb.run pins s1 σ H1 _ I1 q1) fun u s2 ⟨y, H2, I2, r2, q2⟩ =>
    thn (ho pins s2 σ H2 x y v u _ I2 r1 r2 q2) fun e0 s3 ⟨z, H3, I3, r3', k, e, q3⟩ => ?_)) hm
  subst e
  cases r3'
  refine wpAny_truthy_bool ?_
  cases k with
  | false => exact ite_ff ⟨.bl false, H3, I3, rfl, q3⟩
  | true =>
    refine ite_tt (chain_link (thn (hc.run pins s3 σ H3 _ I3 q3) fun w' s4 ⟨z', H4, I4, r4, q4⟩ => thn (ho' pins s4 σ H4 y z' u w' _ I4 r2 r4 q4) fun e1 s5 ⟨z5, H5, I5, r5, k', e', q5⟩ => ?_))
    subst e'
    cases r5
    refine wpAny_truthy_bool ?_
    cases k' with
    | false => exact ite_ff ⟨.bl false, H5, I5, rfl, q5⟩
    | true => exact ite_tt (chain_last (thn (hd.run pins s5 σ H5 _ I5 q5) fun w6 s6 ⟨z6, H6, I6, r6, q6⟩ => ho3 pins s6 σ H6 z' z6 w' w6 Q I6 r4 r6 q6))
theorem pt_chain3 {op op' op3 : CmpOp} {r r' r3 : R2} (ho : OpR X (compareOp op) r) (ho' : OpR X (compareOp op') r') (ho3 : OpR X (compareOp op3) r3) (ha : PE X a ta) (hb : PE X b tb) (hc : PE X c tc) (hd : PE X d td)
    (hm : lastMarks [op, op', op3] [b, c, d] = false := by with_unfolding_all rfl) : PT X (.Compare a [op, op', op3] [b, c, d] pos) (tTest (tChain3 r r' r3 ta tb tc td)) := by
  refine ⟨fun pins s σ H Q I h => ?_⟩
  refine isTrue_chain (thn (ha.run pins s σ H _ I h) fun v s1 ⟨x, H1, I1, r1, q1⟩ => test_link (thn (hb.run pins s1 σ H1 _ I1 q1) fun u s2 ⟨y, H2, I2, r2, q2⟩ =>
    thn (ho pins s2 σ H2 x y v u _ I2 r1 r2 q2) fun e0 s3 ⟨z, H3, I3, r3', k, e, q3⟩ => ?_)) hm
  subst e
  cases r3'
  refine wpAny_truthy_bool ?_
  cases k with
  | false =>
    obtain ⟨k', e', q'⟩ := q3
    cases e'
    exact ite_ff ⟨H3, I3, q'⟩
  | true =>
    refine ite_tt (test_link (thn (hc.run pins s3 σ H3 _ I3 q3) fun w' s4 ⟨z', H4, I4, r4, q4⟩ => thn (ho' pins s4 σ H4 y z' u w' _ I4 r2 r4 q4) fun e1 s5 ⟨z5, H5, I5, r5, k', e', q5⟩ => ?_))
    subst e'
    cases r5
    refine wpAny_truthy_bool ?_
    cases k' with
    | false =>
      obtain ⟨k', e', q'⟩ := q5
      cases e'
      exact ite_ff ⟨H5, I5, q'⟩
    | true =>
      refine ite_tt (test_last (thn (hd.run pins s5 σ H5 _ I5 q5) fun w6 s6 ⟨z6, H6, I6, r6, q6⟩ => thn (ho3 pins s6 σ H6 z' z6 w' w6 _ I6 r4 r6 q6) fun e2 s7 ⟨z7, H7, I7, r7, k7, e7, q7⟩ => ?_))
      subst e7
      cases r7
      exact wpAny_truthy_bool ⟨H7, I7, q7⟩
end
section
variable {K : Frg} {np : Nat → Bool} {W : WX} {vw vw1 vw2 b b1 b2 b3 b4 : Bool} {te ta tb tc td : TE} {ma mb mc md : METy}
def mChain3 (f g h : F2) (ma mb mc md : METy) : METy := fun ρ q x => ma ρ (fun d1 ρ1 => mb ρ1 (fun d2 ρ2 => f d1 d2 (fun r => match r with
  | .bl c => (c = true → mc ρ2 (fun d3 ρ3 => g d2 d3 (fun r' => match r' with
    | .bl c' => (c' = true → md ρ3 (fun d4 ρ4 => h d3 d4 (fun d => q d ρ4)) x) ∧ (c' = false → q (.bl false) ρ3)
    | _ => False)) x) ∧ (c = false → q (.bl false) ρ2)
  | _ => False)) x) x
theorem sim_chain3 {r r' r3 : R2} {f g h3 : F2} (hr : RSim K r f) (hr' : RSim K r' g) (hr3 : RSim K r3 h3) (ha : Sim K W false b1 ta ma) (hb : Sim K W false b2 tb mb) (hc : Sim K W false b3 tc mc) (hd : Sim K W false b4 td md) : Sim K W false false (tChain3 r r' r3 ta tb tc td) (mChain3 f g h3 ma mb mc md) := by
  intro B F σ ρ H Q q x s h k e
  refine ha B F σ ρ H _ _ x s h (fun v1 d1 ρ1 F1 H1 S1 s1 r1 m1 z1 a1 h1 => ?_) e
  refine hb B F1 σ ρ1 H1 _ _ x s1 h1 (fun v2 d2 ρ2 F2 H2 S2 s2 r2 m2 z2 a2 h2 => ?_) (e.aft a1.stp)
  have := z1 rfl; have := z2 rfl; subst_vars
  refine hr (Gof F2 B) H2 v1 v2 d1 d2 [] [] _ _ s2.dom (r1.aftV s1 a2 (.inl rfl)) r2 h2 fun v d H' sm rv p => ?_
  have st2 := ((a1.trans a2).ext sm).stp
  split at p
  · rename_i c
    have := rv.bl; subst this
    refine ⟨c, rfl, ?_⟩
    cases c with
    | true =>
      rw [if_pos rfl]
      have s3 := s2.ext sm
      have r2' := r2.same sm
      refine hc B F2 σ ρ2 H' _ _ x s3 (p.1 rfl) (fun v3 d3 ρ3 F3 H3 S3 s4 r3 m3 z3 a3 h3 => ?_) (e.aft st2)
      have := z3 rfl; subst this
      refine hr' (Gof F3 B) H3 v2 v3 d2 d3 [] [] _ _ s4.dom (r2'.aftV s3 a3 (.inl rfl)) r3 h3 fun v d H'' sm' r p => ?_
      have st3 := st2.trans (a3.ext sm').stp
      split at p
      · rename_i c'
        have := r.bl; subst this
        refine ⟨c', rfl, ?_⟩
        cases c' with
        | true =>
          rw [if_pos rfl]
          have s5 := s4.ext sm'
          have r3' := r3.same sm'
          refine hd B F3 σ ρ3 H'' _ _ x s5 (p.1 rfl) (fun v4 d4 ρ4 F4 H4 S4 s6 r4 m4 z4 a4 h4 => ?_) (e.aft st3)
          have := z4 rfl; subst this
          refine hr3 (Gof F4 B) H4 v3 v4 d3 d4 [] [] _ _ s6.dom (r3'.aftV s5 a4 (.inl rfl)) r4 h4 fun v d H5 sm5 r p => ?_
          exact k v d ρ4 F4 H5 [] (s6.ext sm5) r (by simp) (fun _ => rfl) ⟨st3.trans (a4.ext sm5).stp, fun z => nomatch z⟩ p
        | false =>
          rw [if_neg (by decide)]
          exact k _ _ ρ3 F3 H'' [] (s4.ext sm') .bl1 (by simp) (fun _ => rfl) ⟨st3, fun z => nomatch z⟩ (p.2 rfl)
      · exact p.elim
    | false =>
      rw [if_neg (by decide)]
      exact k _ _ ρ2 F2 H' [] (s2.ext sm) .bl1 (by simp) (fun _ => rfl) ⟨st2, fun z => nomatch z⟩ (p.2 rfl)
  · exact p.elim
end
end Mi
end

-- text MQ
section
set_option Elab.async false
set_option linter.all false
set_option maxRecDepth 100000
set_option maxHeartbeats 4000000
/-! MQ: sum, any, all, max, min, sorted of a list. -/
namespace Mi
open PySem PySem.Spec PyProof.Rows L2
section
variable {K : Frg}
def lsq : D → Option (List D)
  | .lst es => some es
  | .rol es => some es
  | .mls es => some es
  | _ => none
theorem R.lsqE {G : Addr → Prop} {H : Hp} {v : V} {d : D} {S} {ds : List D} (r : R K G H [v] [d] S) (h : lsq d = some ds) : ∃ a ws S1, v = .ref a ∧ SqL K H a ws ∧ R K G H ws ds S1 := by
  cases d <;> simp only [lsq] at h <;> cases h
  · obtain ⟨a, ws, rfl, hs, rr⟩ := r.lstE
    exact ⟨a, ws, [], rfl, .inl (.inl hs), rr⟩
  · obtain ⟨a, ws, rfl, hs, rr⟩ := r.rolE
    exact ⟨a, ws, [], rfl, hs, rr⟩
  · obtain ⟨a, ws, S1, rfl, hs, rr⟩ := r.mlsE
    exact ⟨a, ws, S1, rfl, .inl (.inl hs), rr⟩
theorem R.ints {G : Addr → Prop} {H : Hp} : ∀ {ws : List V} {xs : List Int} {S}, R K G H ws (xs.map D.int) S → ws = xs.map V.int
  | [], [], _, _ => rfl
  | [], _ :: _, _, r => by cases r
  | _ :: _, [], _, r => by cases r
  | w :: ws, x :: xs, _, r => by
    obtain ⟨S1, S2, z, r1, r2⟩ := r.uncons
    have := r1.int
    subst this
    rw [R.ints r2]
    rfl
theorem R.bls {G : Addr → Prop} {H : Hp} : ∀ {ws : List V} {xs : List Bool} {S}, R K G H ws (xs.map D.bl) S → ws = xs.map V.bl
  | [], [], _, _ => rfl
  | [], _ :: _, _, r => by cases r
  | _ :: _, [], _, r => by cases r
  | w :: ws, x :: xs, _, r => by
    obtain ⟨S1, S2, z, r1, r2⟩ := r.uncons
    have := r1.bl
    subst this
    rw [R.bls r2]
    rfl
theorem R.ofInts' {G : Addr → Prop} {H : Hp} : ∀ xs : List Int, R K G H (xs.map V.int) (xs.map D.int) []
  | [] => .nil
  | x :: xs => R.cons0 .int1 (R.ofInts' xs)
def fSum : FL := fun ds q => match ds with
  | [d] => ∃ ns : List Int, lsq d = some (ns.map D.int) ∧ q (.int ns.sum)
  | _ => False
theorem cs_sum : CSim K (rSum K) fSum := by
  intro G H vs ds S Q q dm r h k
  unfold fSum at h
  split at h
  · obtain ⟨v, rfl⟩ := len1 r
    obtain ⟨ns, hd, hq⟩ := h
    obtain ⟨a, ws, S1, rfl, hs, rr⟩ := r.lsqE hd
    have := rr.ints; subst this
    exact ⟨a, ns, rfl, hs, k _ _ H (Same.refl _) .int1 hq⟩
  · exact h.elim
def fAny : FL := fun ds q => match ds with
  | [d] => ∃ bs : List Bool, lsq d = some (bs.map D.bl) ∧ q (.bl (bs.any id))
  | _ => False
def fAll : FL := fun ds q => match ds with
  | [d] => ∃ bs : List Bool, lsq d = some (bs.map D.bl) ∧ q (.bl (bs.all id))
  | _ => False
theorem cs_any : CSim K (rAny K) fAny := by
  intro G H vs ds S Q q dm r h k
  unfold fAny at h
  split at h
  · obtain ⟨v, rfl⟩ := len1 r
    obtain ⟨ns, hd, hq⟩ := h
    obtain ⟨a, ws, S1, rfl, hs, rr⟩ := r.lsqE hd
    have := rr.bls; subst this
    exact ⟨a, ns, rfl, hs, k _ _ H (Same.refl _) .bl1 hq⟩
  · exact h.elim
theorem cs_all : CSim K (rAll K) fAll := by
  intro G H vs ds S Q q dm r h k
  unfold fAll at h
  split at h
  · obtain ⟨v, rfl⟩ := len1 r
    obtain ⟨ns, hd, hq⟩ := h
    obtain ⟨a, ws, S1, rfl, hs, rr⟩ := r.lsqE hd
    have := rr.bls; subst this
    exact ⟨a, ns, rfl, hs, k _ _ H (Same.refl _) .bl1 hq⟩
  · exact h.elim
def fMaxL : FL := fun ds q => match ds with
  | [d] => ∃ ns : List Int, lsq d = some (ns.map D.int) ∧ 0 < ns.length ∧ ∀ m, m ∈ ns → (∀ y, y ∈ ns → y ≤ m) → q (.int m)
  | _ => False
def fMinL : FL := fun ds q => match ds with
  | [d] => ∃ ns : List Int, lsq d = some (ns.map D.int) ∧ 0 < ns.length ∧ ∀ m, m ∈ ns → (∀ y, y ∈ ns → m ≤ y) → q (.int m)
  | _ => False
theorem cs_maxL : CSim K (rMax K) fMaxL := by
  intro G H vs ds S Q q dm r h k
  unfold fMaxL at h
  split at h
  · obtain ⟨v, rfl⟩ := len1 r
    obtain ⟨ns, hd, hl, hq⟩ := h
    obtain ⟨a, ws, S1, rfl, hs, rr⟩ := r.lsqE hd
    have := rr.ints; subst this
    exact ⟨a, ns, rfl, hs, hl, fun m h1 h2 => k _ _ H (Same.refl _) .int1 (hq m h1 h2)⟩
  · exact h.elim
theorem cs_minL : CSim K (rMin K) fMinL := by
  intro G H vs ds S Q q dm r h k
  unfold fMinL at h
  split at h
  · obtain ⟨v, rfl⟩ := len1 r
    obtain ⟨ns, hd, hl, hq⟩ := h
    obtain ⟨a, ws, S1, rfl, hs, rr⟩ := r.lsqE hd
    have := rr.ints; subst this
    exact ⟨a, ns, rfl, hs, hl, fun m h1 h2 => k _ _ H (Same.refl _) .int1 (hq m h1 h2)⟩
  · exact h.elim
/-- sorted(xs), ints -/
def fSortI : FL := fun ds q => match ds with
  | [d] => ∃ ns : List Int, lsq d = some (ns.map D.int) ∧ ∀ ns' : List Int, ns'.Perm ns → ns'.Pairwise (· ≤ ·) → q (.lst (ns'.map D.int))
  | _ => False
theorem cs_sortI : CSim K (rSortedI K) fSortI := by
  intro G H vs ds S Q q dm r h k
  unfold fSortI at h
  split at h
  · obtain ⟨v, rfl⟩ := len1 r
    obtain ⟨ns, hd, hq⟩ := h
    obtain ⟨a, ws, S1, rfl, hs, rr⟩ := r.lsqE hd
    have := rr.ints; subst this
    exact ⟨a, ns, rfl, hs, fun ns' p h1 h2 hp => k _ _ _ (same_upd hp) (.newL dm hp (R.ofInts' ns')) (hq ns' h1 h2)⟩
  · exact h.elim
/-! max(xs, default=i) -/
def rMaxDf (K : Frg) : List V → List V → Hp → VK → Prop := fun vs zs H Q => ∃ (a : Addr) (ns : List Int) (i : Int), vs = [V.ref a] ∧ zs = [V.int i] ∧ SqL K H a (ns.map V.int) ∧ (ns = [] → Q (.int i) H) ∧ ∀ m, m ∈ ns → (∀ y, y ∈ ns → y ≤ m) → Q (.int m) H
theorem maxOf_mem (x : Int) : ∀ xs : List Int, PySem.W.maxOf x xs ∈ x :: xs ∧ ∀ y, y ∈ x :: xs → y ≤ PySem.W.maxOf x xs := by
  intro xs
  unfold PySem.W.maxOf
  induction xs generalizing x with
  | nil => simp
  | cons z zs ih =>
    rw [List.foldl_cons]
    have e : (if PySem.W.DatumOrd.lt x z then z else x) = max x z := by
      show (if decide (x < z) = true then z else x) = _
      by_cases h : x < z
      · rw [if_pos (decide_eq_true h)]; omega
      · rw [if_neg (by simpa using h)]; omega
    rw [e]
    obtain ⟨h1, h2⟩ := ih (max x z)
    constructor
    · rcases List.mem_cons.mp h1 with h1 | h1
      · rw [h1]
        by_cases h : x < z
        · rw [show max x z = z by omega]; simp
        · rw [show max x z = x by omega]; simp
      · simp [h1]
    · intro y hy
      have hm := h2 (max x z) List.mem_cons_self
      rcases List.mem_cons.mp hy with rfl | hy
      · omega
      · rcases List.mem_cons.mp hy with rfl | hy
        · omega
        · exact h2 y (List.mem_cons_of_mem _ hy)
theorem cr_maxDf {X : Cx} (hc : X.calm = true) (hu : X.A.units + 64 < cLine) : CallRK X (.builtin "max") [Str.ofString "default"] (rMaxDf X.K) := by
  intro pins s σ H vs zs us ws Q I r rz h
  obtain ⟨a, ns, i, rfl, rfl, hs, q0, q1⟩ := h
  obtain ⟨its, rv, hl, _⟩ := I.list hs
  obtain rfl := Vals.ref1 r
  obtain ⟨w1, rfl, e1⟩ := vals1 rz
  obtain ⟨t, rfl⟩ : ∃ t, w1 = Value.int i t := e1
  have hi := rv.ints
  refine PySem.W.max_list_datum_default (I.ok.hd hc) hl.isList (PySem.W.HoldAll.of_ints hi) (by show X.A.units + 1 + 0 < cLine; omega) (fun e h' tk hk => ?_) fun y ys j v h' tk e hj hv hk => ?_
  · exact ⟨.int i, H, I.kept hk, ⟨_, rfl⟩, q0 e⟩
  · subst e
    obtain ⟨h1, h2⟩ := maxOf_mem y ys
    have hv : ∃ t, v = Value.int (PySem.W.maxOf y ys) t := by
      obtain ⟨as, hv⟩ := hv
      cases hv
      exact ⟨_, rfl⟩
    exact ⟨.int _, H, I.kept hk, hv, q1 _ h1 h2⟩
/-- max(xs, default=i) -/
def mMaxD (ma md : MATy) : METy := fun ρ q x => ma ρ (fun ds ρ1 => md ρ1 (fun es ρ2 => match ds, es with
  | [d], [.int i] => ∃ ns : List Int, lsq d = some (ns.map D.int) ∧ (ns = [] → q (.int i) ρ2) ∧ ∀ m, m ∈ ns → (∀ y, y ∈ ns → y ≤ m) → q (.int m) ρ2
  | _, _ => False) x) x
theorem sim_maxD {W : WX} {b1 b2 : Bool} {ta tk : TA} {ma md : MATy} (ha : SimA K W vw1 b1 ta ma) (hk : SimA K W vw2 b2 tk md) (hv : (!vw1 || b2) = true := by rfl) : Sim K W false (b1 && b2) (tCKw (rMaxDf K) ta tk) (mMaxD ma md) := by
  intro B F σ ρ H Q q x s h k e
  refine ha B F σ ρ H _ _ x s h (fun vs ds ρ1 F1 H1 S1 s1 r1 m1 z1 a1 h1 => ?_) e
  refine hk B F1 σ ρ1 H1 _ _ x s1 h1 (fun zs es ρ2 F2 H2 S2 s2 r2 m2 z2 a2 h2 => ?_) (e.aft a1.stp)
  have hs : S1 = [] ∨ b2 = true := by
    cases vw1 with
    | false => exact .inl (z1 rfl)
    | true => exact .inr (by simpa using hv)
  have r1' := r1.aftV s1 a2 hs
  split at h2
  · rename_i d i
    obtain ⟨ns, hd, q0, q1⟩ := h2
    obtain ⟨v, rfl⟩ := len1 r1'
    obtain ⟨z, rfl⟩ := len1 r2
    have := r2.int; subst this
    obtain ⟨a, ws, S3, rfl, hsq, rr⟩ := r1'.lsqE hd
    have := rr.ints; subst this
    exact ⟨a, ns, i, rfl, rfl, hsq, fun e => k _ _ ρ2 F2 H2 [] s2 .int1 (by simp) (fun _ => rfl) (a1.trans a2) (q0 e), fun m h1 h2 => k _ _ ρ2 F2 H2 [] s2 .int1 (by simp) (fun _ => rfl) (a1.trans a2) (q1 m h1 h2)⟩
  · exact h2.elim
end
end Mi
namespace Mi
open PySem PySem.Spec PyProof.Rows L2
section
variable {K : Frg} {W : WX}
/-- an own list is frozen where it stands -/
theorem Sta.keep {B : Bg} {F : List Addr} {σ : L2.St} {ρ : Env} {H : Hp} {i : Nat} {ds : List D} (s : Sta K B F σ ρ H) (h : ρ[i]? = some (some (.mls ds))) (hf : fzs ds = true) :
    ∃ v F', σ[i]? = some (some v) ∧ Sta K B F' σ (ρ.set i (some (.lst ds))) H ∧ R K (Gof F' B) H [v] [.lst ds] [] ∧ Stp F H F' H := by
  obtain ⟨v, F1, h1, s1, r1, st1⟩ := s.move h hf
  have hi : i < ρ.length := (List.getElem?_eq_some_iff.mp h).1
  obtain ⟨S2, e2, pm⟩ := s1.env.put (i := i) (by simp [hi]) r1
  rw [List.nil_append] at pm
  have eσ : σ.set i (some v) = σ := by
    apply List.ext_getElem?
    intro j
    rw [List.getElem?_set]
    split
    · rename_i e
      subst e
      split
      · exact h1.symm
      · rename_i hn
        rw [List.getElem?_eq_none (by omega)]
    · rfl
  have eρ : (ρ.set i none).set i (some (.lst ds)) = ρ.set i (some (.lst ds)) := by rw [List.set_set]
  rw [eσ, eρ] at e2
  have cv : ∀ a o, H a = some o → ¬ Gof F1 B a → ¬ Gof S2 B a := fun a o _ n z => by
    rcases z with z | z
    · exact n (.inl (pm.mem_iff.mp z))
    · exact n (.inr z)
  exact ⟨v, S2, h1, ⟨e2.conv cv, pm.nodup_iff.mpr s1.nd, fun a z => s1.ap a (pm.mem_iff.mp z), s1.old, s1.pin⟩, r1.conv cv, ⟨fun a o e _ => e, fun a z => st1.fresh a (pm.mem_iff.mp z), fun a o e => ⟨o, e⟩⟩⟩
def mKeep (i : Nat) : METy := fun ρ q _ => match ρ[i]? with
  | some (some (.mls ds)) => (match fzs ds with
    | true => q (.lst ds) (ρ.set i (some (.lst ds)))
    | false => False)
  | some (some d) => (match d.fz with
    | true => q d ρ
    | false => False)
  | _ => False
theorem sim_keep {i : Nat} : Sim K W false false (tVar i) (mKeep i) := by
  intro B F σ ρ H Q q x s h k _
  unfold mKeep at h
  split at h
  · rename_i ds e
    split at h
    · rename_i hf
      obtain ⟨v, F', h1, h2, h3, h4⟩ := s.keep e hf
      exact ⟨v, h1, k v _ _ F' H [] h2 h3 (by simp) (fun _ => rfl) ⟨h4, fun z => nomatch z⟩ h⟩
    · exact h.elim
  · rename_i d _ e
    split at h
    · rename_i hf
      obtain ⟨v, S1, h1, h2, _⟩ := s.env.get e
      have := h2.fz0 hf; subst this
      exact ⟨v, h1, k v d ρ F H [] s h2 (by simp) (fun _ => rfl) .refl h⟩
    · exact h.elim
  · exact h.elim
end
end Mi
namespace Mi
open PySem PySem.Spec PyProof.Rows L2
section
variable {K : Frg}
/-- a written tuple so many times -/
def fMulT : F2 := fun x y q => match x, y with
  | .tup es, .int j => (es ≠ [] ∧ 2 ≤ j ∧ j ≤ 1000 ∧ es.length ≤ 1000) ∧ q (.tup (List.replicate j.toNat es).flatten)
  | _, _ => False
theorem rs_mulT : RSim K (rRepT K) fMulT := by
  intro G H v1 v2 d1 d2 S1 S2 Q q dm r1 r2 h k
  unfold fMulT at h
  split at h
  · rename_i es j
    obtain ⟨⟨h0, h1, h2, h3⟩, hq⟩ := h
    obtain ⟨a, ws, rfl, hs, rr⟩ := r1.tupE
    have := r2.int; subst this
    have hl := rr.length
    refine ⟨a, j, ws, rfl, rfl, hs, fun e => h0 ?_, h1, h2, by omega, fun p hp => k _ _ _ (same_upd hp) (.newT hp (rr.rep _)) hq⟩
    rw [e] at hl
    exact List.length_eq_zero_iff.mp hl.symm
  · exact h.elim
end
end Mi
namespace Mi
open PySem PySem.Spec PyProof.Rows L2
section
variable {K : Frg} {W : WX} {vw1 vw2 b1 b2 : Bool} {ta tb : TE}
/-- a list put together of two, new -/
def mCatN (ma mb : METy) : MATy := fun ρ q x => ma ρ (fun d1 ρ1 => mb ρ1 (fun d2 ρ2 => match d1, d2 with
  | .lst a, .lst c => a.length + c.length ≤ 16777216 ∧ q (a ++ c) ρ2
  | _, _ => False) x) x
theorem simn_cat {ma mb : METy} (ha : Sim K W false b1 ta ma) (hb : Sim K W false b2 tb mb) : SimN K W (b1 && b2) (tOp (rAddA K) ta tb) (mCatN ma mb) := by
  intro B F σ ρ H Q q x s h k e
  refine ha B F σ ρ H _ _ x s h (fun v1 d1 ρ1 F1 H1 S1 s1 r1 m1 z1 a1 h1 => ?_) e
  refine hb B F1 σ ρ1 H1 _ _ x s1 h1 (fun v2 d2 ρ2 F2 H2 S2 s2 r2 m2 z2 a2 h2 => ?_) (e.aft a1.stp)
  have := z1 rfl; subst this
  have := z2 rfl; subst this
  have r1' := r1.aftσ s1 a2.stp
  split at h2
  · rename_i a c
    obtain ⟨hl, hq⟩ := h2
    obtain ⟨x, ws, rfl, hx, rx⟩ := r1'.lstE
    obtain ⟨y, zs, rfl, hy, ry⟩ := r2.lstE
    refine .inr (.inr (.inl ⟨x, y, ws, zs, rfl, rfl, hx, hy, by rw [rx.length, ry.length, line_eq]; exact hl, fun p hp => ?_⟩))
    refine k p _ (a ++ c) ρ2 F2 _ (s2.lay hp trivial) upd_same (fun z => s2.dom.new hp (.inr z)) ((rx.app ry).lay hp) ((a1.trans a2).ext (same_upd hp)) ?_ hq
    cases e0 : H p with
    | none => rfl
    | some o =>
      obtain ⟨o', e1⟩ := (a1.trans a2).stp.dom p o e0
      rw [hp] at e1; cases e1
  · exact h2.elim
end
end Mi
end

-- text MR
section
set_option Elab.async false
set_option linter.all false
set_option maxRecDepth 100000
set_option maxHeartbeats 4000000
/-! MR: a try's suite, statement by statement. -/
namespace Mi
open PySem PySem.Spec PyProof.Rows L2
def Dv (np : Nat → Bool) (X : Cx) (st : Stmt) (m : MSTy) : Prop := ∃ ts : WX → TS, (∀ (W : WX) (pn : List (Addr × Obj)) (xe : Value → Shared → Prop), L2N.Takes (X.tr pn xe) W → PassesOwn (model X.prog X.w) X.A X.env xe → PS (X.tr pn xe) st (ts W)) ∧ ∀ W, SimS X.K np W (ts W) m
def Dvs (np : Nat → Bool) (X : Cx) (st : List Stmt) (m : MSTy) : Prop := ∃ ts : WX → TS, (∀ (W : WX) (pn : List (Addr × Obj)) (xe : Value → Shared → Prop), L2N.Takes (X.tr pn xe) W → PassesOwn (model X.prog X.w) X.A X.env xe → PSs (X.tr pn xe) st (ts W)) ∧ ∀ W, SimS X.K np W (ts W) m
section
variable {np : Nat → Bool} {X : Cx} {st : Stmt} {rest : List Stmt} {m M : MSTy}
theorem dv_cons (h1 : Dv np X st m) (h2 : Dvs np X rest M) : Dvs np X (st :: rest) (mSeq m M) := by
  obtain ⟨t1, p1, s1⟩ := h1
  obtain ⟨t2, p2, s2⟩ := h2
  exact ⟨fun W => tSeq (t1 W) (t2 W), fun W pn xe tk po => pss_cons (p1 W pn xe tk po) (p2 W pn xe tk po), fun W => ss_cons (s1 W) (s2 W)⟩
theorem dv_one (h1 : Dv np X st m) : Dvs np X [st] m := by
  obtain ⟨t1, p1, s1⟩ := h1
  exact ⟨t1, fun W pn xe tk po => pss_one (p1 W pn xe tk po), s1⟩
def T1 (np : Nat → Bool) (W : WX) (X : Cx) (st : Stmt) (m : MSTy) : Prop := ∃ ts : TS, PS X st ts ∧ SimS X.K np W ts m
def T2 (np : Nat → Bool) (W : WX) (X : Cx) (st : List Stmt) (m : MSTy) : Prop := ∃ ts : TS, PSs X st ts ∧ SimS X.K np W ts m
theorem t_cons {W : WX} (h1 : T1 np W X st m) (h2 : T2 np W X rest M) : T2 np W X (st :: rest) (mSeq m M) := by
  obtain ⟨t1, p1, s1⟩ := h1
  obtain ⟨t2, p2, s2⟩ := h2
  exact ⟨_, pss_cons p1 p2, ss_cons s1 s2⟩
theorem t_cut {W : WX} (h1 : T1 np W X st m) (h2 : T2 np W X rest M) : T2 np W X (st :: rest) (mSeqC m M) := by
  obtain ⟨t1, p1, s1⟩ := h1
  obtain ⟨t2, p2, s2⟩ := h2
  exact ⟨_, pss_cons p1 p2, ss_cut s1 s2⟩
theorem t_one {W : WX} (h1 : T1 np W X st m) : T2 np W X [st] m := by
  obtain ⟨t1, p1, s1⟩ := h1
  exact ⟨_, pss_one p1, s1⟩
theorem t1_arg {W : WX} {e : Expr} {b : Bool} {me : METy} (hout : ∀ te : TE, PE X e te → Sim X.K W false b te me → T1 np W X st m) (hin : ∃ te : TE, PE X e te ∧ Sim X.K W false b te me) : T1 np W X st m := by
  obtain ⟨te, p, s⟩ := hin
  exact hout te p s
theorem dv_try_as {n x : Str} {i j : Nat} {C : Addr} {Wout : WX} {body suite : List Stmt} {b₀ : Stmt} {np' pos' pos : Pos} {mb : MSTy} {ms : Xc → MSTy}
    (hs : X.stack = X.env :: X.outer) (hf : X.env.frame = some X.env.locals) (hN : X.N.Nodup) (hi : X.N[i]? = some n) (hln : X.env.kindOf n = some .local) (hc : Names X x (.ref C)) (tk : L2N.Takes X Wout) (hx : XCls X.K j C)
    (hbd : Dvs np X body mb) (hsu : ∃ ts : Addr → Value → Option Addr → TS, (∀ (a : Addr) (oe : Obj) (cls : Value) (d : Option Addr) (pn : List (Addr × Obj)), L2N.Zn cls d oe → (∃ vs, oe.data = .fields vs) → PSs (X.suite a ((a, oe) :: pn)) (b₀ :: suite) (ts a cls d)) ∧ ∀ c : Xc, SimS X.K np (fun _ _ _ _ => False) (ts c.a c.v c.d) (ms c))
    (hj : j < 16 := by decide) (hi2 : np i = false := by rfl) :
    ∃ T, PSs X [.Try body [.ExceptHandler (some (.Name x np')) (some n) (b₀ :: suite) pos'] [] [] pos] T ∧ SimS X.K np Wout T (mTryAs j i mb ms) := by
  obtain ⟨tb, hb1, hb2⟩ := hbd
  obtain ⟨ts, h1, h2⟩ := hsu
  exact ⟨_, pss_one (L2N.ps_try_as hs hf hN hi hln hc tk hb1 h1), ss_try_as hx hb2 h2 hj hi2⟩
end
end Mi
end

-- text MS
section
set_option Elab.async false
set_option linter.all false
set_option maxRecDepth 100000
set_option maxHeartbeats 4000000
/-! MS: a, b = x, y. -/
namespace Mi
open PySem PySem.Spec PyProof.Rows L2
section
variable {K : Frg} {np : Nat → Bool} {W : WX} {b : Bool} {ta : TA}
def mPar (i j : Nat) (ma : MATy) : MSTy := fun E ρ => ma ρ (fun ds ρ1 => match ds with
  | [d, e] => (match Nat.blt i ρ1.length && Nat.blt j ρ1.length with
    | true => E.nx ((ρ1.set i (some d)).set j (some e))
    | false => False)
  | _ => False) E.ex
theorem ss_par {i j : Nat} {ma : MATy} (ha : SimA K W false b ta ma) (hi : np i = false := by rfl) (hj : np j = false := by rfl) : SimS K np W (tPar i j ta) (mPar i j ma) := by
  intro B F σ ρ H D E hp s h k
  refine ha B F σ ρ H _ _ E.ex s h (fun vs ds ρ1 F1 H1 S1 s1 r1 m1 z1 a1 h1 => ?_) (k.ex σ)
  have := z1 rfl; subst this
  have pins : ∀ l, np l = false → ∀ p ∈ B.pn, p.1 ≠ l := fun l hl p z e => by
    have := hp p z
    rw [e, hl] at this
    cases this
  split at h1
  · rename_i d e
    split at h1
    · rename_i hb
      rw [Bool.and_eq_true, Nat.blt_eq, Nat.blt_eq] at hb
      match vs, r1.length with
      | [v, w], _ =>
        obtain ⟨T1, T2, eT, rv, rw'⟩ := r1.uncons
        have hT := List.append_eq_nil_iff.mp eT.symm
        rw [hT.1] at rv
        rw [hT.2] at rw'
        obtain ⟨F2, s2, st2⟩ := s1.store hb.1 (pins i hi) rv
        obtain ⟨F3, s3, st3⟩ := s2.store (by rw [List.length_set]; exact hb.2) (pins j hj) (rw'.aftσ s1 st2)
        exact ⟨v, w, rfl, k.nx _ _ F3 _ s3 (a1.stp.trans (st2.trans st3)) h1⟩
    · exact h1.elim
  · exact h1.elim
/-- xs.extend(ys), ys a list that is not xs -/
def mExtend (i : Nat) (ma : METy) : MSTy := fun E ρ => match ρ[i]? with
  | some (some (.mls _)) => ma ρ (fun d ρ1 => match ρ1[i]?, d with
    | some (some (.mls ds)), .lst es => ds.length + es.length ≤ 16777216 ∧ E.nx (ρ1.set i (some (.mls (ds ++ es))))
    | _, _ => False) E.ex
  | _ => False
theorem ss_extend {i : Nat} {te : TE} {ma : METy} (ha : Sim K W false b te ma) : SimS K np W (tDrop (tBM K "list" rExtend (tVar i) (tCons te tNil))) (mExtend i ma) := by
  intro B F σ ρ H D E hp s h k
  unfold mExtend at h
  split at h
  · rename_i ds0 e0
    obtain ⟨p, ws0, h1, h2⟩ := s.own e0
    refine ⟨.ref p, h1, .inl ⟨rfl, ws0, SqL.of h2⟩, ?_⟩
    refine ha B F σ ρ H _ _ E.ex s h (fun v1 d1 ρ1 F1 H1 S1 s1 r1 m1 z1 a1 p1 => ?_) (k.ex σ)
    have := z1 rfl; subst this
    split at p1
    · rename_i ds es e1
      obtain ⟨p', ws, S2, g1, g2, g3, ch⟩ := s1.change e1
      rw [h1] at g1; cases g1
      have nd := s1.nodup_sub e1 h1 g2 g3
      obtain ⟨a, zs, rfl, hz, rz⟩ := r1.lstE
      obtain ⟨F2, s2, st2⟩ := ch (ws ++ zs) (ds ++ es) S2 (by have := g3.app rz; rwa [List.append_nil] at this) (fun a z => z) nd
      exact ⟨p, a, ws, zs, rfl, rfl, g2, hz, by rw [g3.length, rz.length, line_eq]; exact p1.1, k.nx σ _ F2 _ s2 (a1.stp.trans st2) p1.2⟩
    · exact p1.elim
  · exact h.elim
/-- ord(x) -/
def fOrd : FL := fun ds q => match ds with
  | [.str [c]] => q (.int (c : Int))
  | _ => False
theorem cs_ord : CSim K (fun xs H Q => ∃ x, xs = [.str x] ∧ x.length = 1 ∧ Q (.int (x.cps.getD 0 0 : Nat)) H) fOrd := by
  intro G H vs ds S Q q dm r h k
  unfold fOrd at h
  split at h
  · rename_i c
    obtain ⟨v, rfl⟩ := len1 r
    obtain ⟨rfl, _⟩ := r.str
    exact ⟨_, rfl, by rw [str_len]; rfl, k _ _ H (Same.refl _) .int1 h⟩
  · exact h.elim
/-- str(i) -/
def decL (i : Int) : List Nat := (Str.ofString (toString i)).cps.toList
def fStrI : FL := fun ds q => match ds with
  | [.int i] => (i.natAbs.log2 < 1920 ∧ (decL i).length ≤ 16777216) ∧ q (.str (decL i))
  | _ => False
theorem cs_strI : CSim K (fun xs H Q => ∃ i : Int, xs = [.int i] ∧ i.natAbs.log2 < 1920 ∧ Q (.str (Str.ofString (toString i))) H) fStrI := by
  intro G H vs ds S Q q dm r h k
  unfold fStrI at h
  split at h
  · rename_i i
    obtain ⟨v, rfl⟩ := len1 r
    have := r.int; subst this
    obtain ⟨⟨h1, h2⟩, hq⟩ := h
    refine ⟨i, rfl, h1, ?_⟩
    have e : Str.ofString (toString i) = (⟨(decL i).toArray⟩ : Str) := by
      unfold decL
      simp
    rw [e]
    exact k _ _ H (Same.refl _) (.str1 (by rw [line_eq]; exact h2)) hq
  · exact h.elim
end
end Mi
end

-- text MT
section
set_option Elab.async false
set_option linter.all false
set_option maxRecDepth 100000
set_option maxHeartbeats 4000000
/-! MT: the caught error handed to a def: the def's promise knows which error is handled. -/
namespace Mi
open PySem PySem.Spec PyProof.Rows L2
/-- oe is c's object, it is the handled one -/
structure HotE (A : Around) (c : Xc) (oe : Obj) : Prop where
  hot : L2H.Hot1 A (c.a, oe)
  zn : L2N.Zn c.v c.d oe
  flds : ∃ vs, oe.data = .fields vs
def PinC (X : Cx) (c : Xc) : Prop := ∃ oe, HotE X.A c oe ∧ (c.a, oe) ∈ X.pn
theorem PinC.hotC {X : Cx} {c : Xc} (h : PinC X c) : L2H.HotC X := by
  obtain ⟨oe, h1, h2⟩ := h
  exact ⟨_, h1.hot, h2⟩
theorem pinC_suite {X : Cx} {a : Addr} {oe : Obj} {cls : Value} {d : Option Addr} {pn : List (Addr × Obj)} (hz : L2N.Zn cls d oe) (hf : ∃ vs, oe.data = .fields vs) : PinC (X.suite a ((a, oe) :: pn)) ⟨a, d, cls⟩ := by
  refine ⟨oe, ⟨⟨rfl, ?_⟩, hz, hf⟩, List.mem_cons_self⟩
  obtain ⟨vs, hd⟩ := hf
  exact ⟨vs, hd, hz.2.2 vs hd⟩
section
variable {P : Program} {w : World} {K : Frg} {mg : Str → Option Value} {base : Heap} {CX : CXT}
theorem e_kin {A : Around} {st : List PySem.Env} {s0 : Shared} {H : Hp} (z : Env0 P w K mg base A st s0 H) : K.In s0.heap := z.mod.kin.keeps fun a o h => (z.bs a o h).1
theorem e_lim {A : Around} {st : List PySem.Env} {s0 : Shared} {H : Hp} (z : Env0 P w K mg base A st s0 H) : s0.heap.NoLimit := z.mod.nolimit.keeps fun a o h => (z.bs a o h).1
/-- a def that is called with the handled error -/
structure FnP (P : Program) (w : World) (K : Frg) (mg : Str → Option Value) (base : Heap) (CX : CXT) (n : Nat) (g : Addr) (gd : FuncData) (xs : List Str) (sp : Xc → Sp) : Prop where
  len : ∀ c ws H Q E, sp c ws H Q E → ws.length = xs.length
  run : ∀ (c : Xc) (oe : Obj) (A : Around) (st : List PySem.Env) (s0 : Shared) (H : Hp) (ar : Args) (us : List Value) (ws : List V) (Q : VK) (E : XK), L2H.RoomH n A → HotE A c oe → L2H.PinOk st H s0 (c.a, oe) →
    Env0 P w K mg base A st s0 H → BindsTo s0 gd ar (xs.zip us) → Vals ws us → sp c ws H Q E → codeAny (model P w) A (.call (.ref g) ar) (CR CX st P w H s0 Q E) s0
theorem fn_ofP {n : Nat} {g : Addr} {nm ql : Str} {pms : Arguments} {bd : List Stmt} {sc : Scope} {v1 v2 dc pm cv ct o1 : Value} {o2 o3 : Option Addr} {o4 : Array (Option Value)} {M xs : List Str} {sp : Xc → Sp}
    (look : K.lookup g = some ⟨o1, o2, .func (PySem.W.fnOf nm ql pms bd sc v1 v2 dc pm o3 cv ct), o4⟩) (isC : PySem.W.codeIn K cv ql = true) (T : FnScope M xs sc) (len : ∀ c ws H Q E, sp c ws H Q E → ws.length = xs.length)
    (hbd : ∀ (c : Xc) (oe : Obj) (A : Around) (st : List PySem.Env) (s0 : Shared) (H : Hp) (ws : List V) (Q : VK) (E : XK), HotE A c oe → L2H.RoomH n (A.deeper (envOfC ql sc s0.heap.objs.size g cv)) → sp c ws H Q E →
      ∃ t, PSs (L2H.cxH CX P w K mg base M ql sc g cv A st s0 H E (c.a, oe)) bd t ∧ t { nx := fun _ H1 => Q .non H1, rt := Q } (L2.start M ws) H) :
    FnP P w K mg base CX (n + 1) g (PySem.W.fnOf nm ql pms bd sc v1 v2 dc pm o3 cv ct) xs sp := by
  constructor
  · exact len
  intro c oe A st s0 H ar us ws Q E room hot pin env0 bnd vals hsp
  have lenW := len _ _ _ _ _ hsp
  have kin : K.In s0.heap := e_kin env0
  have nolim : s0.heap.NoLimit := e_lim env0
  have kinds : ∀ z ∈ xs.zip us, sc.names.lookup z.1 = some .local ∨ (sc.names.lookup z.1 = some .cell ∧ ((cellsFrom (s0.heap.objs.size + 1) sc.names []).lookup z.1).isSome = true) := by
    rintro ⟨z, v⟩ hz
    have hz1 := (List.of_mem_zip hz).1
    rcases T.par z hz1 with loc | cel
    · left; exact loc
    · right; exact ⟨cel, PySem.W.cellsFrom_some _ _ _ (Or.inl cel)⟩
  refine codeAny_call_function room.depth (kin _ _ look) rfl T.co T.gen rfl (PySem.W.codeRec_of kin isC) ?_
  refine bnd _ _ _ _ (wpAny_newFunctionEnv_cells T.kind kinds ?_)
  intro e he s1 ic
  subst he
  refine ⟨nolim.keeps ic.toInCall.keep, codeAny_func ?_⟩
  obtain ⟨t, p1, p2⟩ := hbd c oe A st s0 H ws Q E hot (room.deeper _) hsp
  refine wpAny_mono (p1.run [] s1 (L2.start M ws) H _ (L2H.inv_startH T pin env0 lenW vals ic) p2) ?_ (fun _ _ z => z)
  have done : ∀ {σ1 : L2.St} {H1 : Hp} {v : V} {u : Value} {s2 : Shared}, Inv (L2H.cxH CX P w K mg base M ql sc g cv A st s0 H E (c.a, oe)) [] σ1 H1 s2 → RelV v u → Q v H1 → CE st P w H s0 Q u s2 := by
    intro σ1 H1 v u s2 J r hq
    exact ⟨v, H1, J.os, J.bare, J.base, J.hok, r, hq⟩
  intro fl s2 hfl
  match fl, hfl with
  | .ret u, ⟨v, σ1, H1, J, r, hq⟩ => exact done J r hq
  | .next, ⟨σ1, H1, J, hq⟩ => exact done (v := V.non) (u := Value.none) J rfl hq
  | .brk, ⟨_, _, _, hq⟩ => exact hq.elim
  | .cont, ⟨_, _, _, hq⟩ => exact hq.elim
end
section
variable {X : Cx} {CX : CXT} {n : Nat} {g : Addr} {gd : FuncData} {xs : List Str} {sp : Xc → Sp} {c : Xc}
theorem run_fnP {pins : List (Addr × Obj)} {σ : L2.St} {H : Hp} {s : Shared} {Q : VK} {us : List Value} {ws : List V} {E : L2.St → XK} (F : FnP X.prog X.w X.K X.mg X.base CX n g gd xs sp) (room : L2H.RoomH n X.A) (pc : PinC X c) (bi : Binds X.K gd xs [])
    (pass : PassesAt CX X σ (E σ)) (I : Inv X pins σ H s) (vals : Vals ws us) (h : sp c ws H Q (E σ)) : wpAny (model X.prog X.w) X.A (call (.ref g) us) (EP X pins σ Q) X.xe s := by
  obtain ⟨oe, hot, mem⟩ := pc
  have len : us.length = xs.length := vals.length.symm.trans (F.len _ _ _ _ _ h)
  have b0 := bi s us I.kIn (by simpa using len)
  simp only [List.append_nil] at b0
  obtain ⟨i1, i2, i3, i4, i5⟩ := I.pin (c.a, oe) (List.mem_append.mpr (.inl mem))
  have pin : L2H.PinOk X.stack H s (c.a, oe) := by
    refine ⟨i1, i2, fun z => ?_, i5⟩
    rcases List.mem_cons.mp (I.stkSub _ z) with z | z
    · exact i3 z
    · exact i4 z
  refine wpAny_call (codeAny_mono (F.run c oe X.A X.stack s H ⟨us, []⟩ us ws Q (E σ) room hot pin I.env0 b0 vals h) ?_)
  intro r s1 hr
  match r, hr with
  | .error e, hr => exact pass pins H s e s1 I hr
  | .ok (.ret u), hr => exact I.after hr
  | .ok .next, hr => exact hr.elim
  | .ok .brk, hr => exact hr.elim
  | .ok .cont, hr => exact hr.elim
theorem pe_callP {x : Str} {q pos : Pos} {e : Expr} {es : List Expr} {t : TA} {E : L2.St → XK} (F : FnP X.prog X.w X.K X.mg X.base CX n g gd xs sp) (room : L2H.RoomH n X.A) (pc : PinC X c) (gl : Gl X x) (mg : X.mg x = some (.ref g)) (kp : PySem.W.keepIn X.K (.ref g) = true)
    (bi : Binds X.K gd xs []) (pass : ∀ σ, PassesAt CX X σ (E σ)) (pa : PA X (e :: es) t) (nd : (x == ("__debug__" : Str)) = false := by decide)
    (s1 : starEach (e :: es) X.env = (false, eval e X.env) :: starEach es X.env := by rfl) (s2 : (backTo pos (starEach es X.env)).any (·.1) = false := by rfl) :
    PE X (.Call (.Name x q) (e :: es) [] pos) (tCallS (sp c) E t) := by
  constructor
  intro pins s σ H Q I h
  refine wpAny_Call_Name_kw (ld_glob I gl mg ?_ nd)
  refine PySem.W.callWith_K (h₀ := X.base) I.ok.mod.kin kp (thn (pa.run pos pins s σ H _ I h) ?_) s1 s2
  rintro us sh ⟨ws, H1, I1, vals, q1⟩
  exact ⟨I1.kIn, run_fnP F room pc bi (pass σ) I1 vals q1⟩
/-! fields, class -/
theorem pe_xfp {e : Expr} {te : TE} {pos : Pos} {nm : Str} (pc : PinC X c) (he : PE X e te) (hb : attributeBase e nm X.env (eval e X.env) = eval e X.env := by rfl) : PE X (.Attribute e nm pos) (tXfs c.a c.v c.d nm te X.K) := by
  obtain ⟨oe, hot, mem⟩ := pc
  constructor
  intro pins s σ H Q I h
  refine attr_of hb (thn (he.run pins s σ H _ I h) ?_)
  rintro u s1 ⟨x, H1, I1, rx, ex, C, dd, fs, v, ec, T, hno, ed, ea, l, q⟩
  subst ex
  obtain rfl : u = Value.ref c.a := rx
  obtain ⟨ha, _⟩ := I1.pin (c.a, oe) (List.mem_append_left _ mem)
  obtain ⟨vs, hd⟩ := hot.flds
  obtain ⟨mA1, hn1, hr⟩ := (I1.hok dd _ ea : ObjOk X.prog X.w H1 s1.heap dd (.xd fs))
  obtain ⟨od1, ho, hl⟩ := lookIn_ns hn1
  obtain ⟨u, hu, ru⟩ := RelO.some_of (v := v) (o := mA1 nm) (by rw [← l]; exact hr nm)
  have z := hot.zn
  have J : PySem.W.InstAt s1.heap c.a oe C (some od1) := by
    refine ⟨ha, z.1.trans ec, ?_, ?_⟩
    · unfold PySem.W.notCls
      rw [hd] <;> rfl
    · rw [z.2.1, ed]
      exact ho
  exact HandSPX.exc_get I1.kIn J T.ga T.gg T.exC (PySem.W.findObj_own T.hdC hno rfl (by rw [hl, hu])) (handed_of ru) ⟨v, H1, I1.tok _, ru, q⟩
theorem call_isXp (pc : PinC X c) : CallR X (.builtin "isinstance") (rIsXs X.K c.a c.v c.d) := by
  obtain ⟨oe, hot, mem⟩ := pc
  rintro pins s σ H xs us Q I r ⟨C, D, dd, fs, b, rfl, ec, T, ed, ea, e, q⟩
  obtain ⟨w1, w2, rfl, r1, r2⟩ := vals2 r
  obtain rfl : w1 = Value.ref c.a := r1
  obtain rfl : w2 = Value.ref C := r2
  obtain ⟨ha, _⟩ := I.pin (c.a, oe) (List.mem_append_left _ mem)
  obtain ⟨vs, hd⟩ := hot.flds
  obtain ⟨mA1, hn1, hr⟩ := (I.hok dd _ ea : ObjOk X.prog X.w H s.heap dd (.xd fs))
  obtain ⟨od1, ho, hl⟩ := lookIn_ns hn1
  have z := hot.zn
  have J : PySem.W.InstAt s.heap c.a oe D (some od1) := by
    refine ⟨ha, z.1.trans ec, ?_, ?_⟩
    · unfold PySem.W.notCls
      rw [hd] <;> rfl
    · rw [z.2.1, ed]
      exact ho
  have cl : (PySem.W.clsIn X.K D).isSome = true := by
    obtain ⟨cd, hc, _⟩ := PySem.W.any_some T.hd
    simp [hc]
  refine PySem.W.kia_one (PySem.W.kitx_exc cl T.hg T.hk T.hs T.ha T.hn T.ht T.hm) I.kIn J e (fun z => nomatch z) ?_
  exact fun tk => ⟨.bl b, H, I.kept (t' := tk) fun _ _ z => z, rfl, q⟩
end
/-! the mirror's side -/
def OkP (P : Program) (w : World) (K : Frg) (mg : Str → Option Value) (base : Heap) (x : Str) (st : Stmt) (ps : List Str) (ms : List Bool) (k : Nat) (sp : Xc → FS) : Prop :=
  ∃ f fd, mg x = some (.ref f) ∧ PySem.W.keepIn K (.ref f) = true ∧ Binds K fd ps [] ∧ (∀ us : List Value, us.length = ps.length → bindArgs fd ⟨us, []⟩ = pure (ps.zip us)) ∧ FnP P w K mg base (L2N.CX P w) k f fd ps (fun c => spOf K ms (sp c))
theorem okp_of {P : Program} {w : World} {K : Frg} {mg : Str → Option Value} {base : Heap} {x : Str} {st : Stmt} {ps : List Str} {ms : List Bool} {k : Nat} {sp : Xc → FS} (t : Tx K mg x st ps)
    (h : ∀ f fd, Fun K x x st f fd → FnP P w K mg base (L2N.CX P w) k f fd ps (fun c => spOf K ms (sp c))) : OkP P w K mg base x st ps ms k sp := by
  obtain ⟨f, fd, g, F, b⟩ := t
  exact ⟨f, fd, g, F.kp, .all b, b, h f fd F⟩
theorem fn_okP {P : Program} {w : World} {K : Frg} {mg : Str → Option Value} {base : Heap} {x qual : Str} {st : Stmt} {f : Addr} {fd : FuncData} {N ps : List Str} {k : Nat} (ms : List Bool) (spec : Xc → FS) (Fn : Fun K x qual st f fd) (S : FnScope N ps (defScope st)) (hms : ms.length = ps.length := by rfl)
    (hb : ∀ (c : Xc) (oe : Obj) (cdv : Value) (A : Around) (outer : List PySem.Env) (s : Shared) (H : Hp) (E : XK), HotE A c oe → L2H.RoomH k (A.deeper (envOfC qual (defScope st) s.heap.objs.size f cdv)) →
      ∃ ts t, PSs (L2H.cxH (L2N.CX P w) P w K mg base N qual (defScope st) f cdv A outer s H E (c.a, oe)) (defBody st) ts ∧ SimS K (npOf ms) (fun cls d _ H' => E cls d H') ts t ∧
        ∀ ds q x, ds.length = ms.length → spec c ds q x → t (endsOf ms ds q x) (ds.map some ++ List.replicate (N.length - ps.length) none)) :
    FnP P w K mg base (L2N.CX P w) (k + 1) f fd ps (fun c => spOf K ms (spec c)) := by
  obtain ⟨oc, od1, kV, doc, pm, an, cdv, ct, osl, rfl, lk, hcd⟩ := Fn.ex
  refine fn_ofP lk hcd S (fun c => spOf_len hms) fun c oe A outer s H vs Q E hot hr hsp => ?_
  obtain ⟨ts, t, h1, h2, h3⟩ := hb c oe cdv A outer s H E hot hr
  exact ⟨ts, h1, body_run hms h2 h3 hsp⟩
theorem pinC_h {CX : CXT} {P : Program} {w : World} {K : Frg} {mg : Str → Option Value} {base : Heap} {N : List Str} {qual : Str} {scope : Scope} {f : Addr} {cd : Value} {A : Around} {outer : List PySem.Env} {s : Shared} {H : Hp} {E : XK} {c : Xc} {oe : Obj} (h : HotE A c oe) :
    PinC (L2H.cxH CX P w K mg base N qual scope f cd A outer s H E (c.a, oe)) c := ⟨oe, ⟨h.hot, h.zn, h.flds⟩, List.mem_cons_self⟩
end Mi
end

-- text MU
section
set_option Elab.async false
set_option linter.all false
set_option maxRecDepth 100000
set_option maxHeartbeats 4000000
/-! MU: list(text). -/
namespace Mi
open PySem PySem.Spec PyProof.Rows L2
def sgV (l : List Nat) : List V := l.map fun c => V.str ⟨#[c]⟩
theorem vals_sg : ∀ (l : List Nat) (ws : List Value), ws.length = l.length → (∀ (j : Nat) (v : Value), ws[j]? = some v → ∃ (c : Nat) (u : Tok), l[j]? = some c ∧ v = Value.str ⟨#[c]⟩ u) → Vals (sgV l) ws
  | [], [], _, _ => .nil
  | [], _ :: _, hh, _ => by simp at hh
  | _ :: _, [], hh, _ => by simp at hh
  | c :: l, w :: ws, hh, g => by
    obtain ⟨c', u, e1, e2⟩ := g 0 w rfl
    have e1 : c = c' := by simpa using e1
    subst e1
    exact .cons ⟨u, e2⟩ (vals_sg l ws (by simpa using hh) fun j v hv => g (j + 1) v (by simpa using hv))
theorem call_listS {X : Cx} (hc : X.calm = true) : CallR X (.type "list") (fun xs H Q => ∃ x : Str, xs = [.str x] ∧ x.length ≤ sizeLine ∧ ∀ l, H l = none → Q (.ref l) (upd H l (.lst (sgV x.cps.toList)))) := by
  rintro pins s σ H xs us Q I r ⟨x, rfl, hz, q⟩
  obtain ⟨u, rfl, tt, rfl⟩ := vals1 r
  refine call_list_str (I.ok.hd hc) x tt (fun h' tk acc c' kp e it => ?_) (hn := hz)
  have vs : Vals (sgV x.cps.toList) acc.toList := by
    refine vals_sg _ _ (by simpa using it.1) fun j v hv => ?_
    obtain ⟨c, u, h1, h2⟩ := it.2 j v (by simpa using hv)
    exact ⟨c, u, by simpa using h1, h2⟩
  have hl : (sgV x.cps.toList).length ≤ sizeLine := by
    unfold sgV
    rw [List.length_map, Array.length_toList]
    exact hz
  have ok : ObjOk X.prog X.w (upd H s.heap.objs.size (.lst (sgV x.cps.toList))) h' s.heap.objs.size (.lst (sgV x.cps.toList)) := ⟨hl, acc.toList, c', vs, by simpa using e⟩
  exact ⟨.ref s.heap.objs.size, _, I.laid (t' := tk) kp (Nat.le_refl _) ok, rfl, q _ (I.hok.fresh (Nat.le_refl _))⟩
section
variable {K : Frg}
/-- list(x), x a list, a tuple or a text -/
def fListA : FL := fun ds q => match ds with
  | [.str tt] => tt.length ≤ 16777216 ∧ q (.lst (tt.map fun c => D.str [c]))
  | _ => fList ds q
theorem R.sgs {G : Addr → Prop} {H : Hp} : ∀ tt : List Nat, R K G H (sgV tt) (tt.map fun c => D.str [c]) []
  | [] => .nil
  | c :: tt => .at (.str (x := [c]) (by rw [line_eq]; simp)) (R.sgs tt)
theorem cs_listA : CSim K (fun xs H Q => (∃ p ys, xs = [.ref p] ∧ (SqL K H p ys ∨ SqT K H p ys) ∧ ∀ l, H l = none → Q (.ref l) (upd H l (.lst ys))) ∨ ∃ x : Str, xs = [.str x] ∧ x.length ≤ sizeLine ∧ ∀ l, H l = none → Q (.ref l) (upd H l (.lst (sgV x.cps.toList)))) fListA := by
  intro G H vs ds S Q q dm r hh k
  unfold fListA at hh
  split at hh
  · rename_i tt
    obtain ⟨v, rfl⟩ := len1 r
    obtain ⟨rfl, _⟩ := r.str
    refine .inr ⟨_, rfl, by rw [str_len, line_eq]; exact hh.1, fun l hl => ?_⟩
    have e : sgV (⟨tt.toArray⟩ : Str).cps.toList = sgV tt := by simp
    rw [e]
    exact k _ _ _ (same_upd hl) (.newL dm hl (R.sgs tt)) hh.2
  · exact .inl (cs_list _ _ _ _ _ _ _ dm r hh k)
end
end Mi
end

-- text MV
section
set_option Elab.async false
set_option linter.all false
set_option maxRecDepth 100000
set_option maxHeartbeats 4000000
/-! MV: calls of own defs by keywords. -/
namespace Mi
open PySem PySem.Spec PyProof.Rows L2
def permL {α : Type} (z : α) (pm : List Nat) (xs : List α) : List α := pm.map fun i => xs.getD i z
def tPerm (pm : List Nat) (t : TA) : TA := fun σ H Q => t σ H fun vs H1 => Q (permL .non pm vs) H1
def tApp (n m : Nat) (t1 t2 : TA) : TA := fun σ H Q => t1 σ H fun vs H1 => t2 σ H1 fun zs H2 => vs.length = n ∧ zs.length = m ∧ Q (vs ++ zs) H2
def mPerm (pm : List Nat) (ma : MATy) : MATy := fun ρ q x => ma ρ (fun ds ρ1 => q (permL .non pm ds) ρ1) x
def mApp (n m : Nat) (ma mb : MATy) : MATy := fun ρ q x => ma ρ (fun ds ρ1 => mb ρ1 (fun es ρ2 => match ds.length.beq n && es.length.beq m with
  | true => q (ds ++ es) ρ2
  | false => False) x) x
section
variable {K : Frg} {W : WX} {b b1 b2 : Bool} {ta tb : TA} {ma mb : MATy}
theorem R.getN {G : Addr → Prop} {H : Hp} : ∀ {vs : List V} {ds : List D}, R K G H vs ds [] → ∀ i, R K G H [vs.getD i .non] [ds.getD i .non] []
  | [], [], _, i => by simpa using (R.at .non .nil : R K G H [.non] [.non] [])
  | [], _ :: _, r, i => by cases r
  | _ :: _, [], r, i => by cases r
  | v :: vs, d :: ds, r, i => by
    obtain ⟨S1, S2, e, r1, r2⟩ := r.uncons
    have e := List.append_eq_nil_iff.mp e.symm
    rw [e.1] at r1
    rw [e.2] at r2
    cases i with
    | zero => exact r1
    | succ i => simpa using R.getN r2 i
theorem R.perm {G : Addr → Prop} {H : Hp} {vs : List V} {ds : List D} (r : R K G H vs ds []) : ∀ pm : List Nat, R K G H (permL .non pm vs) (permL .non pm ds) []
  | [] => .nil
  | i :: pm => (r.getN i).cons0 (R.perm r pm)
theorem sima_perm {pm : List Nat} (ha : SimA K W false b ta ma) : SimA K W false b (tPerm pm ta) (mPerm pm ma) := by
  intro B F σ ρ H Q q x s h k e
  refine ha B F σ ρ H _ _ x s h (fun vs ds ρ1 F1 H1 S1 s1 r1 m1 z1 a1 h1 => ?_) e
  have := z1 rfl; subst this
  exact k _ _ ρ1 F1 H1 [] s1 (r1.perm pm) (by simp) (fun _ => rfl) a1 h1
theorem sima_app {n m : Nat} (ha : SimA K W false b1 ta ma) (hb : SimA K W false b2 tb mb) : SimA K W false (b1 && b2) (tApp n m ta tb) (mApp n m ma mb) := by
  intro B F σ ρ H Q q x s h k e
  refine ha B F σ ρ H _ _ x s h (fun vs ds ρ1 F1 H1 S1 s1 r1 m1 z1 a1 h1 => ?_) e
  have := z1 rfl; subst this
  refine hb B F1 σ ρ1 H1 _ _ x s1 h1 (fun ws es ρ2 F2 H2 S2 s2 r2 m2 z2 a2 h2 => ?_) (e.aft a1.stp)
  have := z2 rfl; subst this
  split at h2
  · rename_i hh
    rw [Bool.and_eq_true] at hh
    refine ⟨r1.length.trans (Nat.eq_of_beq_eq_true hh.1), r2.length.trans (Nat.eq_of_beq_eq_true hh.2), ?_⟩
    exact k _ _ ρ2 F2 H2 [] s2 ((r1.aftV s1 a2 (.inl rfl)).app r2) (by simp) (fun _ => rfl) (a1.trans a2) h2
  · exact h2.elim
end
/-- how a def binds n values by place and then those of the names ks -/
def KBd (fd : FuncData) (ps ks : List Str) (n : Nat) (pm : List Nat) : Prop := ∀ us ws : List Value, us.length = n → ws.length = ks.length → bindArgs fd ⟨us, ks.zip ws⟩ = pure (ps.zip (permL .none pm (us ++ ws)))
theorem vals_at : ∀ {vs : List V} {us : List Value}, Vals vs us → ∀ i, RelV (vs.getD i .non) (us.getD i .none)
  | [], [], _, i => by simp; exact rfl
  | _ :: _, _ :: _, .cons h r, 0 => h
  | _ :: _, _ :: _, .cons h r, i + 1 => by simpa using vals_at r i
theorem vals_perm {vs : List V} {us : List Value} (r : Vals vs us) : ∀ pm : List Nat, Vals (permL .non pm vs) (permL .none pm us)
  | [] => .nil
  | i :: pm => .cons (vals_at r i) (vals_perm r pm)
theorem vals_app : ∀ {vs ws : List V} {us zs : List Value}, Vals vs us → Vals ws zs → Vals (vs ++ ws) (us ++ zs)
  | [], _, [], _, _, r => r
  | _ :: _, _, _ :: _, _, .cons h q, r => .cons h (vals_app q r)
section
variable {X : Cx} {CX : CXT} {k n : Nat} {g : Addr} {gd : FuncData} {ps ks : List Str} {pm : List Nat} {sp : Sp} {E : L2.St → XK}
theorem run_kw {pins : List (Addr × Obj)} {σ : L2.St} {H : Hp} {s : Shared} {Q : VK} {us ws : List Value} {vs zs : List V} (F : FnOk X.prog X.w X.K X.mg X.base CX k g gd ps sp) (room : Room k X.A) (kb : KBd gd ps ks n pm)
    (pass : PassesAt CX X σ (E σ)) (I : Inv X pins σ H s) (r : Vals vs us) (rz : Vals zs ws) (l1 : vs.length = n) (l2 : zs.length = ks.length) (h : sp (permL .non pm (vs ++ zs)) H Q (E σ)) :
    wpAny (model X.prog X.w) X.A (call (.ref g) us (ks.zip ws)) (EP X pins σ Q) X.xe s := by
  have bind : BindsTo s gd ⟨us, ks.zip ws⟩ (ps.zip (permL .none pm (us ++ ws))) := .of_eq (kb us ws (r.length.symm.trans l1) (rz.length.symm.trans l2))
  refine wpAny_call (codeAny_mono (F.run X.A X.stack s H ⟨us, ks.zip ws⟩ (permL .none pm (us ++ ws)) (permL .non pm (vs ++ zs)) Q (E σ) room I.env0 bind (vals_perm (vals_app r rz) pm) h) ?_)
  intro z s1 hz
  match z, hz with
  | .error e, hz => exact pass pins H s e s1 I hz
  | .ok (.ret u), hz => exact I.after hz
  | .ok .next, hz => exact hz.elim
  | .ok .brk, hz => exact hz.elim
  | .ok .cont, hz => exact hz.elim
variable {x : Str} {q pos : Pos} {e : Expr} {es : List Expr} {kws : List Keyword} {t tk : TA}
theorem pe_callKS (F : FnOk X.prog X.w X.K X.mg X.base CX k g gd ps sp) (room : Room k X.A) (gl : Gl X x) (mg : X.mg x = some (.ref g)) (kp : PySem.W.keepIn X.K (.ref g) = true) (kb : KBd gd ps ks n pm) (pass : ∀ σ, PassesAt CX X σ (E σ))
    (pa : PA X (e :: es) t) (pk : PK X kws tk) (nd : (x == ("__debug__" : Str)) = false := by decide) (k1 : (backToKw pos (keywordEach kws X.env)).all (·.1.isSome) = true := by rfl) (k2 : (backToKw pos (keywordEach kws X.env)).filterMap (·.1) = ks := by rfl)
    (s1 : starEach (e :: es) X.env = (false, eval e X.env) :: starEach es X.env := by rfl) (s2 : ((backTo pos (starEach (e :: es) X.env)).any (·.1) || (backToKw pos (keywordEach kws X.env)).any (·.1.isNone)) = false := by rfl) :
    PE X (.Call (.Name x q) (e :: es) kws pos) (tCallS sp E (tPerm pm (tApp n ks.length t tk))) := by
  constructor
  intro pins s σ H Q I h
  refine wpAny_Call_Name_kw (ld_glob I gl mg ?_ nd)
  refine PySem.W.callWith_KW (h₀ := X.base) I.ok.mod.kin kp k1 (thn (pa.run pos pins s σ H _ I h) ?_) s2 s1
  rintro us sh ⟨vs, H1, I1, r, q1⟩
  refine thn (pk.run pos pins sh σ H1 _ I1 q1) ?_
  rintro ws sh2 ⟨zs, H2, I2, rz, l1, l2, q2⟩
  refine ⟨I2.kIn, ?_⟩
  rw [k2]
  exact run_kw F room kb (pass σ) I2 r rz l1 l2 q2
theorem pe_callKS0 (F : FnOk X.prog X.w X.K X.mg X.base CX k g gd ps sp) (room : Room k X.A) (gl : Gl X x) (mg : X.mg x = some (.ref g)) (kp : PySem.W.keepIn X.K (.ref g) = true) (kb : KBd gd ps ks 0 pm) (pass : ∀ σ, PassesAt CX X σ (E σ))
    (pk : PK X kws tk) (nd : (x == ("__debug__" : Str)) = false := by decide) (k1 : (backToKw pos (keywordEach kws X.env)).all (·.1.isSome) = true := by rfl) (k2 : (backToKw pos (keywordEach kws X.env)).filterMap (·.1) = ks := by rfl)
    (s2 : ((backTo pos (starEach [] X.env)).any (·.1) || (backToKw pos (keywordEach kws X.env)).any (·.1.isNone)) = false := by rfl) :
    PE X (.Call (.Name x q) [] kws pos) (tCallS sp E (tPerm pm (tApp 0 ks.length tNil tk))) := by
  constructor
  intro pins s σ H Q I h
  refine wpAny_Call_Name_kw (ld_glob I gl mg ?_ nd)
  refine PySem.W.callWith_KW0 (h₀ := X.base) I.ok.mod.kin kp k1 (thn (pk.run pos pins s σ H _ I h) ?_) s2
  rintro ws sh ⟨zs, H1, I1, rz, l1, l2, q1⟩
  refine ⟨I1.kIn, ?_⟩
  rw [k2]
  exact run_kw F room kb (pass σ) I1 .nil rz rfl l2 q1
end
/-- a def's promise, with how it stands -/
def OkF (P : Program) (w : World) (K : Frg) (mg : Str → Option Value) (base : Heap) (x : Str) (st : Stmt) (ps : List Str) (ms : List Bool) (k : Nat) (sp : FS) : Prop :=
  ∃ f fd, mg x = some (.ref f) ∧ PySem.W.keepIn K (.ref f) = true ∧ Fun K x x st f fd ∧ FnOk P w K mg base (L2N.CX P w) k f fd ps (spOf K ms sp)
theorem okf_of {P : Program} {w : World} {K : Frg} {mg : Str → Option Value} {base : Heap} {x : Str} {st : Stmt} {ps : List Str} {ms : List Bool} {k : Nat} {sp : FS} (t : Tx K mg x st ps)
    (h : ∀ f fd, Fun K x x st f fd → FnOk P w K mg base (L2N.CX P w) k f fd ps (spOf K ms sp)) : OkF P w K mg base x st ps ms k sp := by
  obtain ⟨f, fd, g, F, b⟩ := t
  exact ⟨f, fd, g, F.kp, F, h f fd F⟩
theorem kbd_of {K : Frg} {x : Str} {st : Stmt} {f : Addr} {fd : FuncData} {ps ks : List Str} {n : Nat} {pm : List Nat} (F : Fun K x x st f fd)
    (h : ∀ (kV doc pmv : Value) (an : Option Addr) (cdv ct : Value), KBd (PySem.W.fnOf x x (defArgs st) (defBody st) (defScope st) .none kV doc pmv an cdv ct) ps ks n pm) : KBd fd ps ks n pm := by
  obtain ⟨oc, od, kV, doc, pm, an, cdv, ct, os1, rfl, lk1, hc1⟩ := F.ex
  exact h kV doc pm an cdv ct
end Mi
end

-- text MW
section
set_option Elab.async false
set_option linter.all false
set_option maxRecDepth 100000
set_option maxHeartbeats 4000000
/-! MW: xs.pop(), xs.index(x), text.count(sign). -/
namespace Mi
open PySem PySem.Spec PyProof.Rows L2
section
variable {K : Frg} {W : WX} {b b1 b2 vw1 vw2 : Bool} {ta tb : TE} {ma mb : METy}
theorem R.unsnoc {G : Addr → Prop} {H : Hp} : ∀ {es : List D} {ws : List V} {d : D} {S : List Addr}, R K G H ws (es ++ [d]) S → ∃ ws1 v S1 S2, ws = ws1 ++ [v] ∧ S = S1 ++ S2 ∧ R K G H ws1 es S1 ∧ R K G H [v] [d] S2
  | [], ws, d, S, r => by
    match ws, r.length with
    | [v], _ => exact ⟨[], v, [], S, rfl, rfl, .nil, r⟩
  | e :: es, ws, d, S, r => by
    match ws, r.length with
    | w :: ws, _ =>
      obtain ⟨S1, S2, eS, r1, r2⟩ := (show R K G H (w :: ws) (e :: (es ++ [d])) S from r).uncons
      obtain ⟨ws1, v, T1, T2, rfl, rfl, q1, q2⟩ := R.unsnoc r2
      exact ⟨w :: ws1, v, S1 ++ T1, T2, rfl, by rw [eS, List.append_assoc], r1.cons q1, q2⟩
/-- x.pop(): x an own list -/
def mPop (i : Nat) : METy := fun ρ q _ => match ρ[i]? with
  | some (some (.mls ds)) => ∃ es d, ds = es ++ [d] ∧ d.fz = true ∧ q d (ρ.set i (some (.mls es)))
  | _ => False
theorem sim_pop {i : Nat} : Sim K W false false (tBM0 K "list" rPop (tVar i)) (mPop i) := by
  intro B F σ ρ H Q q x s h k _
  unfold mPop at h
  split at h
  · rename_i ds e0
    obtain ⟨es, d, rfl, hf, hq⟩ := h
    obtain ⟨p, ws0, h1, h2⟩ := s.own e0
    refine ⟨.ref p, h1, .inl ⟨rfl, ws0, SqL.of h2⟩, ?_⟩
    obtain ⟨p', ws, S2, g1, g2, g3, ch⟩ := s.change e0
    rw [h1] at g1; cases g1
    have nd := s.nodup_sub e0 h1 g2 g3
    obtain ⟨ws1, v, T1, T2, rfl, rfl, r1, r2⟩ := g3.unsnoc
    have := r2.fz0 hf; subst this
    obtain ⟨F2, s2, st2⟩ := ch ws1 es T1 r1 (fun a z => by simpa using z) (by simpa using nd)
    refine ⟨p, _, v, rfl, rfl, g2, by simp, ?_⟩
    rw [List.dropLast_concat]
    exact k v d _ F2 _ [] s2 (r2.aftσ s st2) (by simp) (fun _ => rfl) ⟨st2, fun z => nomatch z⟩ hq
  · exact h.elim
/-- the first place at which x stands -/
def idxD (x : D) : List D → Option Nat
  | [] => none
  | d :: ds => match eqD d x with
    | true => some 0
    | false => (match idxD x ds with
      | some j => some (j + 1)
      | none => none)
def lsD1 : D → Option (List D)
  | .lst ds => some ds
  | .rol ds => some ds
  | .mls ds => some ds
  | _ => none
theorem lsD1_sq {d : D} {ds : List D} (h : lsD1 d = some ds) : sq d = some ds := by
  cases d <;> first | exact h | (simp [lsD1] at h; done)
theorem R.lstL {G : Addr → Prop} {H : Hp} {v : V} {S : List Addr} {d : D} {ds : List D} (r : R K G H [v] [d] S) (h : lsD1 d = some ds) : ∃ a ws S1, v = .ref a ∧ SqL K H a ws ∧ R K G H ws ds S1 := by
  cases d with
  | lst es =>
    obtain ⟨a, ws, rfl, hs, rr⟩ := r.lstE
    cases h
    exact ⟨a, ws, [], rfl, .inl (.inl hs), rr⟩
  | rol es =>
    obtain ⟨a, ws, rfl, hs, rr⟩ := r.rolE
    cases h
    exact ⟨a, ws, [], rfl, hs, rr⟩
  | mls es =>
    obtain ⟨a, ws, S1, rfl, hs, rr⟩ := r.mlsE
    cases h
    exact ⟨a, ws, S1, rfl, .inl (.inl hs), rr⟩
  | _ => simp [lsD1] at h
theorem idx_at {G : Addr → Prop} {H : Hp} {x : V} {d : D} (zx : Atom x d) (hx : flD d = true) : ∀ {ds : List D} {ws : List V} {S} {j : Nat}, R K G H ws ds S → flDs ds = true → idxD d ds = some j →
    ws.all flatV = true ∧ ∃ z, ws[j]? = some z ∧ eqV z x = true ∧ ∀ (m : Nat) (z' : V), m < j → ws[m]? = some z' → eqV z' x = false := by
  intro ds
  induction ds with
  | nil => intro ws S j _ _ h; cases h
  | cons e ds ih =>
    intro ws S j r h hj
    cases ws with
    | nil => cases r
    | cons w ws =>
      obtain ⟨S1, S2, _, r1, r2⟩ := r.uncons
      simp only [flDs, Bool.and_eq_true] at h
      obtain ⟨p1, p2⟩ := flat_atom r1 h.1
      have ew := eqV_D p1 zx h.1 hx
      have fl := (inV_D zx hx r2 h.2).1
      simp only [idxD] at hj
      split at hj
      · rename_i he
        cases hj
        exact ⟨by rw [List.all_cons, p2, fl]; rfl, w, rfl, by rw [ew]; exact he, fun m z' hm => absurd hm (by omega)⟩
      · rename_i he
        split at hj
        · rename_i j' hj'
          cases hj
          obtain ⟨q1, z, q2, q3, q4⟩ := ih r2 h.2 hj'
          refine ⟨by rw [List.all_cons, p2, fl]; rfl, z, by simpa using q2, q3, fun m z' hm hz' => ?_⟩
          cases m with
          | zero =>
            have : w = z' := by simpa using hz'
            subst this
            rw [ew]; exact he
          | succ m => exact q4 m z' (by omega) (by simpa using hz')
        · cases hj
/-- xs.index(x), a list of flat things -/
def mIdx (ma mb : METy) : METy := fun ρ q x => ma ρ (fun d ρ1 => match lsD1 d with
  | some ds => mb ρ1 (fun e ρ2 => flD e = true ∧ flDs ds = true ∧ ∃ j, idxD e ds = some j ∧ q (.int (j : Int)) ρ2) x
  | none => False) x
theorem sim_idx (ha : Sim K W vw1 b1 ta ma) (hb : Sim K W vw2 b2 tb mb) (hv : (!vw1 || b2) = true := by rfl) : Sim K W false (b1 && b2) (tBM K "list" (rIndex K) ta (tCons tb tNil)) (mIdx ma mb) := by
  intro B F σ ρ H Q q x s h k e
  refine ha B F σ ρ H _ _ x s h (fun v1 d1 ρ1 F1 H1 S1 s1 r1 m1 z1 a1 h1 => ?_) e
  split at h1
  · rename_i ds hd
    obtain ⟨a, ws0, S0, rfl, hq0, _⟩ := r1.lstL hd
    refine ⟨.inl ⟨rfl, ws0, hq0⟩, ?_⟩
    refine hb B F1 σ ρ1 H1 _ _ x s1 h1 (fun v2 d2 ρ2 F2 H2 S2 s2 r2 m2 z2 a2 h2 => ?_) (e.aft a1.stp)
    have hs : S1 = [] ∨ b2 = true := by
      cases vw1 with
      | false => exact .inl (z1 rfl)
      | true => exact .inr (by simpa using hv)
    obtain ⟨hf, hfs, j, hj, hqq⟩ := h2
    obtain ⟨a', ws, S3, ea, hql, rr⟩ := (r1.aftV s1 a2 hs).lstL hd
    cases ea
    obtain ⟨p1, p2⟩ := flat_atom r2 hf
    obtain ⟨q1, z, q2, q3, q4⟩ := idx_at p1 hf rr hfs hj
    exact ⟨a, ws, v2, j, z, rfl, rfl, hql, p2, q1, q2, q3, q4, k _ _ ρ2 F2 H2 [] s2 .int1 (by simp) (fun _ => rfl) (a1.trans a2) hqq⟩
  · exact h1.elim
/-- text.count(sign) -/
def mCount (ma mb : METy) : METy := fun ρ q x => ma ρ (fun d ρ1 => match d with
  | .str t => mb ρ1 (fun e ρ2 => match e with
    | .str [c] => q (.int ((t.count c : Nat) : Int)) ρ2
    | _ => False) x
  | _ => False) x
theorem cnt_count (c : Nat) : ∀ l : List Nat, cnt c l = ((l.count c : Nat) : Int)
  | [] => rfl
  | n :: r => by
    rw [cnt_cons, cnt_count c r, List.count_cons]
    by_cases h : n = c
    · subst h
      simp
      omega
    · have hb : (n == c) = false := by simpa using h
      rw [if_neg h, hb]
      simp
theorem sim_count (ha : Sim K W vw1 b1 ta ma) (hb : Sim K W vw2 b2 tb mb) : Sim K W false (b1 && b2) (tM1 (fun x xs H Q => ∃ a b, x = .str a ∧ xs = [.str b] ∧ Q (.int (Txt.count a b)) H) ta tb) (mCount ma mb) := by
  intro B F σ ρ H Q q x s h k e
  refine ha B F σ ρ H _ _ x s h (fun v1 d1 ρ1 F1 H1 S1 s1 r1 m1 z1 a1 h1 => ?_) e
  split at h1
  · rename_i t
    obtain ⟨rfl, hl⟩ := r1.str
    refine ⟨⟨_, rfl⟩, ?_⟩
    refine hb B F1 σ ρ1 H1 _ _ x s1 h1 (fun v2 d2 ρ2 F2 H2 S2 s2 r2 m2 z2 a2 h2 => ?_) (e.aft a1.stp)
    split at h2
    · rename_i c
      obtain ⟨rfl, _⟩ := r2.str
      refine ⟨_, _, rfl, rfl, ?_⟩
      have ec : Txt.count (⟨t.toArray⟩ : Str) (⟨[c].toArray⟩ : Str) = ((t.count c : Nat) : Int) := by
        have := count_is (⟨t.toArray⟩ : Str) c
        rw [show (⟨[c].toArray⟩ : Str) = ⟨#[c]⟩ from rfl, this]
        exact cnt_count c t
      rw [ec]
      exact k _ _ ρ2 F2 H2 [] s2 .int1 (by simp) (fun _ => rfl) (a1.trans a2) h2
    · exact h2.elim
  · exact h1.elim
end
end Mi
end

-- text MX
section
set_option Elab.async false
set_option linter.all false
set_option maxRecDepth 100000
set_option maxHeartbeats 4000000
/-! MX: for .. in zip(a, b): lists, tuples, texts. -/
namespace Mi
open PySem PySem.Spec PyProof.Rows L2
structure Inner2 (P : Program) (w : World) (K : Frg) (it : Addr) (fp : List Addr) (n : Nat) (Sr : Hp → Prop) (Y : Nat → V → Prop) (St : Nat → Heap → Prop) : Prop where
  obj : ∀ i h, St i h → ∃ o, h.get? it = some o ∧ ∀ v, o.data ≠ .cell v
  keep : ∀ i h h', St i h → (∀ o, h.get? it = some o → h'.get? it = some o) → St i h'
  draws : ∀ (X : Cx) (pins : List (Addr × Obj)) (s : Shared) (σ : L2.St) (H : Hp), X.prog = P → X.w = w → X.K = K → X.calm = true → Inv X pins σ H s → Sr H → (∃ i, St i s.heap) →
    ∃ (Pv : Nat → Value → Prop) (St' : Nat → Heap → Prop), Draws P w X.A.in1 it fp n Pv St' ∧ (∀ i, St i s.heap → St' i s.heap) ∧ (∀ i h, St' i h → St i h) ∧ ∀ i v, i < n → Pv i v → ∃ x, RelV x v ∧ Y i x
theorem inner2_list {P : Program} {w : World} {K : Frg} {it a : Addr} {ws : List V} : Inner2 P w K it [it, a] ws.length (fun H => SqL K H a ws) (fun i x => ws[i]? = some x) (fun i h => h.IsListIter it a i) where
  obj := inner_list (P := P) (w := w) (K := K) (ws := ws).obj
  keep := inner_list (P := P) (w := w) (K := K) (ws := ws).keep
  draws := by
    intro X pins s σ H aP aw aK hc I hs ⟨j, hj⟩
    subst aP aw aK
    obtain ⟨its, rvs, p, kz⟩ := I.list hs
    have hne : a ≠ it := fun z => by
      obtain ⟨oi, hoi, _, hdi⟩ := hj
      obtain ⟨oa, ha, _, na, hda⟩ := p.isList
      subst z
      rw [ha] at hoi; cases hoi
      rw [hda] at hdi; cases hdi
    have hl : its.toArray.size = ws.length := by rw [List.size_toArray]; exact rvs.length.symm
    refine ⟨fun i v => its.toArray[i]? = some v, fun i h => h.IsListIter it a i ∧ h.IsList a its.toArray, hl ▸ Draws.list (show X.A.in1.handled = none from I.ok.hd hc) it a hne its.toArray, fun i h => ⟨h, p.isList⟩, fun i h x => x.1, fun i v hi hv => ?_⟩
    have hx9 : ws[i]? = some ws[i] := List.getElem?_eq_getElem hi
    obtain ⟨u, hu, rw1⟩ := rvs.get hx9
    have hv9 : its[i]? = some v := by simpa using hv
    rw [hv9] at hu; cases hu
    exact ⟨_, rw1, hx9⟩
theorem inner2_tuple {P : Program} {w : World} {K : Frg} {it a : Addr} {ws : List V} : Inner2 P w K it [it, a] ws.length (fun H => SqT K H a ws) (fun i x => ws[i]? = some x) (fun i h => h.IsTupleIter it a i) where
  obj := inner_tuple (P := P) (w := w) (K := K) (ws := ws).obj
  keep := inner_tuple (P := P) (w := w) (K := K) (ws := ws).keep
  draws := by
    intro X pins s σ H aP aw aK hc I hs ⟨j, hj⟩
    subst aP aw aK
    obtain ⟨its, rvs, p, kz⟩ := I.tuple hs
    have hne : a ≠ it := fun z => by
      obtain ⟨oi, hoi, _, hdi⟩ := hj
      obtain ⟨oa, ha, hca, na, hda⟩ := id p
      subst z
      rw [ha] at hoi; cases hoi
      rw [hda] at hdi; cases hdi
    have hl : its.toArray.size = ws.length := by rw [List.size_toArray]; exact rvs.length.symm
    refine ⟨fun i v => its.toArray[i]? = some v, fun i h => h.IsTupleIter it a i ∧ h.IsTuple a its.toArray, hl ▸ Draws.tuple (show X.A.in1.handled = none from I.ok.hd hc) it a hne its.toArray, fun i h => ⟨h, p⟩, fun i h x => x.1, fun i v hi hv => ?_⟩
    have hx9 : ws[i]? = some ws[i] := List.getElem?_eq_getElem hi
    obtain ⟨u, hu, rw1⟩ := rvs.get hx9
    have hv9 : its[i]? = some v := by simpa using hv
    rw [hv9] at hu; cases hu
    exact ⟨_, rw1, hx9⟩
theorem inner2_text {P : Program} {w : World} {K : Frg} {it : Addr} {x : Str} {t : Tok} : Inner2 P w K it [it] x.cps.size (fun _ => True) (fun i v => ∃ c, x.cps[i]? = some c ∧ v = .str ⟨#[c]⟩) (fun i h => h.IsStrIter it (strIterType x) x t i) where
  obj := inner_text (P := P) (w := w) (K := K).obj
  keep := inner_text (P := P) (w := w) (K := K).keep
  draws := by
    intro X pins s σ H aP aw aK hc I hs _
    subst aP aw aK
    refine ⟨_, _, Draws.text (show X.A.in1.handled = none from I.ok.hd hc) it x t, fun i h => h, fun i h x => x, fun i v hi hv => ?_⟩
    obtain ⟨c, u, h1, rfl⟩ := hv
    exact ⟨.str ⟨#[c]⟩, ⟨u, rfl⟩, c, h1, rfl⟩
def ItZ (n1 n2 : Nat) (Sr1 Sr2 : Hp → Prop) (Y1 Y2 : Nat → V → Prop) : It :=
  ⟨fun i H => i < min n1 n2 ∧ Sr1 H ∧ Sr2 H, fun i H v H' => ∃ T x y, v = .ref T ∧ H T = none ∧ H' = upd H T (.tup [x, y]) ∧ Y1 i x ∧ Y2 i y, fun i H => i = min n1 n2 ∧ Sr1 H ∧ Sr2 H⟩
theorem turn_zipD {P : Program} {w : World} {K : Frg} {elts : List Expr} {kk : Nat} {tpos : Pos} {n1 n2 : Nat} {Sr1 Sr2 : Hp → Prop} {Y1 Y2 : Nat → V → Prop} {St1 St2 : Nat → Heap → Prop} {z TI TO i1 i2 : Addr} {fp1 fp2 : List Addr}
    (S : ZipSep2 z TI TO i1 i2 fp1 fp2) (D1 : Inner2 P w K i1 fp1 n1 Sr1 Y1 St1) (D2 : Inner2 P w K i2 fp2 n2 Sr2 Y2 St2) :
    Turn P w K (.Tuple elts kk tpos) (ItZ n1 n2 Sr1 Sr2 Y1 Y2) [z, TI, TO, i1, i2] z (fun i h => IsZip h z TI TO .none ∧ IsTupOf2 h TI (.ref i1) (.ref i2) ∧ (∃ x y, IsTupOf2 h TO x y) ∧ St1 i h ∧ St2 i h) where
  mem := by simp
  obj := fun i h st c hc => by
    obtain ⟨kz, kTI, ⟨x, y, kTO⟩, h1, h2⟩ := st
    have e9 : c = z ∨ c = TI ∨ c = TO ∨ c = i1 ∨ c = i2 := by simpa using hc
    rcases e9 with rfl | rfl | rfl | rfl | rfl
    · exact ⟨_, kz, fun v q => nomatch q⟩
    · exact ⟨_, kTI, fun v q => nomatch q⟩
    · exact ⟨_, kTO, fun v q => nomatch q⟩
    · exact D1.obj i h h1
    · exact D2.obj i h h2
  keep := fun i h h' st k => by
    obtain ⟨kz, kTI, ⟨x, y, kTO⟩, h1, h2⟩ := st
    exact ⟨k z (by simp) _ kz, k TI (by simp) _ kTI, ⟨x, y, k TO (by simp) _ kTO⟩, D1.keep i h h' h1 fun o q => k i1 (by simp) o q, D2.keep i h h' h2 fun o q => k i2 (by simp) o q⟩
  item := by
    intro X aP aw aK hc i pins s σ H E I hf st hg
    subst aP aw aK
    obtain ⟨kz, kTI, ⟨x8, y8, kTO⟩, h1, h2⟩ := st
    obtain ⟨hin, hs1, hs2⟩ := hg
    obtain ⟨P1, St1', Dr1, t1, t1', hy1⟩ := D1.draws X pins s σ H rfl rfl rfl hc I hs1 ⟨i, h1⟩
    obtain ⟨P2, St2', Dr2, t2, t2', hy2⟩ := D2.draws X pins s σ H rfl rfl rfl hc I hs2 ⟨i, h2⟩
    have kzl : z < s.heap.objs.size := Heap.lt_size kz
    have hi1 : i < n1 := by omega
    have hi2 : i < n2 := by omega
    refine wpAny_pyNext_zipD2_item S Dr1 Dr2 kz kTI kTO (t1 i h1) (t2 i h2) hi1 hi2 fun u u2 h' tk p1 p2 z' TO' h1' h2' hT ksz hk => ?_
    obtain ⟨x, rw1, hyx⟩ := hy1 i u hi1 p1
    obtain ⟨y, rw2, hyy⟩ := hy2 i u2 hi2 p2
    refine ⟨_, rfl, wpAny_letOwnedTupleGo_zip (s := { s with heap := h', toks := tk }) z' fun h'' z'' sb => ?_⟩
    have kT2 : h''.get? s.heap.objs.size = some { cls := .type "tuple", data := .seq #[u, u2] } := (sb.2 _ (Nat.ne_of_gt kzl)).trans hT
    have new : ObjOk X.prog X.w (upd H s.heap.objs.size (.tup [x, y])) h'' s.heap.objs.size (.tup [x, y]) :=
      ⟨by show 2 ≤ sizeLine; decide, [u, u2], .cons rw1 (.cons rw2 .nil), ⟨_, kT2, rfl, _, rfl⟩⟩
    have I1 : Inv X pins σ (upd H s.heap.objs.size (.tup [x, y])) { s with heap := h'', toks := tk } :=
      I.turnedNew (ch := [z, TI, TO, i1, i2]) (fun c o hb q => (sb.2 c (fun q9 => hb (by simp [q9]))).trans (hk c o (fun q9 => hb (by simp [q9])) (fun q9 => hb (by simp [q9])) (fun q9 => hb (by simp [q9])) (fun q9 => hb (by simp [q9])) q)) hf (Nat.le_refl _) new
    have l1 : i1 < s.heap.objs.size := by obtain ⟨o, q, _⟩ := D1.obj i _ h1; exact Heap.lt_size q
    have l2 : i2 < s.heap.objs.size := by obtain ⟨o, q, _⟩ := D2.obj i _ h2; exact Heap.lt_size q
    refine ⟨.ref s.heap.objs.size, _, I1, rfl, ⟨_, x, y, rfl, I.hok.fresh (Nat.le_refl _), rfl, hyx, hyy⟩, ⟨z'', ?_, ⟨u, u2, ?_⟩, ?_, ?_⟩, fun c cm => ?_⟩
    · exact (sb.2 _ S.TIz).trans (hk _ _ S.TIz S.TITO S.TIi1 S.TIi2 kTI)
    · exact (sb.2 _ S.TOz).trans TO'
    · exact D1.keep _ _ _ (t1' _ _ h1') fun o q => (sb.2 _ (Ne.symm S.zi1)).trans q
    · exact D2.keep _ _ _ (t2' _ _ h2') fun o q => (sb.2 _ (Ne.symm S.zi2)).trans q
    · have lt9 : c < s.heap.objs.size := by
        have e9 : c = z ∨ c = TI ∨ c = TO ∨ c = i1 ∨ c = i2 := by simpa using cm
        rcases e9 with q | q | q | q | q
        · rw [q]; exact kzl
        · rw [q]; exact Heap.lt_size kTI
        · rw [q]; exact Heap.lt_size kTO
        · rw [q]; exact l1
        · rw [q]; exact l2
      rw [upd_ne (Nat.ne_of_lt lt9)]
      exact (hf c cm).1
  done := by
    intro X aP aw aK hc i pins s σ H E I hf st hg
    subst aP aw aK
    obtain ⟨kz, kTI, ⟨x8, y8, kTO⟩, h1, h2⟩ := st
    obtain ⟨hi, hs1, hs2⟩ := hg
    obtain ⟨P1, St1', Dr1, t1, t1', hy1⟩ := D1.draws X pins s σ H rfl rfl rfl hc I hs1 ⟨i, h1⟩
    obtain ⟨P2, St2', Dr2, t2, t2', hy2⟩ := D2.draws X pins s σ H rfl rfl rfl hc I hs2 ⟨i, h2⟩
    exact wpAny_pyNext_zipD2_end S Dr1 Dr2 kz kTI kTO (t1 i h1) (t2 i h2) (by omega) (by omega) (by omega) fun h' tk hk => ⟨rfl, I.turnedL (ch := [z, TI, TO, i1, i2]) (fun c o hb q =>
      hk c o (fun q9 => hb (by simp [q9])) (fun q9 => hb (by simp [q9])) (fun q9 => hb (by simp [q9])) (fun q9 => hb (by simp [q9])) q) hf⟩
  self := fun A i s Q E st h => wpAny_pyIter_zip st.1 h
theorem walk_zipD {n1 n2 : Nat} {Sr1 Sr2 : Hp → Prop} {Y1 Y2 : Nat → V → Prop} : L2.Walk (ItZ n1 n2 Sr1 Sr2 Y1 Y2) (min n1 n2) (fun H => Sr1 H ∧ Sr2 H) (fun i H v H' => ∃ T x y, v = .ref T ∧ H T = none ∧ H' = upd H T (.tup [x, y]) ∧ Y1 i x ∧ Y2 i y) :=
  ⟨fun i H hi h => ⟨hi, h⟩, fun H h => ⟨rfl, h⟩, fun i H x H' _ _ y => y⟩
/-- what is drawn from -/
def SrcV (K : Frg) (v : V) (H : Hp) (n : Nat) (Sr : Hp → Prop) (Y : Nat → V → Prop) : Prop :=
  (∃ a ws, v = .ref a ∧ SqL K H a ws ∧ n = ws.length ∧ Sr = (fun H => SqL K H a ws) ∧ Y = fun i x => ws[i]? = some x) ∨
  (∃ a ws, v = .ref a ∧ SqT K H a ws ∧ n = ws.length ∧ Sr = (fun H => SqT K H a ws) ∧ Y = fun i x => ws[i]? = some x) ∨
  ∃ x : Str, v = .str x ∧ n = x.cps.size ∧ Sr = (fun _ => True) ∧ Y = fun i v => ∃ c, x.cps[i]? = some c ∧ v = .str ⟨#[c]⟩
theorem src_pack {X : Cx} {pins : List (Addr × Obj)} {σ : L2.St} {H : Hp} {s : Shared} {v : V} {u : Value} {n : Nat} {Sr : Hp → Prop} {Y : Nat → V → Prop} (I : Inv X pins σ H s) (sv : SrcV X.K v H n Sr Y) (r : RelV v u) (it : Addr) :
    ∃ (o : Obj) (Hh : Heap → Prop) (as : List Addr) (St : Nat → Heap → Prop), Begins u o Hh ∧ Hh s.heap ∧ (∀ b ∈ as, b < s.heap.objs.size) ∧ Inner2 X.prog X.w X.K it (it :: as) n Sr Y St ∧ ∀ h' : Heap, h'.get? it = some o → St 0 h' := by
  rcases sv with ⟨a, ws, rfl, hq, rfl, rfl, rfl⟩ | ⟨a, ws, rfl, hq, rfl, rfl, rfl⟩ | ⟨x, rfl, rfl, rfl, rfl⟩
  · cases r
    obtain ⟨its, rvs, p, kz⟩ := I.list hq
    refine ⟨_, _, [a], _, begins_list a its.toArray, p.isList, fun b hb => ?_, inner2_list, fun h' ho => ⟨_, ho, rfl, rfl⟩⟩
    rw [List.mem_singleton] at hb
    rw [hb]
    exact p.lt
  · cases r
    obtain ⟨its, rvs, p, kz⟩ := I.tuple hq
    refine ⟨_, _, [a], _, begins_tuple a its.toArray, p, fun b hb => ?_, inner2_tuple, fun h' ho => ⟨_, ho, rfl, rfl⟩⟩
    rw [List.mem_singleton] at hb
    rw [hb]
    obtain ⟨o, ho, _⟩ := id p
    exact Heap.lt_size ho
  · obtain ⟨t, rfl⟩ := r
    exact ⟨_, _, [], _, begins_text x t, trivial, fun b hb => (nomatch hb), inner2_text, fun h' ho => ⟨_, ho, rfl, rfl⟩⟩
def iZipD (K : Frg) (ta : TA) : TI := fun σ H R => ta σ H fun vs H1 => ∃ v1 v2 n1 n2 Sr1 Sr2 Y1 Y2, vs = [v1, v2] ∧ SrcV K v1 H1 n1 Sr1 Y1 ∧ SrcV K v2 H1 n2 Sr2 Y2 ∧ R (ItZ n1 n2 Sr1 Sr2 Y1 Y2) H1
theorem pi_zipD {X : Cx} {e e2 : Expr} {ta : TA} {p pos tpos : Pos} {elts : List Expr} {kk : Nat} (hg : Gl X "zip") (hm : X.mg "zip" = none) (ha : PA X [e, e2] ta)
    (hs : starEach [e, e2] X.env = (false, eval e X.env) :: starEach [e2] X.env := by rfl) (kpl : (backTo pos (starEach [e2] X.env)).any (·.1) = false := by rfl) :
    PI X (.Tuple elts kk tpos) (.Call (.Name "zip" p) [e, e2] [] pos) (iZipD X.K ta) := by
  constructor
  intro pins s σ H R I h
  refine Call_ (ld_blt I hg hm PyProof.Rows.boot_zip (PyProof.Rows.callWith_type1 (thn (ha.run pos pins s σ H _ I h) ?_) hs kpl))
  rintro us s1 ⟨vs, H1, I1, r1, v1, v2, n1, n2, Sr1, Sr2, Y1, Y2, rfl, w1, w2, q⟩
  obtain ⟨u1, u2, rfl, ra, rb⟩ := vals2 r1
  obtain ⟨o1, Hh1, as1, St1, B1, b1, l1, D1, st1⟩ := src_pack I1 w1 ra s1.heap.objs.size
  obtain ⟨o2, Hh2, as2, St2, B2, b2, l2, D2, st2⟩ := src_pack I1 w2 rb (s1.heap.objs.size + 1)
  refine zip_begins2 B1 B2 b1 b2 fun h' kz kTI kTO g1 g2 ksz hk => wpAny_pyIter_zip kz ?_
  have J2 : Inv X pins σ H1 { s1 with heap := h' } := I1.kept (t' := s1.toks) hk
  have S : ZipSep2 (s1.heap.objs.size + 4) (s1.heap.objs.size + 2) (s1.heap.objs.size + 3) s1.heap.objs.size (s1.heap.objs.size + 1) (s1.heap.objs.size :: as1) ((s1.heap.objs.size + 1) :: as2) := by
    have ad : ∀ {j k : Nat}, j ≠ k → (s1.heap.objs.size + j : Nat) ≠ s1.heap.objs.size + k := fun h z => h (Nat.add_left_cancel z)
    have no : ∀ {j k : Nat} {as : List Addr}, (∀ b ∈ as, b < s1.heap.objs.size) → k ≠ j → (s1.heap.objs.size + k : Nat) ∉ ((s1.heap.objs.size + j : Nat) :: as : List Addr) := fun {j k as} h hn z => by
      rcases List.mem_cons.mp z with z | z
      · exact ad hn z
      · exact absurd (h _ z) (Nat.not_lt.mpr (Nat.le_add_right _ _))
    exact ⟨ad (j := 2) (k := 4) (by decide), ad (j := 3) (k := 4) (by decide), ad (j := 2) (k := 3) (by decide), ad (j := 2) (k := 0) (by decide), List.mem_cons_self, no (j := 0) (k := 4) l1 (by decide), no (j := 0) (k := 3) l1 (by decide),
      ad (j := 2) (k := 1) (by decide), List.mem_cons_self, no (j := 1) (k := 4) l2 (by decide), no (j := 1) (k := 3) l2 (by decide), no (j := 1) (k := 0) l2 (by decide), no (j := 0) (k := 1) l1 (by decide)⟩
  refine ⟨s1.heap.objs.size + 4, [s1.heap.objs.size + 4, s1.heap.objs.size + 2, s1.heap.objs.size + 3, s1.heap.objs.size, s1.heap.objs.size + 1], _, _, H1, rfl, J2, turn_zipD S D1 D2, ⟨kz, kTI, ⟨_, _, kTO⟩, st1 h' g1, st2 h' g2⟩, fun c cm => ?_, q⟩
  have e9 : c = s1.heap.objs.size + 4 ∨ c = s1.heap.objs.size + 2 ∨ c = s1.heap.objs.size + 3 ∨ c = s1.heap.objs.size ∨ c = s1.heap.objs.size + 1 := by simpa using cm
  have le9 : s1.heap.objs.size ≤ c := by
    rcases e9 with q | q | q | q | q
    · rw [q]; exact Nat.le_add_right _ _
    · rw [q]; exact Nat.le_add_right _ _
    · rw [q]; exact Nat.le_add_right _ _
    · rw [q]; exact Nat.le_refl _
    · rw [q]; exact Nat.le_add_right _ _
  exact I1.fpOk le9 (I1.hok.fresh le9)
def zipD (ds es : List D) : List D := List.zipWith (fun a b => D.tup [a, b]) ds es
section
variable {K : Frg} {np : Nat → Bool} {W : WX} {b1 b2 : Bool} {ta tb : TE} {ma mb : METy}
theorem src_data {B : Bg} {F : List Addr} {σ : L2.St} {ρ : Env} {H : Hp} {v : V} {d : D} {ds : List D} (s1 : Sta K B F σ ρ H) (r1 : R K (Gof F B) H [v] [d] []) (hi : itemsOf d = some ds) :
    ∃ n Sr Y, SrcV K v H n Sr Y ∧ ds.length = n ∧ (∀ F' H', Stp F H F' H' → Sr H') ∧
      ∀ (i : Nat) x F' H' (G' : Addr → Prop), i < n → Y i x → Stp F H F' H' → (∀ a o, H a = some o → ¬ Gof F B a → ¬ G' a) → R K G' H' [x] [ds.getD i .non] [] := by
  have cy : ∀ {ws : List V} {es : List D}, R K (Gof F B) H ws es [] → ∀ (i : Nat) x F' H' (G' : Addr → Prop), i < ws.length → ws[i]? = some x → Stp F H F' H' → (∀ a o, H a = some o → ¬ Gof F B a → ¬ G' a) → R K G' H' [x] [es.getD i .non] [] := by
    intro ws es r i x F' H' G' hi hx9 st hG
    have r' : R K G' H' ws es [] := r.mono (C := fun a => a ∈ F) (fun a o e n => st.keep a o e n) (fun a z => ⟨.inl z, s1.memF z⟩) hG (fun _ z => absurd z (by simp))
    have hd : es[i]? = some (es.getD i .non) := by
      have : i < es.length := by rw [← r.length]; exact hi
      rw [List.getD_eq_getElem?_getD, List.getElem?_eq_getElem this] <;> rfl
    obtain ⟨v', g1, g2⟩ := r'.get0 hd
    rw [hx9] at g1; cases g1
    exact g2
  unfold itemsOf at hi
  split at hi
  · cases hi
    obtain ⟨a, ws, rfl, q1, q2⟩ := r1.lstE
    have na : a ∉ F := by
      cases r1 with
      | «at» z _ => cases z
      | lst na _ _ _ => exact fun z => na (.inl z)
    exact ⟨_, _, _, .inl ⟨a, ws, rfl, SqL.of q1, rfl, rfl, rfl⟩, q2.length.symm, fun F' H' st => SqL.of (st.keep a _ q1 na), cy q2⟩
  · cases hi
    cases r1 with
    | «at» z _ => cases z
    | @rol a ws es _ _ S q1 q2 q3 =>
      have g : ∀ F' H', Stp F H F' H' → SqL K H' a ws := fun F' H' x => by
        rcases q1 with q1 | ⟨o, q1⟩
        · exact q1 _
        · refine .inl (.inr ⟨o, x.keep a _ q1 fun z => ?_⟩)
          have := s1.memF z
          rw [q1] at this
          exact this
      exact ⟨_, _, _, .inl ⟨a, ws, rfl, g F H .refl, rfl, rfl, rfl⟩, q2.length.symm, g, cy q2⟩
  · cases hi
    cases r1 with
    | «at» z _ => cases z
    | @tup a ws es _ _ S q1 q2 q3 =>
      have g : ∀ F' H', Stp F H F' H' → SqT K H' a ws := fun F' H' x => by
        rcases q1 with (q1 | ⟨o, q1⟩) | q1
        · refine .inl (.inl (x.keep a _ q1 fun z => ?_))
          have := s1.memF z
          rw [q1] at this
          exact this
        · refine .inl (.inr ⟨o, x.keep a _ q1 fun z => ?_⟩)
          have := s1.memF z
          rw [q1] at this
          exact this
        · exact .inr q1
      exact ⟨_, _, _, .inr (.inl ⟨a, ws, rfl, g F H .refl, rfl, rfl, rfl⟩), q2.length.symm, g, cy q2⟩
  · rename_i a
    cases hi
    obtain ⟨rfl, hl⟩ := r1.str
    refine ⟨_, _, _, .inr (.inr ⟨_, rfl, rfl, rfl, rfl⟩), by simp, fun _ _ _ => trivial, fun i x F' H' G' hi hx9 st hG => ?_⟩
    obtain ⟨c, hc, rfl⟩ := hx9
    have hc' : a[i]? = some c := by simpa using hc
    have : (a.map fun c => D.str [c]).getD i .non = .str [c] := by
      rw [List.getD_eq_getElem?_getD, List.getElem?_map, hc'] <;> rfl
    rw [this]
    exact .str1 (by rw [line_eq]; exact (by decide : 1 ≤ 16777216))
  · cases hi
def miZip (ma mb : METy) : MITy := fun ρ q x => ma ρ (fun d ρ1 => mb ρ1 (fun e ρ2 => match itemsOf d with
  | some ds => (match itemsOf e with
    | some es => q (zipD ds es) ρ2
    | none => False)
  | none => False) x) x
theorem simi_zip (ha : Sim K W false b1 ta ma) (hb : Sim K W false b2 tb mb) : SimI K W (b1 && b2) (iZipD K (tCons ta (tCons tb tNil))) (miZip ma mb) := by
  intro B F σ ρ H Q q x s h k e
  refine ha B F σ ρ H _ _ x s h (fun v1 d1 ρ1 F1 H1 S1 s1 r1 m1 z1 a1 h1 => ?_) e
  have := z1 rfl; subst this
  refine hb B F1 σ ρ1 H1 _ _ x s1 h1 (fun v2 d2 ρ2 F2 H2 S2 s2 r2 m2 z2 a2 h2 => ?_) (e.aft a1.stp)
  have := z2 rfl; subst this
  split at h2
  · rename_i ds hd
    split at h2
    · rename_i es he
      obtain ⟨n1, Sr1, Y1, w1, l1, g1, c1⟩ := src_data s2 (r1.aftV s1 a2 (.inl rfl)) hd
      obtain ⟨n2, Sr2, Y2, w2, l2, g2, c2⟩ := src_data s2 r2 he
      have hl : (zipD ds es).length = min n1 n2 := by unfold zipD; rw [List.length_zipWith, l1, l2]
      refine ⟨v1, v2, n1, n2, Sr1, Sr2, Y1, Y2, rfl, w1, w2, k _ _ ρ2 F2 H2 s2 ⟨fun H => Sr1 H ∧ Sr2 H, _, by rw [hl]; exact walk_zipD, fun F' H' G' st hG dm => ⟨⟨g1 F' H' st, g2 F' H' st⟩, fun i v H'' hi y => ?_⟩⟩ (a1.trans a2) h2⟩
      rw [hl] at hi
      obtain ⟨T, xv, yv, rfl, hT, rfl, y1, y2⟩ := y
      have i1 : i < ds.length := by omega
      have i2 : i < es.length := by omega
      refine ⟨same_upd hT, .tup [ds.getD i .non, es.getD i .non], ?_, ?_⟩
      · unfold zipD
        rw [List.getElem?_zipWith, List.getElem?_eq_getElem i1, List.getElem?_eq_getElem i2, List.getD_eq_getElem?_getD, List.getD_eq_getElem?_getD, List.getElem?_eq_getElem i1, List.getElem?_eq_getElem i2] <;> rfl
      · exact .newT hT ((c1 i xv F' H' G' (by omega) y1 st hG).cons0 (c2 i yv F' H' G' (by omega) y2 st hG))
    · exact h2.elim
  · exact h2.elim
end
end Mi
end

-- text MY
section
set_option Elab.async false
set_option linter.all false
set_option maxRecDepth 100000
set_option maxHeartbeats 4000000
/-! MY: several except clauses, with and without a name. -/
namespace Mi
open PySem PySem.Spec PyProof.Rows L2
abbrev Hd := Value × Option Nat × (Addr → Value → Option Addr → TS)
/-- what the clauses wish of an exception of the body -/
def wMix (K : Frg) (Wo : WX) (D : Ends) : List Hd → WX
  | [] => Wo
  | (c, some i, ts) :: l => wAs K c i ts (wMix K Wo D l) D
  | (c, none, ts) :: l => fun cls d σ H => ∃ b, PySem.W.exmOne K cls c = some b ∧ (b = true → ∀ a, H a = none → ts a cls d D σ H) ∧ (b = false → wMix K Wo D l cls d σ H)
inductive HdsM (X : Cx) : List ExceptHandler → List Hd → Prop
  | nil : HdsM X [] []
  | plain {x : Str} {c : Value} {ts : Addr → Value → Option Addr → TS} {st : Stmt} {sts : List Stmt} {np pq : Pos} {hs : List ExceptHandler} {l : List Hd} (nc : Names X x c)
      (su : ∀ (a : Addr) (oe : Obj) (cls : Value) (d : Option Addr) (pn : List (Addr × Obj)), L2N.Zn cls d oe → (∃ vs, oe.data = .fields vs) → PSs (X.suite a ((a, oe) :: pn)) (st :: sts) (ts a cls d)) (r : HdsM X hs l) :
      HdsM X (.ExceptHandler (some (.Name x np)) none (st :: sts) pq :: hs) ((c, none, ts) :: l)
  | named {x n : Str} {c : Value} {i : Nat} {ts : Addr → Value → Option Addr → TS} {st : Stmt} {sts : List Stmt} {np pq : Pos} {hs : List ExceptHandler} {l : List Hd} (nN : X.N.Nodup) (ni : X.N[i]? = some n) (nk : X.env.kindOf n = some .local) (nc : Names X x c)
      (su : ∀ (a : Addr) (oe : Obj) (cls : Value) (d : Option Addr) (pn : List (Addr × Obj)), L2N.Zn cls d oe → (∃ vs, oe.data = .fields vs) → PSs (X.suite a ((a, oe) :: pn)) (st :: sts) (ts a cls d)) (r : HdsM X hs l) :
      HdsM X (.ExceptHandler (some (.Name x np)) (some n) (st :: sts) pq :: hs) ((c, some i, ts) :: l)
theorem ps_try_mix {X : Cx} {bd : List Stmt} {h0 : ExceptHandler} {hs : List ExceptHandler} {l : List Hd} {pos : Pos} {tb : WX → TS} {Wo : WX} (sk : X.stack = X.env :: X.outer) (fr : X.env.frame = some X.env.locals) (tk : L2N.Takes X Wo)
    (hb : ∀ (W : WX) (pn : List (Addr × Obj)) (xe : Value → Shared → Prop), L2N.Takes (X.tr pn xe) W → PassesOwn (model X.prog X.w) X.A X.env xe → PSs (X.tr pn xe) bd (tb W)) (hm : HdsM X (h0 :: hs) l) :
    PS X (.Try bd (h0 :: hs) [] [] pos) (fun D σ H => tb (wMix X.K Wo D l) D σ H) := by
  constructor
  intro pins s σ H D I hT
  have okX := I.ok
  have frA : X.A.frames = some (X.env :: X.outer) := okX.frames.trans (by rw [sk])
  refine wpAny_Try_except ?_
  have run := (hb (wMix X.K Wo D l) (X.pn ++ pins) (fun e sa => wpAny (model X.prog X.w) X.A (noteFrame e X.env) (fun _ sb => wpAny (model X.prog X.w) X.A (setFlight e none) (fun _ sc => wpAny (model X.prog X.w) X.A (handleBy e X.env (h0 :: hs)) (SP X pins D) X.xe sc) X.xe sb) X.xe sa) ?_ PassesOwn.looking).run [] s σ H D (I.toTry _) hT
  · refine wpAny_mono run ?_ (fun _ _ z => z)
    intro fl s1 hf
    match fl, hf with
    | .next, ⟨τ, H1, J, q9⟩ => exact wpAny_execs_nil ⟨τ, H1, J.ofTry okX, q9⟩
    | .brk, ⟨τ, H1, J, q9⟩ => exact ⟨τ, H1, J.ofTry okX, q9⟩
    | .cont, ⟨τ, H1, J, q9⟩ => exact ⟨τ, H1, J.ofTry okX, q9⟩
    | .ret u, ⟨v, τ, H1, J, r, q9⟩ => exact ⟨v, τ, H1, J.ofTry okX, r, q9⟩
  rintro u t9 ⟨a, B, sI, pins1, τ, H1, cls, d, rfl, JT, nb, up, sky, na, os, ag, wx⟩
  have J : Inv X pins τ H1 sI := JT.ofTry okX
  have sky1 : Sky B (X.env :: X.outer) a (L2N.Zn cls d) X.env.locals t9.heap := by rw [← sk]; exact sky
  show wpAny (model X.prog X.w) X.A (noteFrame (.ref a) X.env) _ _ _
  refine L2N.Sky.land L2N.Zn.steady frA fr sky1 fun g1 fl1 up1 => ?_
  have J1 : Inv X pins τ H1 { t9 with heap := g1 } := J.landed nb fl1.1 (up.trans up1) os ag
  obtain ⟨oe1, vs1, ge1, gz1, gd1⟩ := fl1.there
  have nfr : a ∉ frs (X.env :: X.outer) := by
    intro hm
    obtain ⟨_, o', e', hnf⟩ := fl1.2.2.1.mem hm
    rw [ge1] at e'
    cases e'
    exact hnf _ gd1
  have nL : a ≠ X.env.locals := by
    intro z
    exact nfr (List.mem_filterMap.mpr ⟨X.env, List.mem_cons_self, by simp only [fr, z]⟩)
  have nF : a ∉ X.fs := by
    intro hm
    obtain ⟨e, he9, q9⟩ := List.mem_filterMap.mp hm
    exact nfr (List.mem_filterMap.mpr ⟨e, List.mem_cons.mpr (.inr he9), q9⟩)
  have S1 := J1.suite ge1 gd1 na nL nF
  have LT : PySem.W.Looks (model X.prog X.w) g1 (typeOf (.ref a)) cls := fun A Q E s k q9 => wpAny_typeOf_ref (k _ _ ge1) (by simpa only [gz1.1] using q9)
  have name : ∀ {x : Str} {c : Value} {np : Pos}, Names X x c → ∀ {Q E : Value → Shared → Prop}, Q c { t9 with heap := g1 } → wpAny (model X.prog X.w) (X.A.mark (some (.ref a))) (eval (.Name x np) X.env) Q E { t9 with heap := g1 } := by
    intro x c np nc Q E q9
    obtain ⟨z1, z2, z3 | ⟨z3, z4, z5⟩⟩ := nc
    · exact ld_glob (X := X.suite a ((a, oe1) :: (X.pn ++ pins))) S1 z1 z3 q9 z2
    · exact ld_blt (X := X.suite a ((a, oe1) :: (X.pn ++ pins))) S1 z1 z3 z4 q9 z5 z2
  have go : ∀ {hs1 : List ExceptHandler} {l1 : List Hd}, HdsM X hs1 l1 → wMix X.K Wo D l1 cls d τ H1 → wpAny (model X.prog X.w) X.A (handleBy (.ref a) X.env hs1) (SP X pins D) X.xe { t9 with heap := g1 } := by
    intro hs1 l1 hk
    induction hk with
    | nil =>
      intro w0
      refine wpAny_handleBy_nil ?_
      obtain ⟨_, _, _, oe, vs, T, oT, _, he9, hz, hd9, h1, _⟩ := id fl1
      unfold PySem.passOn
      refine wpAny_bind (wpAny_field he9 hd9 h1 ?_)
      rw [if_neg (by simp)]
      have fin9 : wpAny (model X.prog X.w) X.A (setFlight (.ref a) X.env.frame) (fun _ s4 => wpAny (model X.prog X.w) X.A (throw (.ref a) : Sem Flow) (SP X pins D) X.xe s4) X.xe { t9 with heap := g1 } := by
        rw [fr]
        refine HandSPX.setFlight_upZ fl1 fun g2 hg2 up2 => wpAny_throw (tk _ _ ?_)
        refine ⟨a, B, sI, pins, τ, H1, cls, d, rfl, J, nb, (up.trans up1).trans up2, .inr (.inr ?_), na, os, ag, w0⟩
        rw [sk]
        exact hg2
      first
        | exact wpAny_bind (wpAny_pure (wpAny_bind fin9))
        | exact wpAny_bind fin9
    | @plain x c ts st sts np pq hs2 l2 nc su r ih =>
      rintro ⟨b, hb1, yes, no⟩
      refine wpAny_handleBy_cons (codeAny_handlers_test ?_) (fun q9 => by cases q9)
      have LM := PySem.W.exm_one (M := model X.prog X.w) (J1.kIn) LT hb1
      refine name nc (LM.here ?_)
      match b, yes, no with
      | false, _, no => exact ih (no rfl)
      | true, yes, _ =>
        refine codeAny_handlers_suite ?_
        refine HandSPX.lands_againZ fl1 fun g2 fl2 up2 => ?_
        obtain ⟨oe2, vs2, ge2, gz2, gd2⟩ := fl2.there
        have S2 := (J.landed nb fl2.1 ((up.trans up1).trans up2) os ag : Inv X pins τ H1 { t9 with heap := g2 }).suite ge2 gd2 na nL nF
        refine wpAny_mono ((su a oe2 cls d (X.pn ++ pins) gz2 ⟨_, gd2⟩).run [] _ _ H1 _ S2 (yes rfl a na)) ?_ (fun _ _ z => z.elim)
        intro fl s6 hf
        match fl, hf with
        | .next, ⟨τ6, H6, S6, q6⟩ => exact ⟨τ6, H6, S6.unsuite okX, q6⟩
        | .brk, ⟨τ6, H6, S6, q6⟩ => exact ⟨τ6, H6, S6.unsuite okX, q6⟩
        | .cont, ⟨τ6, H6, S6, q6⟩ => exact ⟨τ6, H6, S6.unsuite okX, q6⟩
        | .ret u, ⟨v6, τ6, H6, S6, r6, q6⟩ => exact ⟨v6, τ6, H6, S6.unsuite okX, r6, q6⟩
    | @named x n c i ts st sts np pq hs2 l2 nN ni nk nc su r ih =>
      rintro ⟨b, hb1, yes, no⟩
      refine wpAny_handleBy_cons (codeAny_handlers_test ?_) (fun q9 => by cases q9)
      have LM := PySem.W.exm_one (M := model X.prog X.w) (J1.kIn) LT hb1
      refine name nc (LM.here ?_)
      match b, yes, no with
      | false, _, no => exact ih (no rfl)
      | true, yes, _ =>
        refine codeAny_handlers_suite_as ?_
        refine HandSPX.lands_againZ fl1 fun g2 fl2 up2 => ?_
        obtain ⟨oe2, vs2, ge2, gz2, gd2⟩ := fl2.there
        have S2 := (J.landed nb fl2.1 ((up.trans up1).trans up2) os ag : Inv X pins τ H1 { t9 with heap := g2 }).suite ge2 gd2 na nL nF
        refine store_ok (X := X.suite a ((a, oe2) :: (X.pn ++ pins))) (v := .ref a) S2 nN ni (.inl nk) rfl (fun s5 S5 => ?_) (.inr nk)
        refine wpAny_mono ((su a oe2 cls d (X.pn ++ pins) gz2 ⟨_, gd2⟩).run [] s5 _ H1 _ S5 (yes rfl a na)) ?_ (fun _ _ z => z.elim)
        intro fl s6 hf
        have gone : ∀ {τ6 : L2.St} {H6 : Hp} {Q : Shared → Prop}, Inv (X.suite a ((a, oe2) :: (X.pn ++ pins))) [] τ6 H6 s6 → (∀ s7, Inv X pins (τ6.set i none) H6 s7 → Q s7) →
            wpAny (model X.prog X.w) X.A (do bindName X.env n .none; unbindBehindTheSuite X.env n pq) (fun _ s7 => Q s7) X.xe s6 := fun S6 hq => gone_ok (S6.unsuite okX) nN ni nk hq
        match fl, hf with
        | .next, ⟨τ6, H6, S6, q6⟩ => exact gone S6 fun s7 J7 => ⟨_, _, J7, q6⟩
        | .brk, ⟨τ6, H6, S6, q6⟩ => exact gone S6 fun s7 J7 => ⟨_, _, J7, q6⟩
        | .cont, ⟨τ6, H6, S6, q6⟩ => exact gone S6 fun s7 J7 => ⟨_, _, J7, q6⟩
        | .ret u, ⟨v6, τ6, H6, S6, r6, q6⟩ => exact gone S6 fun s7 J7 => ⟨_, _, _, J7, r6, q6⟩
  exact go hm wx
/-! the mirror's side -/
abbrev Hm := Nat × Option Nat × (Xc → MSTy)
def exM : List Hm → Es → EK
  | [], E => E.ex
  | (j, o, ms) :: l, E => fun er ρ1 => match isSub er.cls j with
    | true => (match o with
      | some i => (match Nat.blt i ρ1.length with
        | true => ∀ c : Xc, ms c { nx := fun ρ2 => E.nx (ρ2.set i none), rt := E.rt, bk := fun ρ2 => E.bk (ρ2.set i none), ct := fun ρ2 => E.ct (ρ2.set i none), ex := fun _ _ => False } (ρ1.set i (some (.exc c er.cls er.fs)))
        | false => False)
      | none => ∀ c : Xc, ms c { E with ex := fun _ _ => False } ρ1)
    | false => exM l E er ρ1
def mTrys (hs : List Hm) (mb : MSTy) : MSTy := fun E ρ => mb { E with ex := exM hs E } ρ
inductive HSim (K : Frg) (np : Nat → Bool) : List Hd → List Hm → Prop
  | nil : HSim K np [] []
  | plain {C : Addr} {j : Nat} {ts : Addr → Value → Option Addr → TS} {ms : Xc → MSTy} {l : List Hd} {l' : List Hm} (hc : XCls K j C) (hj : j < 16) (hs : ∀ c : Xc, SimS K np (fun _ _ _ _ => False) (ts c.a c.v c.d) (ms c)) (r : HSim K np l l') :
      HSim K np ((.ref C, none, ts) :: l) ((j, none, ms) :: l')
  | named {C : Addr} {j i : Nat} {ts : Addr → Value → Option Addr → TS} {ms : Xc → MSTy} {l : List Hd} {l' : List Hm} (hc : XCls K j C) (hj : j < 16) (hi : np i = false) (hs : ∀ c : Xc, SimS K np (fun _ _ _ _ => False) (ts c.a c.v c.d) (ms c)) (r : HSim K np l l') :
      HSim K np ((.ref C, some i, ts) :: l) ((j, some i, ms) :: l')
theorem ss_trys {K : Frg} {np : Nat → Bool} {W : WX} {tb : WX → TS} {mb : MSTy} {l : List Hd} {l' : List Hm} (hb : ∀ W, SimS K np W (tb W) mb) (hh : HSim K np l l') : SimS K np W (fun D σ H => tb (wMix K W D l) D σ H) (mTrys l' mb) := by
  intro B F σ ρ H D E hp s h k
  refine hb _ B F σ ρ H D _ hp s h ⟨k.nx, k.rt, k.bk, k.ct, fun σ1 er ρ1 F1 H1 cls dx s1 r1 st hx => ?_⟩
  have go : ∀ {l : List Hd} {l' : List Hm}, HSim K np l l' → exM l' E er ρ1 → wMix K W D l cls dx σ1 H1 := by
    intro l l' hh
    induction hh with
    | nil => exact fun hx => k.ex σ1 er ρ1 F1 H1 cls dx s1 r1 st hx
    | @plain C j ts ms l l' hc hj hs r ih =>
      intro hx
      obtain ⟨dd, ed, g, fv, e1, e2, e3⟩ := id r1
      subst ed
      refine ⟨isSub er.cls j, hc.exm g hj, fun e a na => ?_, fun e => ?_⟩
      · unfold exM at hx
        rw [e] at hx
        have k' := k.aft st
        exact hs ⟨a, some dd, cls⟩ B F1 σ1 ρ1 H1 D _ hp s1 (hx ⟨a, some dd, cls⟩) ⟨k'.nx, k'.rt, k'.bk, k'.ct, fun _ _ _ _ _ _ _ _ _ _ z => z.elim⟩
      · unfold exM at hx
        rw [e] at hx
        exact ih hx
    | @named C j i ts ms l l' hc hj hi hs r ih =>
      intro hx
      obtain ⟨dd, ed, g, fv, e1, e2, e3⟩ := id r1
      subst ed
      have pins : ∀ p ∈ B.pn, p.1 ≠ i := fun p z e => by
        have := hp p z
        rw [e, hi] at this
        cases this
      refine ⟨isSub er.cls j, hc.exm g hj, fun e a na => ?_, fun e => ?_⟩
      · unfold exM at hx
        rw [e] at hx
        simp only at hx
        split at hx
        · rename_i hl
          have hl' : i < ρ1.length := Nat.blt_eq.mp hl
          obtain ⟨F2, s2, st2⟩ := s1.store (v := .ref a) (d := .exc ⟨a, some dd, cls⟩ er.cls er.fs) hl' pins (R.exc (c := ⟨a, some dd, cls⟩) g rfl e1 e2 e3 .nil)
          refine hs ⟨a, some dd, cls⟩ B F2 _ _ H1 _ _ hp s2 (hx ⟨a, some dd, cls⟩) ⟨fun σ2 ρ2 F3 H3 s3 st3 e => ?_, fun v d S σ2 ρ2 F3 H3 s3 r3 n3 hS st3 e => ?_, fun σ2 ρ2 F3 H3 s3 st3 e => ?_, fun σ2 ρ2 F3 H3 s3 st3 e => ?_, fun _ _ _ _ _ _ _ _ _ _ z => z.elim⟩
          · obtain ⟨F4, s4, st4⟩ := s3.gone pins
            exact k.nx _ _ F4 H3 s4 ((st.trans st2).trans (st3.trans st4)) e
          · exact k.rt v d S σ2 ρ2 F3 H3 s3 r3 n3 (fun b z => none_back (st.trans st2) (hS b z)) ((st.trans st2).trans st3) e
          · obtain ⟨F4, s4, st4⟩ := s3.gone pins
            exact k.bk _ _ F4 H3 s4 ((st.trans st2).trans (st3.trans st4)) e
          · obtain ⟨F4, s4, st4⟩ := s3.gone pins
            exact k.ct _ _ F4 H3 s4 ((st.trans st2).trans (st3.trans st4)) e
        · exact hx.elim
      · unfold exM at hx
        rw [e] at hx
        exact ih hx
  exact go hh hx
end Mi
end

-- text MZ
section
set_option Elab.async false
set_option linter.all false
set_option maxRecDepth 100000
set_option maxHeartbeats 4000000
/-! MZ: tuple(range(..)), list(range(..)). -/
namespace Mi
open PySem PySem.Spec PyProof.Rows L2
section
variable {K : Frg} {np : Nat → Bool} {W : WX} {b1 b2 vw1 vw2 : Bool} {ta tb : TE} {ma mb : METy}
theorem rg_D {G : Addr → Prop} {H : Hp} (a b : Int) : R K G H (rgV a b) (rngI a (b - a).toNat) [] := by
  unfold rgV rngI
  generalize (List.range (b - a).toNat) = l
  induction l with
  | nil => exact .nil
  | cons k l ih => exact .at .int ih
def mRgOk (a b : Int) : Prop := -(2 ^ 62) ≤ a ∧ a < 2 ^ 62 ∧ -(2 ^ 62) ≤ b ∧ b < 2 ^ 62 ∧ (b - a).toNat ≤ 16777216
theorem rgok {a b : Int} (h : mRgOk a b) : RgOk a b := ⟨h.1, h.2.1, h.2.2.1, h.2.2.2.1, Nat.le_trans h.2.2.2.2 (by decide)⟩
def mTupRg1 (ma : METy) : METy := fun ρ q x => ma ρ (fun d ρ1 => match d with
  | .int n => mRgOk 0 n ∧ q (.tup (rngI 0 n.toNat)) ρ1
  | _ => False) x
def mTupRg2 (ma mb : METy) : METy := fun ρ q x => ma ρ (fun d ρ1 => mb ρ1 (fun e ρ2 => match d, e with
  | .int a, .int b => mRgOk a b ∧ q (.tup (rngI a (b - a).toNat)) ρ2
  | _, _ => False) x) x
def mLstRg1 (ma : METy) : MATy := fun ρ q x => ma ρ (fun d ρ1 => match d with
  | .int n => mRgOk 0 n ∧ q (rngI 0 n.toNat) ρ1
  | _ => False) x
def mLstRg2 (ma mb : METy) : MATy := fun ρ q x => ma ρ (fun d ρ1 => mb ρ1 (fun e ρ2 => match d, e with
  | .int a, .int b => mRgOk a b ∧ q (rngI a (b - a).toNat) ρ2
  | _, _ => False) x) x
theorem sim_tupRg1 (ha : Sim K W vw1 b1 ta ma) : Sim K W false b1 (tTupRg (tRg1 ta)) (mTupRg1 ma) := by
  intro B F σ ρ H Q q x s h k e
  refine ha B F σ ρ H _ _ x s h (fun v d ρ1 F1 H1 S1 s1 r1 m1 z1 a1 h1 => ?_) e
  split at h1
  · rename_i n
    have := r1.int; subst this
    refine ⟨n, rfl, rgok h1.1, fun p hp => ?_⟩
    have r := rg_D (K := K) (G := Gof F1 B) (H := H1) 0 n
    rw [Int.sub_zero] at r
    exact k _ _ ρ1 F1 _ [] (s1.ext (same_upd hp)) (.newT hp r) (by simp) (fun _ => rfl) (a1.ext (same_upd hp)) h1.2
  · exact h1.elim
theorem sim_tupRg2 (ha : Sim K W vw1 b1 ta ma) (hb : Sim K W vw2 b2 tb mb) : Sim K W false (b1 && b2) (tTupRg (tRg2 ta tb)) (mTupRg2 ma mb) := by
  intro B F σ ρ H Q q x s h k e
  refine ha B F σ ρ H _ _ x s h (fun v d ρ1 F1 H1 S1 s1 r1 m1 z1 a1 h1 => ?_) e
  refine hb B F1 σ ρ1 H1 _ _ x s1 h1 (fun v2 d2 ρ2 F2 H2 S2 s2 r2 m2 z2 a2 h2 => ?_) (e.aft a1.stp)
  split at h2
  · rename_i i j
    have := r1.int; subst this
    have := r2.int; subst this
    refine ⟨i, j, rfl, rfl, rgok h2.1, fun p hp => ?_⟩
    exact k _ _ ρ2 F2 _ [] (s2.ext (same_upd hp)) (.newT hp (rg_D i j)) (by simp) (fun _ => rfl) ((a1.trans a2).ext (same_upd hp)) h2.2
  · exact h2.elim
theorem simn_lstRg1 (ha : Sim K W vw1 b1 ta ma) : SimN K W b1 (tLstRg (tRg1 ta)) (mLstRg1 ma) := by
  intro B F σ ρ H Q q x s h k e
  refine ha B F σ ρ H _ _ x s h (fun v d ρ1 F1 H1 S1 s1 r1 m1 z1 a1 h1 => ?_) e
  split at h1
  · rename_i n
    have := r1.int; subst this
    refine ⟨n, rfl, rgok h1.1, fun p hp => ?_⟩
    have r := rg_D (K := K) (G := Gof F1 B) (H := H1) 0 n
    rw [Int.sub_zero] at r
    refine k p _ _ ρ1 F1 _ (s1.lay hp trivial) upd_same (fun z => s1.dom.new hp (.inr z)) (r.lay hp) (a1.ext (same_upd hp)) ?_ h1.2
    cases e0 : H p with
    | none => rfl
    | some o =>
      obtain ⟨o', e1⟩ := a1.stp.dom p o e0
      rw [hp] at e1; cases e1
  · exact h1.elim
theorem simn_lstRg2 (ha : Sim K W vw1 b1 ta ma) (hb : Sim K W vw2 b2 tb mb) : SimN K W (b1 && b2) (tLstRg (tRg2 ta tb)) (mLstRg2 ma mb) := by
  intro B F σ ρ H Q q x s h k e
  refine ha B F σ ρ H _ _ x s h (fun v d ρ1 F1 H1 S1 s1 r1 m1 z1 a1 h1 => ?_) e
  refine hb B F1 σ ρ1 H1 _ _ x s1 h1 (fun v2 d2 ρ2 F2 H2 S2 s2 r2 m2 z2 a2 h2 => ?_) (e.aft a1.stp)
  split at h2
  · rename_i i j
    have := r1.int; subst this
    have := r2.int; subst this
    refine ⟨i, j, rfl, rfl, rgok h2.1, fun p hp => ?_⟩
    have a3 := a1.trans a2
    refine k p _ _ ρ2 F2 _ (s2.lay hp trivial) upd_same (fun z => s2.dom.new hp (.inr z)) ((rg_D i j).lay hp) (a3.ext (same_upd hp)) ?_ h2.2
    cases e0 : H p with
    | none => rfl
    | some o =>
      obtain ⟨o', e1⟩ := a3.stp.dom p o e0
      rw [hp] at e1; cases e1
  · exact h2.elim
end
end Mi
end

-- text NA
section
set_option Elab.async false
set_option linter.all false
set_option maxRecDepth 100000
set_option maxHeartbeats 4000000
/-! NA: xs.extend(a tuple). -/
namespace PySem
open Sem (wp)
open AutoSeq1
theorem extend_tup (l : Addr) (its : Array Value) (n : Nat) (b : Addr) (zs : Array Value) (m : Nat) (dd : Option Addr) (sl : Array (Option Value)) (h0 : ¬(!its.isEmpty && Builtin.List.listTooLong (its.size + zs.size)) = true) (h1 : its.size ≤ sizeLine) (h2 : its.size + zs.size ≤ sizeLine + 1) :
    Meets (Builtin.«list.extend» ⟨[.ref l, .ref b], []⟩) (fun _ R s => s.heap.get? l = some { cls := .type "list", dict := none, data := .seq its n, slots := #[] } ∧ s.heap.get? b = some { cls := .type "tuple", dict := dd, data := .seq zs m, slots := sl } ∧ R (.ok (.ret Value.none)) { s with heap := s.heap.update l (Obj.mapSeq fun x => x ++ zs), toks := s.toks }) :=
  .of_wp fun prog w A R s h => by
    obtain ⟨hp, g, d, tk, os⟩ := s
    obtain ⟨hl, hb, h⟩ := h
    have f1 := idx_int
    have f2 := sub_tuple_tuple
    have f3 := sub_list_list
    have f4 := sub_tuple_list
    have f5 := sub_list_tuple
    have z2 : (its ++ zs).size ≤ sizeLine + 1 := by rw [Array.size_append]; exact h2
    wp_walk using (wpAny_updateSeq hl rfl (hz := h1) (_hz' := z2)), wpAny_loadPart' hl, wpAny_loadPart' hb
    exact ⟨_, rfl, h⟩
end PySem
namespace Mi
open PySem PySem.Spec PyProof.Rows L2
def rExtT (K : Frg) : V → List V → Hp → VK → Prop := fun x vs H Q => ∃ l b xs zs, x = .ref l ∧ vs = [.ref b] ∧ H l = some (.lst xs) ∧ SqT K H b zs ∧ xs.length + zs.length ≤ sizeLine ∧ Q .non (upd H l (.lst (xs ++ zs)))
theorem mt_extT {X : Cx} : MtM X "list.extend" (rExtT X.K) := by
  rintro pins s σ H x vs v us Q I rx rv ⟨l, b, xs, zs, rfl, rfl, hH, hB, hz, q⟩
  cases rx
  obtain ⟨u, rfl, ru⟩ := rv.one
  cases ru
  obtain ⟨z, its, n, r, hl, e⟩ := I.lstM hH
  obtain ⟨is2, r2, ⟨⟨cls, dd, dt, sl⟩, ho, hc, m, hd⟩, z2⟩ := I.tuple hB
  simp only at hc hd
  subst hc hd
  have hl2 := r2.length
  have hsz : its.toArray.size + is2.toArray.size ≤ sizeLine := by simp only [List.size_toArray]; omega
  refine call_meets F.slot_list_extend ⟨_, e, rfl⟩ F.entry_list_extend (F.args_list_extend_2 _ _) (extend_tup l its.toArray n b is2.toArray m dd sl (by rw [notLongL hsz, Bool.and_false]; exact Bool.false_ne_true) (by simp only [List.size_toArray]; omega) (by omega)) ⟨e, ho, ?_⟩
  refine ⟨.non, _, I.lset (its' := its ++ is2) hH e (by simp) (r.append r2) ?_, rfl, q⟩
  rw [List.length_append]
  omega
section
variable {K : Frg} {np : Nat → Bool} {W : WX} {b : Bool}
/-- xs.extend(e), e a list or a tuple -/
def mExtendA (i : Nat) (ma : METy) : MSTy := fun E ρ => match ρ[i]? with
  | some (some (.mls _)) => ma ρ (fun d ρ1 => match ρ1[i]? with
    | some (some (.mls ds)) => (match d with
      | .lst es => ds.length + es.length ≤ 16777216 ∧ E.nx (ρ1.set i (some (.mls (ds ++ es))))
      | .tup es => ds.length + es.length ≤ 16777216 ∧ E.nx (ρ1.set i (some (.mls (ds ++ es))))
      | _ => False)
    | _ => False) E.ex
  | _ => False
theorem ss_extendA {i : Nat} {te : TE} {ma : METy} (ha : Sim K W false b te ma) : SimS K np W (tDrop (tBM K "list" (fun x xs H Q => rExtend x xs H Q ∨ rExtT K x xs H Q) (tVar i) (tCons te tNil))) (mExtendA i ma) := by
  intro B F σ ρ H D E hp s h k
  unfold mExtendA at h
  split at h
  · rename_i ds0 e0
    obtain ⟨p, ws0, h1, h2⟩ := s.own e0
    refine ⟨.ref p, h1, .inl ⟨rfl, ws0, SqL.of h2⟩, ?_⟩
    refine ha B F σ ρ H _ _ E.ex s h (fun v1 d1 ρ1 F1 H1 S1 s1 r1 m1 z1 a1 p1 => ?_) (k.ex σ)
    have := z1 rfl; subst this
    split at p1
    · rename_i ds e1
      obtain ⟨p', ws, S2, g1, g2, g3, ch⟩ := s1.change e1
      rw [h1] at g1; cases g1
      have nd := s1.nodup_sub e1 h1 g2 g3
      have go : ∀ {zs : List V} {es : List Mi.D}, R K (Gof F1 B) H1 zs es [] → ∃ F2, Sta K B F2 σ (ρ1.set i (some (.mls (ds ++ es)))) (upd H1 p (.lst (ws ++ zs))) ∧ Stp F1 H1 F2 (upd H1 p (.lst (ws ++ zs))) := fun {zs es} rz =>
        ch (ws ++ zs) (ds ++ es) S2 (by have := g3.app rz; rwa [List.append_nil] at this) (fun a z => z) nd
      split at p1
      · rename_i es
        obtain ⟨a, zs, rfl, hz, rz⟩ := r1.lstE
        obtain ⟨F2, s2, st2⟩ := go rz
        exact .inl ⟨p, a, ws, zs, rfl, rfl, g2, hz, by rw [g3.length, rz.length, line_eq]; exact p1.1, k.nx σ _ F2 _ s2 (a1.stp.trans st2) p1.2⟩
      · rename_i es
        obtain ⟨a, zs, rfl, hz, rz⟩ := r1.tupE
        obtain ⟨F2, s2, st2⟩ := go rz
        exact .inr ⟨p, a, ws, zs, rfl, rfl, g2, hz, by rw [g3.length, rz.length, line_eq]; exact p1.1, k.nx σ _ F2 _ s2 (a1.stp.trans st2) p1.2⟩
      · exact p1.elim
    · exact p1.elim
  · exact h.elim
end
end Mi
end

-- text NB
section
set_option Elab.async false
set_option linter.all false
set_option maxRecDepth 100000
set_option maxHeartbeats 4000000
/-! NB: tuple(range(a, b, c)). -/
namespace Mi
open PySem PySem.Spec PyProof.Rows L2
def cnV (i c : Int) (n : Nat) : List V := (List.range n).map fun k => V.int (i + (k : Nat) * c)
def tTupRg3 (ta : TA) : TE := fun σ H Q => ta σ H fun vs H1 => ∃ (i j c : Int) (n : Nat), vs = [.int i, .int j, .int c] ∧ RgC i j c n ∧ n ≤ 16777216 ∧ ∀ q, H1 q = none → Q (.ref q) (upd H1 q (.tup (cnV i c n)))
theorem vals_cn {i c : Int} {n : Nat} {acc : Array Value} (h : ItemsOf (fun k v => ∃ t, v = .int (i + k * c) t) acc n) : Vals (cnV i c n) acc.toList := by
  have e : acc.toList.length = n := by rw [Array.length_toList]; exact h.1
  subst e
  refine vals_of_get acc.toList _ fun j u hj => ?_
  obtain ⟨t, rfl⟩ := h.2 j u (by rw [← hj, Array.getElem?_toList])
  exact ⟨t, rfl⟩
theorem pe_tupRg3 {X : Cx} {a b c : Expr} {ta : TA} {p p2 pos pos2 : Pos} (hc : X.calm = true) (gt : Gl X "tuple") (mt : X.mg "tuple" = none) (gr : Gl X "range") (mr : X.mg "range" = none) (ha : PA X [a, b, c] ta)
    (s1 : starEach [a, b, c] X.env = (false, eval a X.env) :: starEach [b, c] X.env := by rfl) (s2 : (backTo pos2 (starEach [b, c] X.env)).any (·.1) = false := by rfl)
    (s3 : starEach [.Call (.Name "range" p2) [a, b, c] [] pos2] X.env = (false, eval (.Call (.Name "range" p2) [a, b, c] [] pos2) X.env) :: starEach [] X.env := by rfl) :
    PE X (.Call (.Name "tuple" p) [.Call (.Name "range" p2) [a, b, c] [] pos2] [] pos) (tTupRg3 ta) := by
  constructor
  intro pins s σ H Q I h
  have inner : wpAny (model X.prog X.w) X.A (eval (.Call (.Name "range" p2) [a, b, c] [] pos2) X.env) (fun x sh => ∃ r i j k n t u v H1, x = .ref r ∧ IsRange sh.heap r i j k t u v ∧ Inv X pins σ H1 sh ∧ RgC i j k n ∧ n ≤ 16777216 ∧ ∀ q, H1 q = none → Q (.ref q) (upd H1 q (.tup (cnV i k n)))) X.xe s := by
    refine Call_ (ld_blt I gr mr boot_range (PyProof.Rows.callWith_type1 (thn (ha.run pos2 pins s σ H _ I h) ?_) s1 s2))
    rintro us sh ⟨vs, H1, I1, r1, i, j, k, n, rfl, g, hn, q⟩
    obtain ⟨u1, us, rfl, ⟨t1, rfl⟩, r2⟩ : ∃ u us', us = u :: us' ∧ RelV (.int i) u ∧ Vals [.int j, .int k] us' := by
      cases r1 with
      | cons z r => exact ⟨_, _, rfl, z, r⟩
    obtain ⟨u2, u3, rfl, ⟨t2, rfl⟩, ⟨t3, rfl⟩⟩ := vals2 r2
    obtain ⟨c0, c1, c2, c3⟩ := id g
    refine call_range_3 c0 ?_ (.inl (PyProof.noPylong_small c1))
    exact ⟨_, i, j, k, n, _, _, _, H1, rfl, IsRange.new _ _ _ _ _ _ _, I1.kept fun b o e => Heap.get?_push_of_some _ e, g, hn, q⟩
  refine Call_ (ld_blt I gt mt boot_tuple (PyProof.Rows.callWith_type1 (args_cons (thn inner ?_) s3) s3))
  rintro x sh ⟨r, i, j, k, n, t, u, v, H1, rfl, hr, I1, ⟨c0, c1, c2, c3⟩, hn, q⟩
  refine args_nil ?_
  refine call_tuple_range (n := n) (I1.ok.hd hc) hr c2 c3 (Nat.le_trans hn (by decide)) fun h' tk acc hk hi => ?_
  have I2 : Inv X pins σ H1 { sh with heap := h', toks := tk } := I1.kept hk
  have hl : (cnV i k n).length ≤ sizeLine := by unfold cnV; rw [List.length_map, List.length_range, line_eq]; exact hn
  exact ⟨.ref h'.objs.size, upd H1 h'.objs.size (.tup (cnV i k n)), I2.laid (t' := tk) (fun c o e => Heap.get?_push_of_some _ e) (Nat.le_refl _) (show ObjOk X.prog X.w _ _ _ (.tup (cnV i k n)) from ⟨hl, acc.toList, vals_cn hi, by rw [Array.toArray_toList]; exact IsTup.new _ _⟩), rfl, q _ (I2.hok.fresh (Nat.le_refl _))⟩
section
variable {K : Frg} {W : WX} {b1 : Bool} {ta : TA} {ma : MATy}
def mTupRg3 (ma : MATy) : METy := fun ρ q x => ma ρ (fun ds ρ1 => match ds with
  | [.int i, .int j, .int c] => ∃ n, RgC i j c n ∧ n ≤ 16777216 ∧ q (.tup (rngC i c n)) ρ1
  | _ => False) x
theorem cn_D {G : Addr → Prop} {H : Hp} (i c : Int) (n : Nat) : R K G H (cnV i c n) (rngC i c n) [] := by
  unfold cnV rngC
  generalize (List.range n) = l
  induction l with
  | nil => exact .nil
  | cons k l ih => exact .at .int ih
theorem sim_tupRg3 (ha : SimA K W false b1 ta ma) : Sim K W false b1 (tTupRg3 ta) (mTupRg3 ma) := by
  intro B F σ ρ H Q q x s h k e
  refine ha B F σ ρ H _ _ x s h (fun vs ds ρ1 F1 H1 S1 s1 r1 m1 z1 a1 h1 => ?_) e
  split at h1
  · rename_i i j c
    obtain ⟨n, g, hn, hq⟩ := h1
    match vs, r1.length with
    | [v1, v2, v3], _ =>
      obtain ⟨_, _, _, q1, r2⟩ := r1.uncons
      obtain ⟨_, _, _, q2, q3⟩ := r2.uncons
      have := q1.int; subst this
      have := q2.int; subst this
      have := q3.int; subst this
      exact ⟨i, j, c, n, rfl, g, hn, fun p hp => k _ _ ρ1 F1 _ [] (s1.ext (same_upd hp)) (.newT hp (cn_D i c n)) (by simp) (fun _ => rfl) (a1.ext (same_upd hp)) hq⟩
  · exact h1.elim
end
end Mi
end

-- text NC
section
set_option Elab.async false
set_option linter.all false
set_option maxRecDepth 100000
set_option maxHeartbeats 4000000
/-! NC: defs as values, calls of a parameter. -/
namespace Mi
open PySem PySem.Spec PyProof.Rows L2
/-- the def of this name, as a value -/
def fvOf (mg : Str → Option Value) (x : Str) : V := match mg x with
  | some (.ref a) => .ref a
  | _ => .non
theorem fvOf_eq {mg : Str → Option Value} {x : Str} {f : Addr} (h : mg x = some (.ref f)) : fvOf mg x = .ref f := by
  unfold fvOf
  rw [h]
theorem sim_fv {K : Frg} {W : WX} {mg : Str → Option Value} {x : Str} {f : Addr} (h : mg x = some (.ref f)) : Sim K W false true (tC (.ref f)) (mC (.cv (fvOf mg x))) := by
  rw [fvOf_eq h]
  exact sim_c .cv
def mCallF (i : Nat) (opts : List (V × FS)) (n : Nat) (ma : MATy) : METy := fun ρ q x => match ρ[i]? with
  | some (some (.cv v)) => ∃ sp, (v, sp) ∈ opts ∧ mCall0 sp n ma ρ q x
  | _ => False
def tCallF (K : Frg) (i n : Nat) (opts : List (V × FS)) (E : L2.St → XK) (t : TA) : TE := fun σ H Q => ∃ v sp, σ[i]? = some (some v) ∧ (v, sp) ∈ opts ∧ tCallS (spOf K (List.replicate n false) sp) E t σ H Q
section
variable {K : Frg} {W : WX} {b1 : Bool} {tr : TA} {ma : MATy}
theorem sim_callF {i n : Nat} {opts : List (V × FS)} (ha : SimA K W false b1 tr ma) : Sim K W false b1 (tCallF K i n opts (WE W) tr) (mCallF i opts n ma) := by
  intro B F σ ρ H Q q x s h k e
  unfold mCallF at h
  split at h
  · rename_i v e0
    obtain ⟨sp, hm, hq⟩ := h
    obtain ⟨w, S0, h1, r, _⟩ := s.env.get e0
    have ew : w = v := by
      cases r with
      | «at» z _ => cases z; rfl
    subst ew
    exact ⟨w, sp, h1, hm, sim_call0 ha B F σ ρ H Q q x s hq k e⟩
  · exact h.elim
end
theorem pe_callF {K : Frg} {X : Cx} {CX : CXT} {k i n : Nat} {opts : List (V × FS)} {E : L2.St → XK} {x : Str} {p pos : Pos} {e : Expr} {es : List Expr} {t : TA}
    (A : ∀ v sp, (v, sp) ∈ opts → ∃ f fd ps, v = .ref f ∧ PySem.W.keepIn K (.ref f) = true ∧ Binds K fd ps [] ∧ FnOk X.prog X.w K X.mg X.base CX k f fd ps (spOf K (List.replicate n false) sp)) (room : Room k X.A) (hN : X.N[i]? = some x) (hv : Vis X.env.scope x)
    (pass : ∀ σ, PassesAt CX X σ (E σ)) (eK : X.K = K) (ha : PA X (e :: es) t) (d1 : (x == ("__debug__" : Str)) = false := by decide) (d2 : (x == ("__classdict__" : Str)) = false := by decide)
    (s1 : starEach (e :: es) X.env = (false, eval e X.env) :: starEach es X.env := by rfl) (s2 : (backTo pos (starEach es X.env)).any (·.1) = false := by rfl) :
    PE X (.Call (.Name x p) (e :: es) [] pos) (tCallF K i n opts E t) := by
  subst eK
  constructor
  rintro pins s σ H Q I ⟨v, sp, hs, hm, ht⟩
  obtain ⟨f, fd, ps, rfl, kp, bi, F⟩ := A v sp hm
  refine wpAny_Call_Name_kw (thn ((pe_var (pos := p) hN hv d1 d2).run pins s σ H (fun v H1 => v = .ref f ∧ H1 = H) I ⟨.ref f, hs, rfl, rfl⟩) ?_)
  rintro u sh ⟨v, H1, I1, r1, rfl, rfl⟩
  cases r1
  refine PySem.W.callWith_K (h₀ := X.base) I.ok.mod.kin kp (thn (ha.run pos pins sh σ _ _ I1 ht) ?_) s1 s2
  rintro us sh2 ⟨vs, H2, I2, r, q⟩
  exact ⟨I2.kIn, run_fnS F room bi (pass σ) I2 r q⟩
theorem fnOk_mono {P : Program} {w : World} {K : Frg} {mg : Str → Option Value} {base : Heap} {CX : CXT} {j k : Nat} {f : Addr} {fd : FuncData} {ps : List Str} {sp : Sp} (F : FnOk P w K mg base CX j f fd ps sp) (h : j ≤ k) : FnOk P w K mg base CX k f fd ps sp :=
  ⟨F.len, fun A st s H ar us vs Q E r e b v q => F.run A st s H ar us vs Q E (r.mono h) e b v q⟩
end Mi
end

-- text ND
section
set_option Elab.async false
set_option linter.all false
set_option maxRecDepth 100000
set_option maxHeartbeats 4000000
/-! ND: a, b = xs, xs an own list. -/
namespace Mi
open PySem PySem.Spec PyProof.Rows L2
section
variable {K : Frg} {np : Nat → Bool} {W : WX}
def mUnpL (i : Nat) (is : List Nat) : MSTy := fun E ρ => match ρ[i]? with
  | some (some (.mls ds)) => (match fzs ds && ds.length.beq is.length && is.all fun j => Nat.blt j ρ.length with
    | true => E.nx (sets is ds ρ)
    | false => False)
  | _ => False
theorem ss_unpL {i : Nat} (is : List Nat) {n : Nat} (hi : (is.all fun j => !np j) = true := by rfl) (hn : is.length = n := by rfl) :
    SimS K np W (tAsg (tVar i) (gLst K n (gNames is))) (mUnpL i is) := by
  intro B F σ ρ H D E hp s h k
  unfold mUnpL at h
  split at h
  · rename_i ds e
    split at h
    · rename_i hb
      rw [Bool.and_eq_true, Bool.and_eq_true] at hb
      obtain ⟨⟨hf, hl⟩, hs⟩ := hb
      obtain ⟨v, S1, h1, h2, _⟩ := s.env.get e
      obtain ⟨a, ws, S2, rfl, hh, rr⟩ := h2.mlsE
      have := rr.fzs0 hf; subst this
      have e1 := Nat.eq_of_beq_eq_true hl
      refine ⟨.ref a, h1, a, ws, rfl, .inl (.inl hh), by rw [rr.length, e1, hn], ?_⟩
      exact g_names is hi B F σ ρ H ws ds _ _ hp s rr e1 hs h fun σ' ρ' F' s' st _ q => k.nx σ' ρ' F' H s' st q
    · exact h.elim
  · exact h.elim
end
section
variable {K : Frg} {W : WX} {b1 b2 : Bool} {ta tb : TE}
/-- a list times a number, new -/
def mRepN (ma mb : METy) : MATy := fun ρ q x => ma ρ (fun d1 ρ1 => mb ρ1 (fun d2 ρ2 => match d1, d2 with
  | .lst a, .int j => (j < 2 ^ 31 ∧ -(2 ^ 31) < j ∧ a.length * j.toNat ≤ 16777216) ∧ q (List.replicate j.toNat a).flatten ρ2
  | _, _ => False) x) x
theorem simn_rep {ma mb : METy} (ha : Sim K W false b1 ta ma) (hb : Sim K W false b2 tb mb) : SimN K W (b1 && b2) (tOp rMulA ta tb) (mRepN ma mb) := by
  intro B F σ ρ H Q q x s h k e
  refine ha B F σ ρ H _ _ x s h (fun v1 d1 ρ1 F1 H1 S1 s1 r1 m1 z1 a1 h1 => ?_) e
  refine hb B F1 σ ρ1 H1 _ _ x s1 h1 (fun v2 d2 ρ2 F2 H2 S2 s2 r2 m2 z2 a2 h2 => ?_) (e.aft a1.stp)
  have := z1 rfl; subst this
  have := z2 rfl; subst this
  have r1' := r1.aftσ s1 a2.stp
  split at h2
  · rename_i a j
    obtain ⟨⟨h1, h3, h4⟩, hq⟩ := h2
    obtain ⟨x, ws, rfl, hx, rx⟩ := r1'.lstE
    have := r2.int; subst this
    refine .inr (.inr (.inr ⟨x, j, ws, rfl, rfl, hx, by omega, by omega, by rw [rx.length, line_eq]; exact h4, fun p hp => ?_⟩))
    refine k p _ _ ρ2 F2 _ (s2.lay hp trivial) upd_same (fun z => s2.dom.new hp (.inr z)) ((rx.rep _).lay hp) ((a1.trans a2).ext (same_upd hp)) ?_ hq
    cases e0 : H p with
    | none => rfl
    | some o =>
      obtain ⟨o', e1⟩ := (a1.trans a2).stp.dom p o e0
      rw [hp] at e1; cases e1
  · exact h2.elim
end
end Mi
end

-- text NE
section
set_option Elab.async false
set_option linter.all false
set_option maxRecDepth 100000
set_option maxHeartbeats 4000000
/-! NE: D.get(x, y), D a dict of texts of the module; tuple(reversed(xs)). -/
namespace Mi
open PySem PySem.Spec PyProof.Rows L2
def EntOk : List DictEntry → List (List Nat × D) → Prop
  | [], [] => True
  | e :: es, (k, d) :: kvs => (∃ t, e.key = .str ⟨k.toArray⟩ t) ∧ (∃ v, RelV v e.val ∧ Atom v d) ∧ EntOk es kvs
  | _, _ => False
def getC : List (List Nat × D) → List Nat → Option D
  | [], _ => none
  | (k, d) :: kvs, x => match decide (k = x) with
    | true => some d
    | false => getC kvs x
def KDic (K : Frg) (w : World) (a : Addr) (kvs : List (List Nat × D)) : Prop :=
  ∃ es n, K.lookup a = some ⟨.type "dict", none, .dict es n, #[]⟩ ∧ PySem.W.KeysLit w.params es.toList ∧ (a == sysModules) = false ∧ EntOk es.toList kvs
theorem ent_find {x : List Nat} : ∀ {es : List DictEntry} {kvs : List (List Nat × D)}, EntOk es kvs → match getC kvs x with
    | some d => ∃ v u, (es.find? fun e => Value.isStrOf ⟨x.toArray⟩ e.key).map (·.val) = some u ∧ RelV v u ∧ Atom v d
    | none => (es.find? fun e => Value.isStrOf ⟨x.toArray⟩ e.key).map (·.val) = none
  | [], [], _ => rfl
  | [], _ :: _, h => h.elim
  | _ :: _, [], h => h.elim
  | e :: es, (k, d) :: kvs, h => by
    obtain ⟨⟨t, h1⟩, ⟨v, h2, h3⟩, h4⟩ := h
    have ih := ent_find (x := x) h4
    unfold getC
    rw [List.find?_cons, h1]
    by_cases z : k = x
    · subst z
      have e2 : Value.isStrOf ⟨k.toArray⟩ (.str ⟨k.toArray⟩ t) = true := by simp [Value.isStrOf]
      rw [decide_eq_true rfl, e2]
      exact ⟨v, e.val, rfl, h2, h3⟩
    · have e2 : Value.isStrOf ⟨x.toArray⟩ (.str ⟨k.toArray⟩ t) = false := by
        simp [Value.isStrOf]
        exact z
      rw [decide_eq_false z, e2]
      exact ih
def tGetC (kvs : List (List Nat × D)) (te tf : TE) : TE := fun σ H Q => te σ H fun y H1 => tf σ H1 fun z H2 => ∃ x : List Nat, y = .str ⟨x.toArray⟩ ∧ match getC kvs x with
  | some d => ∀ v, Atom v d → Q v H2
  | none => Q z H2
section
variable {X : Cx} {o e f : Expr} {apos cpos : Pos} {te tf : TE}
theorem pe_getC {a : Addr} {kvs : List (List Nat × D)} (kd : KDic X.K X.w a kvs) (ho : PE X o (tC (.ref a))) (he : PE X e te) (hf : PE X f tf) (m : M2 X o "get" apos e f cpos) : PE X (.Call (.Attribute o "get" apos) [e, f] [] cpos) (tGetC kvs te tf) := by
  refine ⟨fun pins s σ H Q I h => ?_⟩
  obtain ⟨es, n, hl, hk, low, en⟩ := kd
  refine wpAny_Call_method m.base m.few m.line PySem.F.plainAttrs_dict PySem.F.slot_dict_get PySem.F.type_dict_get (thn (ho.run pins s σ H (fun v H1 => v = .ref a ∧ H1 = H) I ⟨rfl, rfl⟩) fun u s1 ⟨x, H1, I1, rx, e1, e2⟩ => ?_)
  subst e1 e2
  obtain rfl : u = Value.ref a := rx
  have hm := PySem.W.mapOf_K (prog := X.prog) (w := X.w) I1.kIn hl hk
  refine ⟨hm.typeIs, fun b eb => ?_, ?_⟩
  · cases eb
    exact ⟨_, I1.kIn _ _ hl, rfl⟩
  rw [m.trees]
  refine Calls.callWith_builtin rfl (Calls.evalArgs_plain (Calls.spliced_cons (thn (he.run pins s1 σ H1 _ I1 h) fun iv s2 ⟨y, H2, I2, ry, q2⟩ =>
    Calls.spliced_cons (thn (hf.run pins s2 σ H2 _ I2 q2) fun fv s3 ⟨z, H3, I3, rz, q3⟩ => Calls.spliced_nil ?_))))
  obtain ⟨xs, rfl, q⟩ := q3
  obtain ⟨t, rfl⟩ := (show ∃ t, iv = Value.str ⟨xs.toArray⟩ t from ry)
  have hm3 := PySem.W.mapOf_K (prog := X.prog) (w := X.w) I3.kIn hl hk
  have fd := ent_find (x := xs) en
  have ef : findBy Value.isStrOf es ⟨xs.toArray⟩ = (es.toList.find? fun e => Value.isStrOf ⟨xs.toArray⟩ e.key).map (·.val) := by
    obtain ⟨l⟩ := es
    simp only [findBy, List.find?_toArray]
  refine call_meetsIn PySem.F.slot_dict_get hm3.typeIs PySem.F.entry_dict_get (PySem.F.args_dict_get_3 _ _ _) (meets_dict_get_default (strKind X.prog X.w) a (strKind_is X.prog X.w ⟨xs.toArray⟩ t) low fv) ⟨_, hm3, ?_⟩
  rw [ef]
  cases g : getC kvs xs with
  | some d =>
    rw [g] at q fd
    obtain ⟨v, u, e3, r3, a3⟩ := fd
    rw [e3]
    exact ⟨v, H3, I3.tok _, r3, q v a3⟩
  | none =>
    rw [g] at q fd
    rw [fd]
    exact ⟨z, H3, I3.tok _, rz, q⟩
end
section
variable {K : Frg} {W : WX} {b1 b2 : Bool} {te tf : TE}
def mGetC (kvs : List (List Nat × D)) (ma mb : METy) : METy := fun ρ q x => ma ρ (fun d1 ρ1 => mb ρ1 (fun d2 ρ2 => match d1 with
  | .str t => (match getC kvs t with
    | some d => q d ρ2
    | none => q d2 ρ2)
  | _ => False) x) x
theorem sim_getC {kvs : List (List Nat × D)} {ma mb : METy} (ha : Sim K W false b1 te ma) (hb : Sim K W false b2 tf mb) : Sim K W false (b1 && b2) (tGetC kvs te tf) (mGetC kvs ma mb) := by
  intro B F σ ρ H Q q x s h k e
  refine ha B F σ ρ H _ _ x s h (fun v1 d1 ρ1 F1 H1 S1 s1 r1 m1 z1 a1 h1 => ?_) e
  refine hb B F1 σ ρ1 H1 _ _ x s1 h1 (fun v2 d2 ρ2 F2 H2 S2 s2 r2 m2 z2 a2 h2 => ?_) (e.aft a1.stp)
  have := z1 rfl; subst this
  have := z2 rfl; subst this
  split at h2
  · rename_i t
    obtain ⟨rfl, _⟩ := r1.str
    refine ⟨t, rfl, ?_⟩
    cases g : getC kvs t with
    | some d =>
      rw [g] at h2
      exact fun v at3 => k v d ρ2 F2 H2 [] s2 (.at at3 .nil) (by simp) (fun _ => rfl) (a1.trans a2) h2
    | none =>
      rw [g] at h2
      exact k v2 d2 ρ2 F2 H2 [] s2 r2 (by simp) (fun _ => rfl) (a1.trans a2) h2
  · exact h2.elim
end
section
variable {K : Frg} {W : WX} {b1 vw : Bool} {te : TE}
def mTupRev (ma : METy) : METy := fun ρ q x => ma ρ (fun d ρ1 => match d with
  | .mls es => fzs es = true ∧ q (.tup es.reverse) ρ1
  | .lst es => q (.tup es.reverse) ρ1
  | _ => False) x
theorem sim_tupRev {ma : METy} (ha : Sim K W vw b1 te ma) : Sim K W false b1 (RT.tTupRev K te) (mTupRev ma) := by
  intro B F σ ρ H Q q x s h k e
  refine ha B F σ ρ H _ _ x s h (fun v1 d1 ρ1 F1 H1 S1 s1 r1 m1 z1 a1 h1 => ?_) e
  split at h1
  · obtain ⟨a, ws, S2, rfl, hs, rr⟩ := r1.mlsE
    have := rr.fzs0 h1.1; subst this
    refine ⟨a, ws, rfl, .inl (.inl hs), fun p hp => ?_⟩
    exact k _ _ ρ1 F1 _ [] (s1.ext (same_upd hp)) (.newT hp rr.rev) (by simp) (fun _ => rfl) (a1.ext (same_upd hp)) h1.2
  · obtain ⟨a, ws, rfl, hs, rr⟩ := r1.lstE
    refine ⟨a, ws, rfl, .inl (.inl hs), fun p hp => ?_⟩
    exact k _ _ ρ1 F1 _ [] (s1.ext (same_upd hp)) (.newT hp rr.rev) (by simp) (fun _ => rfl) (a1.ext (same_upd hp)) h1
  · exact h1.elim
end
end Mi
end

-- text NF
section
set_option Elab.async false
set_option linter.all false
set_option maxRecDepth 100000
set_option maxHeartbeats 4000000
/-! NF: a slice of a list of one's own whose bounds change something else. -/
namespace Mi
open PySem PySem.Spec PyProof.Rows L2
variable {K : Frg} {W : WX}
def mSlL (i : Nat) (ml mh : MOTy) : METy := fun ρ q x => match ρ[i]? with
  | some (some _) => ml ρ (fun lo ρ2 => mh ρ2 (fun hi ρ3 => match ρ3[i]? with
    | some (some d) => fSl d lo hi (fun r => q r ρ3)
    | _ => False) x) x
  | _ => False
theorem sim_slL {i : Nat} {tl th : TO} {ml mh : MOTy} {b2 b3 : Bool} (hl : SimO K W b2 tl ml) (hh : SimO K W b3 th mh) : Sim K W false (b2 && b3) (tSl (rSlAny K) (tVar i) tl th) (mSlL i ml mh) := by
  intro B F σ ρ H Q q x s h k e
  unfold mSlL at h
  split at h
  · rename_i d0 e0
    obtain ⟨v, S0, h1, _, _⟩ := s.env.get e0
    refine ⟨v, h1, ?_⟩
    refine hl B F σ ρ H _ _ x s h (fun lo ρ2 F2 H2 s2 a2 h2 => ?_) e
    refine hh B F2 σ ρ2 H2 _ _ x s2 h2 (fun hi ρ3 F3 H3 s3 a3 h3 => ?_) (e.aft a2.stp)
    split at h3
    · rename_i d1 e1
      obtain ⟨v', S1, g2, r1, _⟩ := s3.env.get e1
      rw [h1] at g2
      cases g2
      refine rs_sl s3.dom r1 h3 fun v d H' sm r p => ?_
      exact k v d ρ3 F3 H' [] (s3.ext sm) r (by simp) (fun _ => rfl) ((a2.trans a3).ext sm) p
    · exact h3.elim
  · exact h.elim
end Mi
end

-- text SC
section
set_option Elab.async false
set_option linter.all false
set_option maxRecDepth 100000
set_option maxHeartbeats 4000000
/-! SC: what the laws' helpers share: the well, plain data, _law_same. -/
namespace Lw
open PySem PySem.Spec PyProof.Rows L2 Mi
abbrev Tx := List Nat
theorem ab_tf {P : Prop} (h : true = false) : P := nomatch h
theorem ab_ft {P : Prop} (h : false = true) : P := nomatch h
def nats (l : List Nat) : List D := l.map fun (n : Nat) => D.int (n : Int)
def wellD (a c : Int) : D := .mls [.int a, .int c]
/-- plain data of at most n levels -/
def Cn : Nat → D → Prop
  | 0, _ => False
  | n + 1, d => match d with
    | .non => True
    | .bl _ => True
    | .int _ => True
    | .str _ => True
    | .tup ds => ds.length ≤ 100000 ∧ ∀ x ∈ ds, Cn n x
    | .lst ds => ds.length ≤ 100000 ∧ ∀ x ∈ ds, Cn n x
    | _ => False
/-- alike, types too -/
def sameD : D → D → Bool
  | .non, e => (match e with
    | .non => true
    | _ => false)
  | .bl a, e => (match e with
    | .bl b => decide (a = b)
    | _ => false)
  | .int a, e => (match e with
    | .int b => decide (a = b)
    | _ => false)
  | .str a, e => (match e with
    | .str b => decide (a = b)
    | _ => false)
  | .tup ds, e => (match e with
    | .tup es => sames ds es
    | _ => false)
  | .lst ds, e => (match e with
    | .lst es => sames ds es
    | _ => false)
  | _, _ => false
where sames : List D → List D → Bool
  | [], [] => true
  | d :: ds, e :: es => (match sameD d e with
    | true => sames ds es
    | false => false)
  | _, _ => false
theorem sames_len : ∀ {ds es : List D}, sameD.sames ds es = true → ds.length = es.length
  | [], [], _ => rfl
  | [], _ :: _, h => by simp [sameD.sames] at h
  | _ :: _, [], h => by simp [sameD.sames] at h
  | d :: ds, e :: es, h => by
    simp only [sameD.sames] at h
    split at h
    · rw [List.length_cons, List.length_cons, sames_len h]
    · cases h
theorem same_self : ∀ n, ∀ {d : D}, Cn n d → sameD d d = true := by
  intro n
  induction n with
  | zero => intro d h; exact h.elim
  | succ n ih =>
    have all : ∀ {ds : List D}, (∀ x ∈ ds, Cn n x) → sameD.sames ds ds = true := by
      intro ds
      induction ds with
      | nil => intro _; rfl
      | cons d ds ih2 =>
        intro h
        simp only [sameD.sames, ih (h d List.mem_cons_self)]
        exact ih2 fun x hx => h x (List.mem_cons_of_mem _ hx)
    intro d h
    cases d <;> first | exact h.elim | rfl | (simp [sameD]; done) | exact all h.2
/-- the told ones are the due ones -/
theorem same_eq : ∀ n, ∀ {d e : D}, Cn n e → sameD d e = true → d = e := by
  intro n
  induction n with
  | zero => intro d e h; exact h.elim
  | succ n ih =>
    have all : ∀ {ds es : List D}, (∀ x ∈ es, Cn n x) → sameD.sames ds es = true → ds = es := by
      intro ds
      induction ds with
      | nil => intro es _ h; cases es <;> simp [sameD.sames] at h ⊢
      | cons d ds ih2 =>
        intro es hc h
        cases es with
        | nil => simp [sameD.sames] at h
        | cons e es =>
          simp only [sameD.sames] at h
          split at h
          · rename_i hd
            rw [ih (hc e List.mem_cons_self) hd, ih2 (fun x hx => hc x (List.mem_cons_of_mem _ hx)) h]
          · cases h
    intro d e hc h
    cases d <;> cases e <;> first
      | exact hc.elim
      | rfl
      | (simp [sameD] at h; done)
      | (simp only [sameD, decide_eq_true_eq] at h; rw [h]; done)
      | (simp only [sameD] at h; rw [all hc.2 h])
def spSame (n : Nat) : FS := fun ds q _ => ∃ d e, ds = [d, e] ∧ (∃ m, Cn m d) ∧ Cn n e ∧ q (.bl (sameD d e)) ds
theorem spSame_zero {K : Frg} {ms : List Bool} {vs : List V} {H : Hp} {Q : VK} {E : XK} (h : spOf K ms (spSame 0) vs H Q E) : False := by
  obtain ⟨_, _, _, _, _, _, ⟨_, _, _, _, h, _⟩, _⟩ := h
  exact h
def sp__law_same : FS := spSame 6
theorem cn_up {n : Nat} : ∀ {d : D}, Cn n d → Cn (n + 1) d := by
  induction n with
  | zero => intro d h; exact h.elim
  | succ n ih =>
    intro d h
    cases d <;> first | trivial | exact h.elim | exact ⟨h.1, fun x hx => ih (h.2 x hx)⟩
theorem cn_le {n m : Nat} (h : n ≤ m) {d : D} (hd : Cn n d) : Cn m d := by
  induction h with
  | refl => exact hd
  | step _ ih => exact cn_up ih
theorem cn_fz {d : D} (h : ∃ n, Cn n d) : d.fz = true := by
  obtain ⟨n, h⟩ := h
  cases n with
  | zero => exact h.elim
  | succ n => cases d <;> first | rfl | exact h.elim
end Lw
end

-- text P07
section
set_option Elab.async false
set_option linter.all false
set_option maxRecDepth 100000
set_option maxHeartbeats 1000000
/-! P07: heard stretches in plain Lean. -/
namespace Lw
inductive Rule where
  | elder (e : Nat) (t : Bool) (m : Int)
  | back (w : Int) (a t : Bool) (m : Int)
def mostR : Rule → Int
  | .elder _ _ m => m
  | .back _ _ _ m => m
def turnR : Rule → Bool
  | .elder _ t _ => t
  | .back _ _ t _ => t
def srcR (es : List Tx) (new : Tx) : Rule → Tx
  | .elder e _ _ => es.getD e []
  | .back _ _ _ _ => new
/-- the place that step s of a stretch of m signs is taken from -/
def plc (t : Bool) (at_ m s : Nat) : Nat := match t with
  | true => at_ + (m - 1 - s)
  | false => at_ + s
def near (i s p : Nat) : Rule → Prop
  | .elder _ _ _ => True
  | .back w a _ _ => p < i + s ∧ ((i + s : Nat) : Int) ≤ p + w ∧ (a = true → p < i)
instance (i s p : Nat) (r : Rule) : Decidable (near i s p r) := by
  cases r <;> (unfold near; infer_instance)
def giv (es : List Tx) (new : Tx) (r : Rule) (i m at_ s : Nat) : Prop :=
  plc (turnR r) at_ m s < (srcR es new r).length ∧ (srcR es new r)[plc (turnR r) at_ m s]? = new[i + s]? ∧ near i s (plc (turnR r) at_ m s) r
instance (es : List Tx) (new : Tx) (r : Rule) (i m at_ s : Nat) : Decidable (giv es new r i m at_ s) := by unfold giv; infer_instance
def givAll (es : List Tx) (new : Tx) (r : Rule) (i m at_ : Nat) : Prop := (m : Int) ≤ mostR r ∧ ∀ s, s < m → giv es new r i m at_ s
instance (es : List Tx) (new : Tx) (r : Rule) (i m at_ : Nat) : Decidable (givAll es new r i m at_) := by unfold givAll; infer_instance
def gives (es : List Tx) (new : Tx) (r : Rule) (i m at_ : Nat) : Bool := decide (givAll es new r i m at_)
def hb (es : List Tx) (new : Tx) (r : Rule) (i m : Nat) : Bool := (List.range (srcR es new r).length).any fun a => gives es new r i m a
def heard (es : List Tx) (rs : List Rule) (new : Tx) (i j : Nat) : Bool := decide (j = i + 1) || rs.any fun r => hb es new r i (j - i)
theorem hb_iff {es : List Tx} {new : Tx} {r : Rule} {i m : Nat} (hm : 0 < m) : hb es new r i m = true ↔ ∃ a, givAll es new r i m a := by
  unfold hb gives
  simp only [List.any_eq_true, List.mem_range, decide_eq_true_eq]
  constructor
  · rintro ⟨a, _, h⟩; exact ⟨a, h⟩
  · rintro ⟨a, h⟩
    refine ⟨a, ?_, h⟩
    have := (h.2 0 hm).1
    have := (h.2 (m - 1) (by omega)).1
    unfold plc at *
    split at * <;> omega
theorem giv_sub {es : List Tx} {new : Tx} {r : Rule} {i m a i' m' : Nat} (h : givAll es new r i m a) (h1 : i ≤ i') (h2 : i' + m' ≤ i + m) (hm : 0 < m') : ∃ a', givAll es new r i' m' a' := by
  cases ht : turnR r with
  | false =>
    refine ⟨a + (i' - i), by have := h.1; omega, fun s hs => ?_⟩
    have g := h.2 (i' - i + s) (by omega)
    unfold giv at g ⊢
    rw [ht] at g ⊢
    unfold plc at g ⊢
    simp only at g ⊢
    have e1 : a + (i' - i) + s = a + (i' - i + s) := by omega
    have e2 : i' + s = i + (i' - i + s) := by omega
    rw [e1, e2]
    refine ⟨g.1, g.2.1, ?_⟩
    have g3 := g.2.2
    cases r with
    | elder e t w => trivial
    | back w b t k =>
      unfold near at g3 ⊢
      rw [e2]
      exact ⟨g3.1, g3.2.1, fun hb => by have := g3.2.2 hb; omega⟩
  | true =>
    refine ⟨a + (m - m' - (i' - i)), by have := h.1; omega, fun s hs => ?_⟩
    have g := h.2 (i' - i + s) (by omega)
    unfold giv at g ⊢
    rw [ht] at g ⊢
    unfold plc at g ⊢
    simp only at g ⊢
    have e1 : a + (m - m' - (i' - i)) + (m' - 1 - s) = a + (m - 1 - (i' - i + s)) := by omega
    have e2 : i' + s = i + (i' - i + s) := by omega
    rw [e1, e2]
    refine ⟨g.1, g.2.1, ?_⟩
    have g3 := g.2.2
    cases r with
    | elder e t w => trivial
    | back w b t k =>
      unfold near at g3 ⊢
      rw [e2]
      exact ⟨g3.1, g3.2.1, fun hb => by have := g3.2.2 hb; omega⟩
theorem heard_sub {es : List Tx} {rs : List Rule} {new : Tx} {i j i' j' : Nat} (h : heard es rs new i j = true) (h1 : i ≤ i') (h2 : i' < j') (h3 : j' ≤ j) : heard es rs new i' j' = true := by
  unfold heard at h ⊢
  simp only [Bool.or_eq_true, decide_eq_true_eq, List.any_eq_true] at h ⊢
  rcases h with h | ⟨r, hr, h⟩
  · left; omega
  · right
    obtain ⟨a, ha⟩ := (hb_iff (by omega)).mp h
    obtain ⟨a', ha'⟩ := giv_sub (i' := i') (m' := j' - i') ha h1 (by omega) (by omega)
    exact ⟨r, hr, (hb_iff (by omega)).mpr ⟨a', ha'⟩⟩
/-! ### how far -/
section
variable (h : Nat → Nat → Bool) (n : Nat)
def IsR (i e : Nat) : Prop := i < e ∧ e ≤ n ∧ h i e = true ∧ (e = n ∨ h i (e + 1) = false)
def rchF (i : Nat) : Nat → Nat
  | 0 => i + 1
  | k + 1 => if rchF i k < n ∧ h i (rchF i k + 1) = true then rchF i k + 1 else rchF i k
def rch (i : Nat) : Nat := rchF h n i n
end
/-- what the law of heard stretches needs of h -/
structure Clo (h : Nat → Nat → Bool) : Prop where
  one : ∀ i, h i (i + 1) = true
  sub : ∀ {i j i' j'}, h i j = true → i ≤ i' → i' < j' → j' ≤ j → h i' j' = true
theorem clo_heard (es : List Tx) (rs : List Rule) (new : Tx) : Clo (heard es rs new) := ⟨fun i => by simp [heard], fun a b c d => heard_sub a b c d⟩
theorem isR_uniq {h : Nat → Nat → Bool} {n i e e' : Nat} (c : Clo h) (x : IsR h n i e) (y : IsR h n i e') : e = e' := by
  have key : ∀ {e e'}, IsR h n i e → IsR h n i e' → e ≤ e' := by
    intro e e' x y
    obtain ⟨x1, x2, x3, x4⟩ := x
    obtain ⟨y1, y2, y3, y4⟩ := y
    by_cases z : e ≤ e'
    · exact z
    · rcases y4 with y4 | y4
      · omega
      · have := c.sub (i' := i) (j' := e' + 1) x3 (Nat.le_refl _) (by omega) (by omega)
        rw [this] at y4
        cases y4
  exact Nat.le_antisymm (key x y) (key y x)
theorem rchF_ok {h : Nat → Nat → Bool} {n i : Nat} (c : Clo h) (hi : i < n) : ∀ k, i < rchF h n i k ∧ rchF h n i k ≤ n ∧ h i (rchF h n i k) = true ∧ ((rchF h n i k = n ∨ h i (rchF h n i k + 1) = false) ∨ i + 1 + k ≤ rchF h n i k)
  | 0 => ⟨by simp [rchF], by simp only [rchF]; omega, by simp only [rchF]; exact c.one i, .inr (by simp [rchF])⟩
  | k + 1 => by
    obtain ⟨h1, h2, h3, h4⟩ := rchF_ok c hi k
    unfold rchF
    split
    · rename_i z
      refine ⟨by omega, by omega, z.2, ?_⟩
      rcases h4 with h4 | h4
      · rcases h4 with h4 | h4
        · omega
        · rw [z.2] at h4; cases h4
      · right; omega
    · rename_i z
      refine ⟨h1, h2, h3, .inl ?_⟩
      rcases h4 with h4 | h4
      · exact h4
      · by_cases y : rchF h n i k < n
        · right
          cases q : h i (rchF h n i k + 1) with
          | false => rfl
          | true => exact absurd ⟨y, q⟩ z
        · left; omega
theorem rch_ok {h : Nat → Nat → Bool} {n i : Nat} (c : Clo h) (hi : i < n) : IsR h n i (rch h n i) := by
  obtain ⟨h1, h2, h3, h4⟩ := rchF_ok c hi n
  refine ⟨h1, h2, h3, ?_⟩
  rcases h4 with h4 | h4
  · exact h4
  · unfold rch at *
    omega
theorem rch_eq {h : Nat → Nat → Bool} {n i e : Nat} (c : Clo h) (x : IsR h n i e) : rch h n i = e := isR_uniq c (rch_ok c (by have := x.1; have := x.2.1; omega)) x
theorem heard_rch {h : Nat → Nat → Bool} {n i j : Nat} (c : Clo h) (hi : i < j) (hj : j ≤ n) : h i j = decide (j ≤ rch h n i) := by
  obtain ⟨h1, h2, h3, h4⟩ := rch_ok (n := n) c (i := i) (by omega)
  by_cases z : j ≤ rch h n i
  · rw [decide_eq_true z]
    exact c.sub h3 (Nat.le_refl _) hi z
  · rw [decide_eq_false z]
    cases q : h i j with
    | false => rfl
    | true =>
      rcases h4 with h4 | h4
      · omega
      · have := c.sub (i' := i) (j' := rch h n i + 1) q (Nat.le_refl _) (by omega) (by omega)
        rw [this] at h4
        cases h4
/-- the least unheard stretches -/
def isRow (h : Nat → Nat → Bool) (n i : Nat) : Bool := decide (rch h n i < n) && decide (rch h n i < rch h n (i + 1))
def rows (h : Nat → Nat → Bool) (n : Nat) : List (Nat × Nat) := ((List.range n).filter (isRow h n)).map fun i => (i, rch h n i + 1)
theorem row_iff {h : Nat → Nat → Bool} {n i j : Nat} (c : Clo h) (hi : i < j) (hj : j ≤ n) : (i, j) ∈ rows h n ↔ (j ≠ i + 1 ∧ h i j = false ∧ h (i + 1) j = true ∧ h i (j - 1) = true) := by
  unfold rows
  simp only [List.mem_map, List.mem_filter, List.mem_range, Prod.mk.injEq]
  constructor
  · rintro ⟨k, ⟨hk, hr⟩, rfl, rfl⟩
    unfold isRow at hr
    simp only [Bool.and_eq_true, decide_eq_true_eq] at hr
    obtain ⟨r1, r2, r3, r4⟩ := rch_ok (n := n) c hk
    refine ⟨by omega, ?_, ?_, ?_⟩
    · rcases r4 with r4 | r4
      · omega
      · exact r4
    · rw [heard_rch c (n := n) (by omega) (by omega)]
      exact decide_eq_true (by omega)
    · simpa using r3
  · rintro ⟨h0, h1, h2, h3⟩
    rw [heard_rch c (n := n) hi hj, decide_eq_false_iff_not] at h1
    rw [heard_rch c (n := n) (by omega) hj, decide_eq_true_eq] at h2
    rw [heard_rch c (n := n) (by omega) (by omega), decide_eq_true_eq] at h3
    refine ⟨i, ⟨by omega, ?_⟩, rfl, by omega⟩
    unfold isRow
    simp only [Bool.and_eq_true, decide_eq_true_eq]
    omega
end Lw
end

-- text Sp_k39
section
set_option Elab.async false
set_option linter.all false
set_option maxRecDepth 100000
set_option maxHeartbeats 4000000
namespace Lw
open PySem PySem.Spec PyProof.Rows L2 Mi
abbrev BACK : Tx := [98, 97, 99, 107]
abbrev ELDER : Tx := [101, 108, 100, 101, 114]
abbrev PLACE : Tx := [112, 108, 97, 99, 101]
abbrev NUMBER : Tx := [110, 117, 109, 98, 101, 114]
abbrev STRETCH : Tx := [115, 116, 114, 101, 116, 99, 104]
abbrev TOLD : Tx := [116, 111, 108, 100]
abbrev CALL : Tx := [99, 97, 108, 108]
def rD : Rule → D
  | .elder e t m => .tup [.str ELDER, .int (e : Int), .bl t, .int m]
  | .back w a t m => .tup [.str BACK, .int w, .bl a, .bl t, .int m]
def caseD (es : List Tx) (rs : List Rule) (new : Tx) : D := .tup [.tup (es.map D.str), .tup (rs.map rD), .str new]
def RuleOk (n : Nat) : Rule → Prop
  | .elder e _ _ => e < n
  | .back w _ _ _ => 0 ≤ w ∧ w ≤ 1000
structure CaseOk (es : List Tx) (rs : List Rule) (new : Tx) : Prop where
  he : es.length ≤ 1000
  hr : rs.length ≤ 1000
  hn : new.length ≤ 1000
  hel : ∀ e ∈ es, e.length ≤ 1000
  hru : ∀ r ∈ rs, RuleOk es.length r
abbrev reach (es : List Tx) (rs : List Rule) (new : Tx) : Nat → Nat := rch (heard es rs new) new.length
def stD (p : Nat × Nat) : D := .tup [.int (p.1 : Int), .int (p.2 : Int)]
def strOf (n : Nat) (d : D) : Option (Nat × Nat) := match d with
  | .tup [.int a, .int b] => (match decide (0 ≤ a ∧ a < b ∧ b ≤ (n : Int)) with
    | true => some (a.toNat, b.toNat)
    | false => none)
  | _ => none
def isNum : D → Bool
  | .int _ => true
  | _ => false
def sp_is_number : FS := fun ds q _ => ∃ d, ds = [d] ∧ (∃ n, Cn n d) ∧ q (.bl (isNum d)) ds
def sp_check_stretch : FS := fun ds q x => ∃ (t : Tx) (d : D), ds = [.str t, d] ∧ (∃ n, Cn n d) ∧ match strOf t.length d with
  | some (i, j) => q (.int ((j : Int) - (i : Int))) ds
  | none => x ⟨12, [(2, d), (1, .str STRETCH)]⟩ ds
def sp_is_turning : FS := fun ds q _ => ∃ r, ds = [rD r] ∧ q (.bl (turnR r)) ds
def sp__heard_by : FS := fun ds q _ => ∃ es rs new, ∃ (k i m : Nat) (r : Rule), ds = [caseD es rs new, .int (k : Int), .int (i : Int), .int (m : Int)] ∧ CaseOk es rs new ∧ rs[k]? = some r ∧ 0 < m ∧ i + m ≤ new.length ∧ q (.bl (hb es new r i m)) ds
def sp_is_heard : FS := fun ds q x => ∃ es rs new d, ds = [caseD es rs new, d] ∧ CaseOk es rs new ∧ (∃ n, Cn n d) ∧ match strOf new.length d with
  | some (i, j) => q (.bl (heard es rs new i j)) ds
  | none => x ⟨12, [(2, d), (1, .str STRETCH)]⟩ ds
def sp_reach_table : FS := fun ds q _ => ∃ es rs new, ds = [caseD es rs new] ∧ CaseOk es rs new ∧ q (.tup (nats ((List.range new.length).map (reach es rs new)))) ds
abbrev WRULE : Tx := [114, 117, 108, 101]
abbrev WWIDE : Tx := [119, 105, 100, 101]
abbrev RAISED : Tx := [114, 97, 105, 115, 101, 100]
def gr (f : Nat → Nat) (n : Nat) : Nat → Nat → List Nat
  | 0, _ => []
  | k + 1, at_ => match decide (at_ < n) && decide (f at_ < n) with
    | true => f at_ :: gr f n k (f at_)
    | false => []
def st (f : Nat → Nat) (n : Nat) : Nat → Nat → Nat
  | 0, _ => 0
  | k + 1, at_ => match decide (at_ < n) with
    | true => st f n k (f at_) + 1
    | false => 0
def pcs (es : List Tx) (rs : List Rule) (new : Tx) : Nat := st (reach es rs new) new.length new.length 0
def sp_greedy_cuts : FS := fun ds q _ => ∃ es rs new, ds = [caseD es rs new] ∧ CaseOk es rs new ∧ q (.tup (nats (gr (reach es rs new) new.length new.length 0))) ds
def sp_fewest_count : FS := fun ds q _ => ∃ es rs new, ds = [caseD es rs new] ∧ CaseOk es rs new ∧ q (.int ((gr (reach es rs new) new.length new.length 0).length : Int)) ds
def sp_piece_count : FS := fun ds q _ => ∃ es rs new, ds = [caseD es rs new] ∧ CaseOk es rs new ∧ q (.int (pcs es rs new : Int)) ds
/-! ### bounds -/
def setM (m : Int) : Rule → Rule
  | .elder e t _ => .elder e t m
  | .back w a t _ => .back w a t m
def setW (w : Int) : Rule → Rule
  | .elder e t m => .elder e t m
  | .back _ a t m => .back w a t m
def wid : Rule → Rule
  | .elder e t _ => .elder e t 300
  | .back _ a t _ => .back 300 a t 300
def isB : Rule → Bool
  | .elder _ _ _ => false
  | .back _ _ _ _ => true
def widR : Rule → Int
  | .elder _ _ _ => 1
  | .back w _ _ _ => w
def RuOk (r : Rule) : Prop := 2 ≤ mostR r ∧ mostR r ≤ 1000 ∧ 1 ≤ widR r ∧ widR r ≤ 1000
def ruleAt (rs : List Rule) (i : Int) : Option Rule := match decide (0 ≤ i) with
  | true => rs[i.toNat]?
  | false => none
/-- the least one from lo on, f steps at most -/
def lb (P : Nat → Bool) : Nat → Nat → Nat
  | 0, lo => lo
  | f + 1, lo => match P lo with
    | true => lo
    | false => lb P f (lo + 1)
def pcM (es : List Tx) (rs : List Rule) (new : Tx) (k : Nat) (r : Rule) (m : Int) : Nat := pcs es (rs.set k (setM m r)) new
def pcW (es : List Tx) (rs : List Rule) (new : Tx) (k : Nat) (r : Rule) (w : Int) : Nat := pcs es (rs.set k (setW w r)) new
def leM (es : List Tx) (rs : List Rule) (new : Tx) (k : Nat) (r : Rule) : Nat := lb (fun b => decide (pcM es rs new k r (b : Int) ≤ pcs es rs new)) ((mostR r).toNat - 2) 2
def leW (es : List Tx) (rs : List Rule) (new : Tx) (k : Nat) (r : Rule) : Nat := lb (fun b => decide (pcW es rs new k r (b : Int) ≤ pcs es rs new)) ((widR r).toNat - 1) 1
def erN (w : Tx) (i : Int) : Er := ⟨12, [(2, .int i), (1, .str w)]⟩
def inz (l : List Int) : List D := l.map D.int
structure CsOk (es : List Tx) (rs : List Rule) (new : Tx) : Prop where
  C : CaseOk es rs new
  hn : new.length ≤ 100
  ru : ∀ r ∈ rs, RuOk r
def BdOk (ms : List Int) : Prop := ms.length ≤ 100 ∧ ∀ m ∈ ms, 1 ≤ m ∧ m ≤ 1000
def sp__with : FS := fun ds q _ => ∃ es rs new, ∃ (k : Nat) (r : Rule), ds = [caseD es rs new, .int (k : Int), rD r] ∧ rs.length ≤ 1000 ∧ k < rs.length ∧ q (caseD es (rs.set k r) new) ds
def sp__check_rule : FS := fun ds q x => ∃ es rs new, ∃ i : Int, ds = [caseD es rs new, .int i] ∧ match ruleAt rs i with
  | some _ => q .non ds
  | none => x (erN WRULE i) ds
def sp_pieces_by_most : FS := fun ds q x => ∃ es rs new, ∃ (i : Int) (ms : List Int), ds = [caseD es rs new, .int i, .tup (inz ms)] ∧ CsOk es rs new ∧ BdOk ms ∧ match ruleAt rs i with
  | some r => q (.tup (nats (ms.map (pcM es rs new i.toNat r)))) ds
  | none => x (erN WRULE i) ds
def sp_pieces_by_wide : FS := fun ds q x => ∃ es rs new, ∃ (i : Int) (ms : List Int), ds = [caseD es rs new, .int i, .tup (inz ms)] ∧ CsOk es rs new ∧ BdOk ms ∧ match ruleAt rs i with
  | some r => (match isB r with
    | true => q (.tup (nats (ms.map (pcW es rs new i.toNat r)))) ds
    | false => x (erN WWIDE i) ds)
  | none => x (erN WRULE i) ds
def sp_least_most : FS := fun ds q x => ∃ es rs new, ∃ i : Int, ds = [caseD es rs new, .int i] ∧ CsOk es rs new ∧ match ruleAt rs i with
  | some r => q (.int (leM es rs new i.toNat r : Int)) ds
  | none => x (erN WRULE i) ds
def sp_least_wide : FS := fun ds q x => ∃ es rs new, ∃ i : Int, ds = [caseD es rs new, .int i] ∧ CsOk es rs new ∧ match ruleAt rs i with
  | some r => (match isB r with
    | true => q (.int (leW es rs new i.toNat r : Int)) ds
    | false => x (erN WWIDE i) ds)
  | none => x (erN WRULE i) ds
def sp_widest_case : FS := fun ds q _ => ∃ es rs new, ds = [caseD es rs new] ∧ rs.length ≤ 1000 ∧ q (caseD es (rs.map wid) new) ds
def sp_lost_by_bounds : FS := fun ds q _ => ∃ es rs new, ds = [caseD es rs new] ∧ CaseOk es rs new ∧ q (.int ((pcs es rs new : Int) - (pcs es (rs.map wid) new : Int))) ds
/-! ### the law's own -/
def Al : Nat → D → Prop
  | 0, _ => False
  | n + 1, d => match d with
    | .non => True
    | .bl _ => True
    | .int _ => True
    | .str _ => True
    | .tup ds => ∀ x ∈ ds, Al n x
    | _ => False
def sz : D → Nat
  | .tup ds => szs ds + 1
  | _ => 1
where szs : List D → Nat
  | [] => 0
  | d :: ds => sz d + szs ds
/-- the reel: n more turns -/
def Reel (n : Nat) (d : D) : Prop := ∃ (cs : List Int) (p l s t : Int), d = .mls [.lst (inz cs), .int p, .int l, .int s, .int t] ∧ 0 ≤ p ∧ 0 ≤ l ∧ 0 ≤ s ∧ 0 ≤ t ∧ t + n ≤ 1000000 ∧ cs.length ≤ 63
def sp__law_reel : FS := fun ds q _ => ∃ ns : List Int, ds = [.rol (inz ns)] ∧ ∀ d, Reel 1000000 d → q d ds
def sp__law_roll : FS := fun ds q _ => ∃ (d : D) (n : Nat) (m : Int), ds = [d, .int m] ∧ Reel (n + 1) d ∧ 0 < m ∧ m < 2 ^ 62 ∧ ∀ v d', 0 ≤ v → v < m → Reel n d' → q (.int v) [d', .int m]
def Atom : D → Prop
  | .non => True
  | .bl _ => True
  | .int _ => True
  | _ => False
def sp__law_sm : FS := fun ds q _ => ∃ d, ds = [d, d] ∧ Atom d ∧ q (.bl true) ds
abbrev sgD (row : Tx) : List D := row.map fun c => D.str [c]
def sp__law_letters : FS := fun ds q _ => ∃ (d : D) (n : Nat), ds = [d] ∧ Reel (n + 10) d ∧ ∀ (ls : Tx) (d' : D), 0 < ls.length → ls.length ≤ 10 → Reel n d' → q (.lst (sgD ls)) [d']
def sp__law_word : FS := fun ds q _ => ∃ (d : D) (n k : Nat) (ls : Tx), ds = [d, .lst (sgD ls), .int (k : Int)] ∧ Reel (n + 20) d ∧ k ≤ 10 ∧ 0 < ls.length ∧ ls.length ≤ 10 ∧ ∀ (t : Tx) (d' : D), t.length ≤ 10 → Reel n d' → q (.str t) [d', .lst (sgD ls), .int (k : Int)]
def sp__law_new : FS := fun ds q _ => ∃ (d : D) (n k : Nat) (ls : Tx) (es : List Tx), ds = [d, .lst (sgD ls), .tup (es.map D.str), .int (k : Int)] ∧ Reel (n + 200) d ∧ k ≤ 12 ∧ 0 < ls.length ∧ ls.length ≤ 10 ∧ es.length ≤ 10 ∧ (∀ e ∈ es, e.length ≤ 10) ∧
  ∀ (t : Tx) (d' : D), t.length ≤ 12 → Reel n d' → q (.str t) [d', .lst (sgD ls), .tup (es.map D.str), .int (k : Int)]
def sp__law_rule : FS := fun ds q _ => ∃ (d : D) (n : Nat) (es : List Tx), ds = [d, .tup (es.map D.str)] ∧ Reel (n + 10) d ∧ es.length ≤ 10 ∧ ∀ (r : Rule) (d' : D), RuleOk es.length r → RuOk r → Reel n d' → q (rD r) [d', .tup (es.map D.str)]
def CaQ (es : List Tx) (rs : List Rule) (new : Tx) : Prop := CsOk es rs new ∧ rs.length ≤ 10 ∧ new.length ≤ 12
def sp__law_case : FS := fun ds q _ => ∃ (d : D) (n : Nat) (w : Bool), ds = [d, .bl w] ∧ Reel (n + 1000) d ∧ ∀ es rs new d', CaQ es rs new → Reel n d' → q (caseD es rs new) [d', .bl w]
def sp__law_sourced : FS := fun ds q _ => ∃ es rs new, ∃ (r : Rule) (i j a : Nat), ds = [caseD es rs new, rD r, .int (i : Int), .int (j : Int), .int (a : Int)] ∧ CaseOk es rs new ∧ RuleOk es.length r ∧ i < j ∧ j ≤ new.length ∧ a ≤ 1000 ∧ ((j - i : Nat) : Int) ≤ mostR r ∧ q (.bl (gives es new r i (j - i) a)) ds
def sp__law_heard : FS := fun ds q _ => ∃ es rs new, ∃ (i j : Nat), ds = [caseD es rs new, .int (i : Int), .int (j : Int)] ∧ CaseOk es rs new ∧ i < j ∧ j ≤ new.length ∧ q (.bl (heard es rs new i j)) ds
def sp__law_reach : FS := fun ds q _ => ∃ es rs new, ds = [caseD es rs new] ∧ CaseOk es rs new ∧ q (.lst (nats ((List.range new.length).map (reach es rs new)))) ds
def sp__law_pieces : FS := sp_piece_count
def Chg (r : Rule) (m w : Int) (r' : Rule) : Prop := (0 < m ∧ w = 0 ∧ r' = setM m r) ∨ (m = 0 ∧ 0 < w ∧ isB r = true ∧ r' = setW w r)
def sp__law_with : FS := fun ds q _ => ∃ es rs new, ∃ (k : Nat) (r r' : Rule) (m w : Int), ds = [caseD es rs new, .int (k : Int), .int m, .int w] ∧ rs.length ≤ 1000 ∧ rs[k]? = some r ∧ Chg r m w r' ∧ q (caseD es (rs.set k r') new) ds
def sp__law_all_same : FS := fun ds q _ => ∃ d, ds = [d, d] ∧ (∃ n, Al n d) ∧ sz d ≤ 1000000 ∧ q (.bl true) ds
def tellD (d : D) : D := .tup [.str TOLD, d]
def raisD (w : Tx) (i : Int) : D := .tup [.str RAISED, .str w, .int i]
def hearD (es : List Tx) (rs : List Rule) (new : Tx) (i : Int) (ms : List Int) (which : Nat) : D := match ruleAt rs i with
  | none => raisD WRULE i
  | some r => (match which with
    | 0 => tellD (.tup (nats (ms.map (pcM es rs new i.toNat r))))
    | 1 => (match isB r with
      | true => tellD (.tup (nats (ms.map (pcW es rs new i.toNat r))))
      | false => raisD WWIDE i)
    | 2 => tellD (.int (leM es rs new i.toNat r : Int))
    | _ => (match isB r with
      | true => tellD (.int (leW es rs new i.toNat r : Int))
      | false => raisD WWIDE i))
def sp__law_told : FS := fun ds q _ => ∃ (wh : Nat) (es : List Tx) (rs : List Rule) (new : Tx) (i : Int) (ms : List Int), ds = [.int (wh : Int), caseD es rs new, .int i, .tup (inz ms)] ∧ wh < 4 ∧ CsOk es rs new ∧ BdOk ms ∧ q (hearD es rs new i ms wh) ds
def sp__law_bounds : FS := fun ds q _ => ∃ (d : D) (n : Nat) (lo own : Int), ds = [d, .int lo, .int own] ∧ Reel (n + 20) d ∧ 1 ≤ lo ∧ lo ≤ 2 ∧ 1 ≤ own ∧ own ≤ 1000 ∧ ∀ (ms : List Int) (d' : D), BdOk ms → Reel n d' → q (.tup (inz ms)) [d', .int lo, .int own]
def sp__law_least : FS := fun ds q _ => ∃ es rs new, ∃ (k : Nat) (r : Rule), CsOk es rs new ∧ rs[k]? = some r ∧ ((ds = [caseD es rs new, .int (k : Int), .int 2, .int 0] ∧ q (.int (leM es rs new k r : Int)) ds) ∨ (ds = [caseD es rs new, .int (k : Int), .int 1, .int 1] ∧ isB r = true ∧ q (.int (leW es rs new k r : Int)) ds))
def sp__law_least_most : FS := fun ds q _ => ∃ es rs new, ∃ (k : Nat) (r : Rule), ds = [caseD es rs new, .int (k : Int)] ∧ CsOk es rs new ∧ rs[k]? = some r ∧ q (.int (leM es rs new k r : Int)) ds
def sp__law_rule_right : FS := fun ds q _ => ∃ (d : D) (n : Nat), ∃ es rs new, ∃ (k : Nat), ds = [d, caseD es rs new, .int (k : Int)] ∧ Reel (n + 100) d ∧ CsOk es rs new ∧ k < rs.length ∧ ∀ d', Reel n d' → q (.bl true) [d', caseD es rs new, .int (k : Int)]
def sp__law_case_right : FS := fun ds q _ => ∃ (d : D) (n : Nat) (w : Bool), ds = [d, .bl w] ∧ Reel (n + 3000) d ∧ ∀ d', Reel n d' → q (.bl true) [d', .bl w]
def sp__law_bounded : FS := fun ds q _ => ∃ (d : D) (n : Nat), ds = [d] ∧ Reel (n + 100) d ∧ ∀ d', Reel n d' → q (.bl true) [d']
def sp_law : FS := spLaw
end Lw
end

-- text Mir_k39
section
set_option Elab.async false
set_option linter.all false
set_option maxRecDepth 100000
set_option maxHeartbeats 4000000
namespace Lw
open PySem PySem.Spec PyProof.Rows L2 Mi
def m_is_number : MSTy := (mRet (mAndV (mIsi .int (mVarF 0)) (mNotV (mIsi .bool (mVarF 0)))))
def m_check_stretch : MSTy := (mSeq (mIf (mOr (mNot (mB (mIsi .tup (mVarF 1)))) (mB (mOp fNeA (mCB fLen (mCons (mVarF 1) mNil)) (mC (.int 2))))) (mRaise2 12 1 2 (mCons (mC (.str [115, 116, 114, 101, 116, 99, 104])) (mCons (mVarF 1) mNil))) mNext) (mSeq (mIf (mOr (mNot (mB (mCall0 sp_is_number 1 (mCons (mOp fIx (mVarF 1) (mC (.int 0))) mNil)))) (mNot (mB (mCall0 sp_is_number 1 (mCons (mOp fIx (mVarF 1) (mC (.int 1))) mNil))))) (mRaise2 12 1 2 (mCons (mC (.str [115, 116, 114, 101, 116, 99, 104])) (mCons (mVarF 1) mNil))) mNext) (mSeq (mIf (mNot (mB (mChain3 fLe fLt fLe (mC (.int 0)) (mOp fIx (mVarF 1) (mC (.int 0))) (mOp fIx (mVarF 1) (mC (.int 1))) (mCB fLen (mCons (mVarF 0) mNil))))) (mRaise2 12 1 2 (mCons (mC (.str [115, 116, 114, 101, 116, 99, 104])) (mCons (mVarF 1) mNil))) mNext) (mRet (mOp fSub (mOp fIx (mVarF 1) (mC (.int 1))) (mOp fIx (mVarF 1) (mC (.int 0))))))))
def m_is_turning : MSTy := (mRet (mOp fIx (mVarF 0) (mUn fNeg (mC (.int 2)))))
def m__heard_by_11 : MSTy := (mRet (mC (.bl false)))
def m__heard_by_10 : MSTy := (mSeq (mFor (miRng2 (mCB fMax (mCons (mC (.int 0)) (mCons (mVarF 9) mNil))) (mOp fAdd (mVarF 10) (mC (.int 1)))) (mgName 11) (mIf (mB (mOp fEqA (mSl (mVarF 6) (mPart (mVarF 11)) (mPart (mOp fAdd (mVarF 11) (mVarF 3)))) (mVarF 8))) (mRet (mC (.bl true))) mNext)) m__heard_by_11)
def m__heard_by_9 : MSTy := (mSeqC (mIf (mOr (mB (mCall0 sp_is_turning 1 (mCons (mVarF 7) mNil))) (mB (mOp fIx (mVarF 7) (mC (.int 2))))) (mAsg (mOp fSub (mVarF 2) (mVarF 3)) (mgName 10)) mNext) m__heard_by_10)
def m__heard_by_5 : MSTy := (mSeq (mIf (mB (mOp fEqA (mOp fIx (mVarF 7) (mC (.int 0))) (mC (.str [101, 108, 100, 101, 114])))) (mRet (mOp fInA (mVarF 8) (mOp fIx (mVarF 4) (mOp fIx (mVarF 7) (mC (.int 1)))))) mNext) (mSeq (mAsg (mOp fSub (mVarF 2) (mOp fIx (mVarF 7) (mC (.int 1)))) (mgName 9)) (mSeq (mAsg (mOp fSub (mVarF 2) (mC (.int 1))) (mgName 10)) (mSeqC (mIf (mB (mCall0 sp_is_turning 1 (mCons (mVarF 7) mNil))) (mAsg (mOp fSub (mOp fAdd (mVarF 9) (mVarF 3)) (mC (.int 1))) (mgName 9)) mNext) m__heard_by_9))))
def m__heard_by : MSTy := (mSeq (mAsg (mVarF 0) (mgTup [4, 5, 6])) (mSeq (mAsg (mOp fIx (mVarF 5) (mVarF 1)) (mgName 7)) (mSeq (mIf (mB (mOp fGt (mVarF 3) (mOp fIx (mVarF 7) (mUn fNeg (mC (.int 1)))))) (mRet (mC (.bl false))) mNext) (mSeq (mAsg (mSl (mVarF 6) (mPart (mVarF 2)) (mPart (mOp fAdd (mVarF 2) (mVarF 3)))) (mgName 8)) (mSeqC (mIf (mB (mCall0 sp_is_turning 1 (mCons (mVarF 7) mNil))) (mAsg (mRev (mVarF 8)) (mgName 8)) mNext) m__heard_by_5)))))
def m_is_heard : MSTy := (mSeq (mAsg (mCall0 sp_check_stretch 2 (mCons (mOp fIx (mVarF 0) (mC (.int 2))) (mCons (mVarF 1) mNil))) (mgName 2)) (mSeq (mIf (mB (mOp fEqA (mVarF 2) (mC (.int 1)))) (mRet (mC (.bl true))) mNext) (mSeq (mFor (miRng1 (mCB fLen (mCons (mOp fIx (mVarF 0) (mC (.int 1))) mNil))) (mgName 3) (mIf (mB (mCall0 sp__heard_by 4 (mCons (mVarF 0) (mCons (mVarF 3) (mCons (mOp fIx (mVarF 1) (mC (.int 0))) (mCons (mVarF 2) mNil)))))) (mRet (mC (.bl true))) mNext)) (mRet (mC (.bl false))))))
def m_reach_table : MSTy := (mSeq (mAsg (mOp fIx (mVarF 0) (mC (.int 2))) (mgName 1)) (mSeq (mSetM 2 (mNew 0 mNil)) (mSeq (mAsg (mC (.int 0)) (mgName 3)) (mSeq (mFor (miRng1 (mCB fLen (mCons (mVarF 1) mNil))) (mgName 4) (mSeq (mAsg (mCB fMax (mCons (mVarF 3) (mCons (mOp fAdd (mVarF 4) (mC (.int 1))) mNil))) (mgName 3)) (mSeq (mWhile (mAnd (mB (mOp fLt (mVarF 3) (mCB fLen (mCons (mVarF 1) mNil)))) (mB (mCall0 sp_is_heard 2 (mCons (mVarF 0) (mCons (mTup 2 (mCons (mVarF 4) (mCons (mOp fAdd (mVarF 3) (mC (.int 1))) mNil))) mNil))))) (mAsg (mOp fAdd (mVarF 3) (mC (.int 1))) (mgName 3))) (mAppend 2 (mVarF 3))))) (mRet (mCB fTuple (mCons (mVar 2) mNil)))))))
def m_greedy_cuts : MSTy := (mSeq (mAsg (mCall0 sp_reach_table 1 (mCons (mVarF 0) mNil)) (mgName 1)) (mSeq (mSetM 2 (mNew 0 mNil)) (mSeq (mAsg (mC (.int 0)) (mgName 3)) (mSeq (mWhile (mAnd (mB (mOp fLt (mVarF 3) (mCB fLen (mCons (mVarF 1) mNil)))) (mB (mOp fLt (mOp fIx (mVarF 1) (mVarF 3)) (mCB fLen (mCons (mVarF 1) mNil))))) (mSeq (mAsg (mOp fIx (mVarF 1) (mVarF 3)) (mgName 3)) (mAppend 2 (mVarF 3)))) (mRet (mCB fTuple (mCons (mVar 2) mNil)))))))
def m_fewest_count : MSTy := (mRet (mCB fLen (mCons (mCall0 sp_greedy_cuts 1 (mCons (mVarF 0) mNil)) mNil)))
def m_piece_count : MSTy := (mRet (mIfE (mB (mOp fEqA (mOp fIx (mVarF 0) (mC (.int 2))) (mC (.str [])))) (mC (.int 0)) (mOp fAdd (mCall0 sp_fewest_count 1 (mCons (mVarF 0) mNil)) (mC (.int 1)))))
def m__with : MSTy := (mSeq (mAsg (mVarF 0) (mgTup [3, 4, 5])) (mRet (mTup 3 (mCons (mVarF 3) (mCons (mOp fAdd (mOp fAdd (mSl (mVarF 4) mNo (mPart (mVarF 1))) (mTup 1 (mCons (mVarF 2) mNil))) (mSl (mVarF 4) (mPart (mOp fAdd (mVarF 1) (mC (.int 1)))) mNo)) (mCons (mVarF 5) mNil))))))
def m__check_rule : MSTy := (mIf (mOr (mB (mIsi .bool (mVarF 1))) (mOr (mNot (mB (mIsi .int (mVarF 1)))) (mNot (mB (mChain fLe fLt (mC (.int 0)) (mVarF 1) (mCB fLen (mCons (mOp fIx (mVarF 0) (mC (.int 1))) mNil))))))) (mRaise2 12 1 2 (mCons (mC (.str [114, 117, 108, 101])) (mCons (mVarF 1) mNil))) mNext)
def m_pieces_by_most : MSTy := (mSeq (mExpr (mCall0 sp__check_rule 2 (mCons (mVarF 0) (mCons (mVarF 1) mNil)))) (mSeq (mAsg (mOp fIx (mOp fIx (mVarF 0) (mC (.int 1))) (mVarF 1)) (mgName 3)) (mRet (mCB fTuple (mCons (mFz (mLc (miAny (mVarF 2)) (mgName 4) mtYes (mCall0 sp_piece_count 1 (mCons (mCall0 sp__with 3 (mCons (mVarF 0) (mCons (mVarF 1) (mCons (mOp fAdd (mSl (mVarF 3) mNo (mPart (mUn fNeg (mC (.int 1))))) (mTup 1 (mCons (mVarF 4) mNil))) mNil)))) mNil)) [4])) mNil)))))
def m_pieces_by_wide : MSTy := (mSeq (mExpr (mCall0 sp__check_rule 2 (mCons (mVarF 0) (mCons (mVarF 1) mNil)))) (mSeq (mAsg (mOp fIx (mOp fIx (mVarF 0) (mC (.int 1))) (mVarF 1)) (mgName 3)) (mSeq (mIf (mB (mOp fNeA (mOp fIx (mVarF 3) (mC (.int 0))) (mC (.str [98, 97, 99, 107])))) (mRaise2 12 1 2 (mCons (mC (.str [119, 105, 100, 101])) (mCons (mVarF 1) mNil))) mNext) (mRet (mCB fTuple (mCons (mFz (mLc (miAny (mVarF 2)) (mgName 4) mtYes (mCall0 sp_piece_count 1 (mCons (mCall0 sp__with 3 (mCons (mVarF 0) (mCons (mVarF 1) (mCons (mOp fAdd (mOp fAdd (mSl (mVarF 3) mNo (mPart (mC (.int 1)))) (mTup 1 (mCons (mVarF 4) mNil))) (mSl (mVarF 3) (mPart (mC (.int 2))) mNo)) mNil)))) mNil)) [4])) mNil))))))
def m_least_most_6 : MSTy := (mRet (mVarF 4))
def m_least_most_5 : MSTy := (mSeq (mWhile (mB (mOp fLt (mVarF 4) (mVarF 5))) (mSeq (mAsg (mOp fDiv (mOp fAdd (mVarF 4) (mVarF 5)) (mC (.int 2))) (mgName 6)) (mIf (mB (mOp fLe (mCall0 sp_piece_count 1 (mCons (mCall0 sp__with 3 (mCons (mVarF 0) (mCons (mVarF 1) (mCons (mOp fAdd (mSl (mVarF 2) mNo (mPart (mUn fNeg (mC (.int 1))))) (mTup 1 (mCons (mVarF 6) mNil))) mNil)))) mNil)) (mVarF 3))) (mAsg (mVarF 6) (mgName 5)) (mAsg (mOp fAdd (mVarF 6) (mC (.int 1))) (mgName 4))))) m_least_most_6)
def m_least_most_3 : MSTy := (mSeq (mAsg (mC (.int 2)) (mgName 4)) (mSeqC (mAsg (mOp fIx (mVarF 2) (mUn fNeg (mC (.int 1)))) (mgName 5)) m_least_most_5))
def m_least_most : MSTy := (mSeq (mExpr (mCall0 sp__check_rule 2 (mCons (mVarF 0) (mCons (mVarF 1) mNil)))) (mSeq (mAsg (mOp fIx (mOp fIx (mVarF 0) (mC (.int 1))) (mVarF 1)) (mgName 2)) (mSeqC (mAsg (mCall0 sp_piece_count 1 (mCons (mVarF 0) mNil)) (mgName 3)) m_least_most_3)))
def m_least_wide_7 : MSTy := (mRet (mVarF 4))
def m_least_wide_6 : MSTy := (mSeq (mWhile (mB (mOp fLt (mVarF 4) (mVarF 5))) (mSeq (mAsg (mOp fDiv (mOp fAdd (mVarF 4) (mVarF 5)) (mC (.int 2))) (mgName 6)) (mIf (mB (mOp fLe (mCall0 sp_piece_count 1 (mCons (mCall0 sp__with 3 (mCons (mVarF 0) (mCons (mVarF 1) (mCons (mOp fAdd (mOp fAdd (mSl (mVarF 2) mNo (mPart (mC (.int 1)))) (mTup 1 (mCons (mVarF 6) mNil))) (mSl (mVarF 2) (mPart (mC (.int 2))) mNo)) mNil)))) mNil)) (mVarF 3))) (mAsg (mVarF 6) (mgName 5)) (mAsg (mOp fAdd (mVarF 6) (mC (.int 1))) (mgName 4))))) m_least_wide_7)
def m_least_wide : MSTy := (mSeq (mExpr (mCall0 sp__check_rule 2 (mCons (mVarF 0) (mCons (mVarF 1) mNil)))) (mSeq (mAsg (mOp fIx (mOp fIx (mVarF 0) (mC (.int 1))) (mVarF 1)) (mgName 2)) (mSeq (mIf (mB (mOp fNeA (mOp fIx (mVarF 2) (mC (.int 0))) (mC (.str [98, 97, 99, 107])))) (mRaise2 12 1 2 (mCons (mC (.str [119, 105, 100, 101])) (mCons (mVarF 1) mNil))) mNext) (mSeq (mAsg (mCall0 sp_piece_count 1 (mCons (mVarF 0) mNil)) (mgName 3)) (mSeq (mAsg (mC (.int 1)) (mgName 4)) (mSeqC (mAsg (mOp fIx (mVarF 2) (mC (.int 1))) (mgName 5)) m_least_wide_6))))))
def m_widest_case : MSTy := (mSeq (mAsg (mVarF 0) (mgTup [1, 2, 3])) (mSeq (mSetM 4 (mNew 0 mNil)) (mSeq (mFor (miAny (mVarF 2)) (mgName 5) (mIf (mB (mOp fEqA (mOp fIx (mVarF 5) (mC (.int 0))) (mC (.str [101, 108, 100, 101, 114])))) (mAppend 4 (mOp fAdd (mSl (mVarF 5) mNo (mPart (mUn fNeg (mC (.int 1))))) (mTup 1 (mCons (mC (.int 300)) mNil)))) (mAppend 4 (mOp fAdd (mOp fAdd (mTup 2 (mCons (mC (.str [98, 97, 99, 107])) (mCons (mC (.int 300)) mNil))) (mSl (mVarF 5) (mPart (mC (.int 2))) (mPart (mUn fNeg (mC (.int 1)))))) (mTup 1 (mCons (mC (.int 300)) mNil)))))) (mRet (mTup 3 (mCons (mVarF 1) (mCons (mCB fTuple (mCons (mVar 4) mNil)) (mCons (mVarF 3) mNil))))))))
def m_lost_by_bounds : MSTy := (mRet (mOp fSub (mCall0 sp_piece_count 1 (mCons (mVarF 0) mNil)) (mCall0 sp_piece_count 1 (mCons (mCall0 sp_widest_case 1 (mCons (mVarF 0) mNil)) mNil))))
def m__law_reel : MSTy := (mRet (mOwn (mNew 5 (mCons (mFz (mLc (miAny (mSl (mVarF 0) mNo (mPart (mC (.int 63))))) (mgName 1) mtYes (mCB fInt (mCons (mVarF 1) mNil)) [1])) (mCons (mC (.int 0)) (mCons (mC (.int 0)) (mCons (mC (.int 20011)) (mCons (mC (.int 0)) mNil))))))))
def m__law_roll : MSTy := (mSeq (mSetIx 0 (mOp fAdd (mOp fIx (mVar 0) (mC (.int 4))) (mC (.int 1))) (mC (.int 4))) (mSeqC (mIf (mAnd (mB (mOp fEqA (mOp fIx (mVar 0) (mC (.int 2))) (mC (.int 0)))) (mB (mOp fLt (mOp fIx (mVar 0) (mC (.int 1))) (mCB fLen (mCons (mOp fIx (mVar 0) (mC (.int 0))) mNil))))) (mSeq (mAsg (mCB fAbs (mCons (mOp fIx (mOp fIx (mVar 0) (mC (.int 0))) (mOp fIx (mVar 0) (mC (.int 1)))) mNil)) (mgName 2)) (mSeq (mSetIx 0 (mOp fAdd (mOp fIx (mVar 0) (mC (.int 1))) (mC (.int 1))) (mC (.int 1))) (mSeq (mSetIx 0 (mOp fMod (mCB fInt (mCons (mOp fAdd (mOp fAdd (mOp fMul (mOp fIx (mVar 0) (mC (.int 3))) (mC (.int 83))) (mOp fMul (mOp fMod (mCB fInt (mCons (mVarF 2) mNil)) (mC (.int 32452867))) (mC (.int 17)))) (mOp fIx (mVar 0) (mC (.int 4)))) mNil)) (mC (.int 2147483137))) (mC (.int 3))) (mIf (mB (mOp fGe (mVarF 2) (mOp fPow (mC (.int 10)) (mC (.int 18))))) (mSetIx 0 (mVarF 2) (mC (.int 2))) mNext)))) mNext) (mSeq (mIf (mB (mOp fGt (mOp fIx (mVar 0) (mC (.int 2))) (mC (.int 0)))) (mSeq (mAsg (mOp fMod (mCB fInt (mCons (mOp fIx (mVar 0) (mC (.int 2))) mNil)) (mVarF 1)) (mgName 3)) (mSeq (mSetIx 0 (mOp fDiv (mOp fIx (mVar 0) (mC (.int 2))) (mVarF 1)) (mC (.int 2))) (mRet (mVarF 3)))) mNext) (mSeq (mSetIx 0 (mOp fMod (mCB fInt (mCons (mOp fAdd (mOp fAdd (mOp fMul (mOp fIx (mVar 0) (mC (.int 3))) (mC (.int 40692))) (mOp fMul (mOp fMul (mOp fIx (mVar 0) (mC (.int 4))) (mOp fIx (mVar 0) (mC (.int 4)))) (mC (.int 71)))) (mC (.int 19))) mNil)) (mC (.int 2147483137))) (mC (.int 3))) (mRet (mOp fMod (mCB fInt (mCons (mOp fDiv (mOp fIx (mVar 0) (mC (.int 3))) (mC (.int 71))) mNil)) (mVarF 1)))))))
def m__law_same : MSTy := (mSeq (mSetM 2 (mNew 1 (mCons (mTup 2 (mCons (mVarF 0) (mCons (mVarF 1) mNil))) mNil))) (mSeq (mWhile (mB (mOp fGt (mCB fLen (mCons (mVar 2) mNil)) (mC (.int 0)))) (mSeq (mAsg (mPop 2) (mgTup [3, 4])) (mIf (mB (mOp (fIs false) (mVarF 4) (mC .non))) (mIf (mB (mOp (fIs true) (mVarF 3) (mC .non))) (mRet (mC (.bl false))) mNext) (mIf (mB (mIsi .bool (mVarF 4))) (mIf (mOr (mNot (mB (mIsi .bool (mVarF 3)))) (mB (mOp fNeA (mVarF 3) (mVarF 4)))) (mRet (mC (.bl false))) mNext) (mIf (mB (mIsi .int (mVarF 4))) (mIf (mOr (mNot (mB (mIsi .int (mVarF 3)))) (mOr (mB (mIsi .bool (mVarF 3))) (mB (mOp fNeA (mVarF 3) (mVarF 4))))) (mRet (mC (.bl false))) mNext) (mSeq (mIf (mOr (mNot (mB (mIsi .tup (mVarF 3)))) (mB (mOp fNeA (mCB fLen (mCons (mVarF 3) mNil)) (mCB fLen (mCons (mVarF 4) mNil))))) (mRet (mC (.bl false))) mNext) (mExtendA 2 (mFz (mLc (miRng1 (mCB fLen (mCons (mVarF 4) mNil))) (mgName 5) mtYes (mTup 2 (mCons (mOp fIx (mVarF 3) (mVarF 5)) (mCons (mOp fIx (mVarF 4) (mVarF 5)) mNil))) [5]))))))))) (mRet (mC (.bl true)))))
def m__law_letters : MSTy := (mSeq (mAsg (mC (.str [32, 33, 34, 35, 36, 38, 39, 40, 41, 42, 43, 44, 45, 46, 47, 48, 49, 50, 51, 52, 53, 54, 55, 56, 57, 58, 59, 60, 61, 62, 63, 64, 65, 66, 67, 68, 69, 70, 71, 72, 73, 74, 75, 76, 77, 78, 79, 80, 81, 82, 83, 84, 85, 86, 87, 88, 89, 90, 91, 92, 93, 94, 95, 96])) (mgName 1)) (mSeq (mAsg (mOp fAdd (mVarF 1) (mC (.str [97, 98, 99, 100, 101, 102, 103, 104, 105, 106, 107, 108, 109, 110, 111, 112, 113, 114, 115, 116, 117, 118, 119, 120, 121, 122, 123, 124, 125, 126]))) (mgName 1)) (mRet (mFz (mLc (miRng1 (mOp fAdd (mC (.int 2)) (mCall sp__law_roll [true, false] (mcRef 0 (mcVal (mC (.int 3)) mcNil))))) (mgName 2) mtYes (mOp fIx (mVarF 1) (mCall sp__law_roll [true, false] (mcRef 0 (mcVal (mC (.int 94)) mcNil)))) [2])))))
def m__law_word : MSTy := (mRet (mJoin (mC (.str [])) (mFz (mLc (miRng1 (mVarF 2)) (mgName 3) mtYes (mOp fIx (mVarF 1) (mCall sp__law_roll [true, false] (mcRef 0 (mcVal (mCB fLen (mCons (mVarF 1) mNil)) mcNil)))) [3]))))
def m__law_new : MSTy := (mSeq (mAsg (mC (.str [])) (mgName 4)) (mSeq (mFor (miRng1 (mVarF 3)) (mgName 5) (mSeq (mIf (mB (mOp fGe (mCB fLen (mCons (mVarF 4) mNil)) (mVarF 3))) mBrk mNext) (mSeq (mAsg (mCall sp__law_roll [true, false] (mcRef 0 (mcVal (mC (.int 5)) mcNil))) (mgName 6)) (mSeq (mAsg (mIfE (mOr (mB (mOp fEqA (mVarF 6) (mC (.int 0)))) (mB (mOp fEqA (mCB fLen (mCons (mVarF 2) mNil)) (mC (.int 0))))) (mVarF 4) (mOp fIx (mVarF 2) (mCall sp__law_roll [true, false] (mcRef 0 (mcVal (mCB fLen (mCons (mVarF 2) mNil)) mcNil))))) (mgName 7)) (mIf (mAnd (mB (mOp fLt (mVarF 6) (mC (.int 4)))) (mB (mOp fGt (mCB fLen (mCons (mVarF 7) mNil)) (mC (.int 0))))) (mSeq (mAsg (mCall sp__law_roll [true, false] (mcRef 0 (mcVal (mCB fLen (mCons (mVarF 7) mNil)) mcNil))) (mgName 8)) (mSeq (mAsg (mSl (mVarF 7) (mPart (mVarF 8)) (mPart (mOp fAdd (mOp fAdd (mVarF 8) (mC (.int 1))) (mCall sp__law_roll [true, false] (mcRef 0 (mcVal (mC (.int 5)) mcNil)))))) (mgName 9)) (mAsg (mOp fAdd (mVarF 4) (mIfE (mB (mOp fEqA (mCall sp__law_roll [true, false] (mcRef 0 (mcVal (mC (.int 3)) mcNil))) (mC (.int 0)))) (mRev (mVarF 9)) (mVarF 9))) (mgName 4)))) (mAsg (mOp fAdd (mVarF 4) (mOp fIx (mVarF 1) (mCall sp__law_roll [true, false] (mcRef 0 (mcVal (mCB fLen (mCons (mVarF 1) mNil)) mcNil))))) (mgName 4))))))) (mRet (mSl (mVarF 4) mNo (mPart (mVarF 3))))))
def m__law_rule_4 : MSTy := (mRet (mTup 5 (mCons (mC (.str [98, 97, 99, 107])) (mCons (mVarF 4) (mCons (mOp fEqA (mCall sp__law_roll [true, false] (mcRef 0 (mcVal (mC (.int 2)) mcNil))) (mC (.int 0))) (mCons (mVarF 3) (mCons (mVarF 2) mNil)))))))
def m__law_rule_3 : MSTy := (mSeqC (mAsg (mOp fIx (mLst 2 (mCons (mC (.int 300)) (mCons (mOp fAdd (mC (.int 1)) (mCall sp__law_roll [true, false] (mcRef 0 (mcVal (mC (.int 6)) mcNil)))) mNil))) (mCall sp__law_roll [true, false] (mcRef 0 (mcVal (mC (.int 2)) mcNil)))) (mgName 4)) m__law_rule_4)
def m__law_rule_2 : MSTy := (mSeqC (mIf (mAnd (mB (mOp fGt (mCB fLen (mCons (mVarF 1) mNil)) (mC (.int 0)))) (mB (mOp fEqA (mCall sp__law_roll [true, false] (mcRef 0 (mcVal (mC (.int 2)) mcNil))) (mC (.int 0))))) (mRet (mTup 4 (mCons (mC (.str [101, 108, 100, 101, 114])) (mCons (mCall sp__law_roll [true, false] (mcRef 0 (mcVal (mCB fLen (mCons (mVarF 1) mNil)) mcNil))) (mCons (mVarF 3) (mCons (mVarF 2) mNil)))))) mNext) m__law_rule_3)
def m__law_rule_1 : MSTy := (mSeqC (mAsg (mOp fEqA (mCall sp__law_roll [true, false] (mcRef 0 (mcVal (mC (.int 3)) mcNil))) (mC (.int 0))) (mgName 3)) m__law_rule_2)
def m__law_rule : MSTy := (mSeqC (mAsg (mOp fIx (mLst 2 (mCons (mC (.int 300)) (mCons (mOp fAdd (mC (.int 2)) (mCall sp__law_roll [true, false] (mcRef 0 (mcVal (mC (.int 4)) mcNil)))) mNil))) (mCall sp__law_roll [true, false] (mcRef 0 (mcVal (mC (.int 2)) mcNil)))) (mgName 2)) m__law_rule_1)
def m__law_case_3 : MSTy := (mRet (mTup 3 (mCons (mVarF 3) (mCons (mVarF 4) (mCons (mCall sp__law_new [true, false, false, false] (mcRef 0 (mcVal (mVarF 2) (mcVal (mVarF 3) (mcVal (mCall sp__law_roll [true, false] (mcRef 0 (mcVal (mIfE (mB (mVarF 1)) (mC (.int 13)) (mC (.int 9))) mcNil))) mcNil))))) mNil)))))
def m__law_case_2 : MSTy := (mSeqC (mAsg (mCB fTuple (mCons (mFz (mLc (miRng1 (mCall sp__law_roll [true, false] (mcRef 0 (mcVal (mIfE (mB (mVarF 1)) (mC (.int 5)) (mC (.int 4))) mcNil)))) (mgName 5) mtYes (mCall sp__law_rule [true, false] (mcRef 0 (mcVal (mVarF 3) mcNil))) [5])) mNil)) (mgName 4)) m__law_case_3)
def m__law_case_1 : MSTy := (mSeqC (mAsg (mCB fTuple (mCons (mFz (mLc (miRng1 (mCall sp__law_roll [true, false] (mcRef 0 (mcVal (mC (.int 3)) mcNil)))) (mgName 5) mtYes (mCall sp__law_word [true, false, false] (mcRef 0 (mcVal (mVarF 2) (mcVal (mCall sp__law_roll [true, false] (mcRef 0 (mcVal (mC (.int 9)) mcNil))) mcNil)))) [5])) mNil)) (mgName 3)) m__law_case_2)
def m__law_case : MSTy := (mSeqC (mAsg (mCall sp__law_letters [true] (mcRef 0 mcNil)) (mgName 2)) m__law_case_1)
def m__law_sourced_4 : MSTy := (mRet (mC (.bl true)))
def m__law_sourced_3 : MSTy := (mSeq (mFor (miRng1 (mOp fSub (mVarF 3) (mVarF 2))) (mgName 8) (mSeq (mAsg (mIfE (mB (mVarF 7)) (mOp fSub (mOp fSub (mOp fAdd (mVarF 4) (mOp fSub (mVarF 3) (mVarF 2))) (mC (.int 1))) (mVarF 8)) (mOp fAdd (mVarF 4) (mVarF 8))) (mgName 9)) (mSeq (mIf (mOr (mB (mOp fGe (mVarF 9) (mCB fLen (mCons (mVarF 6) mNil)))) (mB (mOp fNeA (mOp fIx (mVarF 6) (mVarF 9)) (mOp fIx (mVarF 5) (mOp fAdd (mVarF 2) (mVarF 8)))))) (mRet (mC (.bl false))) mNext) (mIf (mAnd (mB (mOp fEqA (mOp fIx (mVarF 1) (mC (.int 0))) (mC (.str [98, 97, 99, 107])))) (mOr (mB (mOp fGe (mVarF 9) (mOp fAdd (mVarF 2) (mVarF 8)))) (mOr (mB (mOp fLt (mVarF 9) (mOp fSub (mOp fAdd (mVarF 2) (mVarF 8)) (mOp fIx (mVarF 1) (mC (.int 1)))))) (mAnd (mB (mOp fIx (mVarF 1) (mC (.int 2)))) (mB (mOp fGe (mVarF 9) (mVarF 2))))))) (mRet (mC (.bl false))) mNext)))) m__law_sourced_4)
def m__law_sourced_2 : MSTy := (mSeqC (mAsg (mOp fIx (mVarF 1) (mUn fNeg (mC (.int 2)))) (mgName 7)) m__law_sourced_3)
def m__law_sourced_1 : MSTy := (mSeqC (mAsg (mIfE (mB (mOp fEqA (mOp fIx (mVarF 1) (mC (.int 0))) (mC (.str [101, 108, 100, 101, 114])))) (mOp fIx (mOp fIx (mVarF 0) (mC (.int 0))) (mOp fIx (mVarF 1) (mC (.int 1)))) (mVarF 5)) (mgName 6)) m__law_sourced_2)
def m__law_sourced : MSTy := (mSeqC (mAsg (mOp fIx (mVarF 0) (mC (.int 2))) (mgName 5)) m__law_sourced_1)
def m__law_heard : MSTy := (mSeq (mIf (mB (mOp fEqA (mOp fSub (mVarF 2) (mVarF 1)) (mC (.int 1)))) (mRet (mC (.bl true))) mNext) (mSeq (mFor (miAny (mOp fIx (mVarF 0) (mC (.int 1)))) (mgName 3) (mIf (mB (mOp fLe (mOp fSub (mVarF 2) (mVarF 1)) (mOp fIx (mVarF 3) (mUn fNeg (mC (.int 1)))))) (mSeq (mAsg (mIfE (mB (mOp fEqA (mOp fIx (mVarF 3) (mC (.int 0))) (mC (.str [101, 108, 100, 101, 114])))) (mOp fIx (mOp fIx (mVarF 0) (mC (.int 0))) (mOp fIx (mVarF 3) (mC (.int 1)))) (mOp fIx (mVarF 0) (mC (.int 2)))) (mgName 4)) (mFor (miRng1 (mCB fLen (mCons (mVarF 4) mNil))) (mgName 5) (mIf (mB (mCall0 sp__law_sourced 5 (mCons (mVarF 0) (mCons (mVarF 3) (mCons (mVarF 1) (mCons (mVarF 2) (mCons (mVarF 5) mNil))))))) (mRet (mC (.bl true))) mNext))) mNext)) (mRet (mC (.bl false)))))
def m__law_reach : MSTy := (mSeq (mSetM 1 (mNew 0 mNil)) (mSeq (mFor (miRng1 (mCB fLen (mCons (mOp fIx (mVarF 0) (mC (.int 2))) mNil))) (mgName 2) (mSeq (mAsg (mOp fAdd (mVarF 2) (mC (.int 1))) (mgName 3)) (mSeq (mWhile (mAnd (mB (mOp fLt (mVarF 3) (mCB fLen (mCons (mOp fIx (mVarF 0) (mC (.int 2))) mNil)))) (mB (mCall0 sp__law_heard 3 (mCons (mVarF 0) (mCons (mVarF 2) (mCons (mOp fAdd (mVarF 3) (mC (.int 1))) mNil)))))) (mAsg (mOp fAdd (mVarF 3) (mC (.int 1))) (mgName 3))) (mAppend 1 (mVarF 3))))) (mRetMv 1)))
def m__law_pieces : MSTy := (mSeq (mAsg (mCall0 sp__law_reach 1 (mCons (mVarF 0) mNil)) (mgName 1)) (mSeq (mAsg (mTup 2 (mCons (mC (.int 0)) (mCons (mC (.int 0)) mNil))) (mgTup [2, 3])) (mSeq (mWhile (mB (mOp fLt (mVarF 2) (mCB fLen (mCons (mVarF 1) mNil)))) (mSeq (mAsg (mOp fIx (mVarF 1) (mVarF 2)) (mgName 2)) (mAsg (mOp fAdd (mVarF 3) (mC (.int 1))) (mgName 3)))) (mRet (mVarF 3)))))
def m__law_with : MSTy := (mSeq (mAsg (mOp fIx (mOp fIx (mVarF 0) (mC (.int 1))) (mVarF 1)) (mgName 4)) (mSeq (mAsg (mIfE (mB (mOp fGt (mVarF 2) (mC (.int 0)))) (mOp fAdd (mSl (mVarF 4) mNo (mPart (mUn fNeg (mC (.int 1))))) (mTup 1 (mCons (mVarF 2) mNil))) (mVarF 4)) (mgName 5)) (mSeq (mAsg (mIfE (mB (mOp fGt (mVarF 3) (mC (.int 0)))) (mOp fAdd (mTup 2 (mCons (mOp fIx (mVarF 5) (mC (.int 0))) (mCons (mVarF 3) mNil))) (mSl (mVarF 5) (mPart (mC (.int 2))) mNo)) (mVarF 5)) (mgName 5)) (mRet (mTup 3 (mCons (mOp fIx (mVarF 0) (mC (.int 0))) (mCons (mOp fAdd (mOp fAdd (mSl (mOp fIx (mVarF 0) (mC (.int 1))) mNo (mPart (mVarF 1))) (mTup 1 (mCons (mVarF 5) mNil))) (mSl (mOp fIx (mVarF 0) (mC (.int 1))) (mPart (mOp fAdd (mVarF 1) (mC (.int 1)))) mNo)) (mCons (mOp fIx (mVarF 0) (mC (.int 2))) mNil))))))))
def m__law_all_same : MSTy := (mSeq (mSetM 2 (mNew 1 (mCons (mTup 2 (mCons (mVarF 0) (mCons (mVarF 1) mNil))) mNil))) (mSeq (mWhile (mB (mOp fGt (mCB fLen (mCons (mVar 2) mNil)) (mC (.int 0)))) (mSeq (mAsg (mPop 2) (mgTup [3, 4])) (mIf (mB (mIsi .str (mVarF 4))) (mIf (mOr (mNot (mB (mIsi .str (mVarF 3)))) (mB (mOp fNeA (mVarF 3) (mVarF 4)))) (mRet (mC (.bl false))) mNext) (mIf (mB (mIsi .tup (mVarF 4))) (mSeq (mIf (mOr (mNot (mB (mIsi .tup (mVarF 3)))) (mB (mOp fNeA (mCB fLen (mCons (mVarF 3) mNil)) (mCB fLen (mCons (mVarF 4) mNil))))) (mRet (mC (.bl false))) mNext) (mExtendA 2 (mFz (mLc (miRng1 (mCB fLen (mCons (mVarF 4) mNil))) (mgName 5) mtYes (mTup 2 (mCons (mOp fIx (mVarF 3) (mVarF 5)) (mCons (mOp fIx (mVarF 4) (mVarF 5)) mNil))) [5])))) (mIf (mNot (mB (mCall0 sp__law_sm 2 (mCons (mVarF 3) (mCons (mVarF 4) mNil))))) (mRet (mC (.bl false))) mNext))))) (mRet (mC (.bl true)))))
def m__law_told : MSTy := (mTryAs 0 4 (mSeq (mIf (mB (mOp fEqA (mVarF 0) (mC (.int 0)))) (mRet (mTup 2 (mCons (mC (.str [116, 111, 108, 100])) (mCons (mCall0 sp_pieces_by_most 3 (mCons (mVarF 1) (mCons (mVarF 2) (mCons (mVarF 3) mNil)))) mNil)))) mNext) (mSeq (mIf (mB (mOp fEqA (mVarF 0) (mC (.int 1)))) (mRet (mTup 2 (mCons (mC (.str [116, 111, 108, 100])) (mCons (mCall0 sp_pieces_by_wide 3 (mPerm [0, 1, 2] (mApp 0 3 mNil (mCons (mVarF 1) (mCons (mVarF 2) (mCons (mVarF 3) mNil)))))) mNil)))) mNext) (mSeq (mIf (mB (mOp fEqA (mVarF 0) (mC (.int 2)))) (mRet (mTup 2 (mCons (mC (.str [116, 111, 108, 100])) (mCons (mCall0 sp_least_most 2 (mPerm [1, 0] (mApp 0 2 mNil (mCons (mVarF 2) (mCons (mVarF 1) mNil))))) mNil)))) mNext) (mRet (mTup 2 (mCons (mC (.str [116, 111, 108, 100])) (mCons (mCall0 sp_least_wide 2 (mCons (mVarF 1) (mCons (mVarF 2) mNil))) mNil))))))) (fun c => (mSeq (mIf (mOr (mB (mIsX 1 c (mVarF 4))) (mOr (mB (mIsX 3 c (mVarF 4))) (mOr (mB (mIsX 4 c (mVarF 4))) (mNot (mB (mIsX 2 c (mVarF 4))))))) (mRet (mTup 3 (mCons (mC (.str [114, 97, 105, 115, 101, 100])) (mCons (mC (.str [])) (mCons (mC (.int 0)) mNil))))) mNext) (mRet (mIfE (mB (mIsX 12 c (mVarF 4))) (mTup 3 (mCons (mC (.str [114, 97, 105, 115, 101, 100])) (mCons (mXf c 1 (mVarF 4)) (mCons (mXf c 2 (mVarF 4)) mNil)))) (mTup 3 (mCons (mC (.str [114, 97, 105, 115, 101, 100])) (mCons (mC (.str [])) (mCons (mC (.int 0)) mNil)))))))))
def m__law_bounds : MSTy := (mSeq (mSetM 3 (mNew 0 mNil)) (mSeq (mFor (miRng1 (mOp fAdd (mC (.int 1)) (mCall sp__law_roll [true, false] (mcRef 0 (mcVal (mC (.int 4)) mcNil))))) (mgName 4) (mSeq (mAsg (mCall sp__law_roll [true, false] (mcRef 0 (mcVal (mC (.int 6)) mcNil))) (mgName 5)) (mAppend 3 (mOp fIx (mLst 6 (mCons (mVarF 1) (mCons (mC (.int 300)) (mCons (mVarF 2) (mCons (mCB fMax (mCons (mVarF 1) (mCons (mOp fSub (mVarF 2) (mC (.int 1))) mNil))) (mCons (mCB fMin (mCons (mC (.int 300)) (mCons (mOp fAdd (mVarF 2) (mC (.int 1))) mNil))) (mCons (mOp fAdd (mVarF 1) (mCall sp__law_roll [true, false] (mcRef 0 (mcVal (mC (.int 12)) mcNil)))) mNil))))))) (mVarF 5))))) (mRet (mCB fTuple (mCons (mOpL fAdd 3 (mSlL 3 mNo (mPart (mCall sp__law_roll [true, false] (mcRef 0 (mcVal (mC (.int 2)) mcNil)))))) mNil)))))
def m__law_least : MSTy := (mSeq (mAsg (mCall0 sp__law_pieces 1 (mCons (mVarF 0) mNil)) (mgName 4)) (mSeq (mFor (miRng2 (mVarF 2) (mOp fAdd (mOp fAdd (mCB fLen (mCons (mOp fIx (mVarF 0) (mC (.int 2))) mNil)) (mVarF 2)) (mC (.int 1)))) (mgName 5) (mSeq (mAsg (mIfE (mB (mOp fEqA (mVarF 3) (mC (.int 0)))) (mCall0 sp__law_with 4 (mCons (mVarF 0) (mCons (mVarF 1) (mCons (mVarF 5) (mCons (mC (.int 0)) mNil))))) (mCall0 sp__law_with 4 (mCons (mVarF 0) (mCons (mVarF 1) (mCons (mC (.int 0)) (mCons (mVarF 5) mNil)))))) (mgName 6)) (mIf (mB (mOp fLe (mCall0 sp__law_pieces 1 (mCons (mVarF 6) mNil)) (mVarF 4))) (mRet (mVarF 5)) mNext))) (mRet (mVarF 2))))
def m__law_least_most : MSTy := (mRet (mCall0 sp__law_least 4 (mCons (mVarF 0) (mCons (mVarF 1) (mCons (mC (.int 2)) (mCons (mC (.int 0)) mNil))))))
def m__law_rule_right_9 : MSTy := (mRet (mCall0 sp__law_all_same 2 (mCons (mCall0 sp__law_told 4 (mCons (mC (.int 3)) (mCons (mVarF 1) (mCons (mVarF 2) (mCons (mTup 0 mNil) mNil))))) (mCons (mTup 2 (mCons (mC (.str [116, 111, 108, 100])) (mCons (mCall0 sp__law_least 4 (mCons (mVarF 1) (mCons (mVarF 2) (mCons (mC (.int 1)) (mCons (mC (.int 1)) mNil))))) mNil))) mNil))))
def m__law_rule_right_8 : MSTy := (mSeqC (mIf (mNot (mB (mCall0 sp__law_all_same 2 (mCons (mCall0 sp__law_told 4 (mCons (mC (.int 1)) (mCons (mVarF 1) (mCons (mVarF 2) (mCons (mVarF 7) mNil))))) (mCons (mTup 2 (mCons (mC (.str [116, 111, 108, 100])) (mCons (mVarF 5) mNil))) mNil))))) (mRet (mC (.bl false))) mNext) m__law_rule_right_9)
def m__law_rule_right_7 : MSTy := (mSeqC (mAsg (mCB fTuple (mCons (mFz (mLc (miAny (mVarF 7)) (mgName 6) mtYes (mCall0 sp__law_pieces 1 (mCons (mCall0 sp__law_with 4 (mCons (mVarF 1) (mCons (mVarF 2) (mCons (mC (.int 0)) (mCons (mVarF 6) mNil))))) mNil)) [6])) mNil)) (mgName 5)) m__law_rule_right_8)
def m__law_rule_right_6 : MSTy := (mSeqC (mAsg (mCall sp__law_bounds [true, false, false] (mcRef 0 (mcVal (mC (.int 1)) (mcVal (mOp fIx (mVarF 3) (mC (.int 1))) mcNil)))) (mgName 7)) m__law_rule_right_7)
def m__law_rule_right_5 : MSTy := (mSeqC (mIf (mB (mOp fEqA (mOp fIx (mVarF 3) (mC (.int 0))) (mC (.str [101, 108, 100, 101, 114])))) (mSeq (mAsg (mTup 3 (mCons (mC (.str [114, 97, 105, 115, 101, 100])) (mCons (mC (.str [119, 105, 100, 101])) (mCons (mVarF 2) mNil)))) (mgName 6)) (mRet (mCall0 sp__law_all_same 2 (mCons (mTup 2 (mCons (mCall0 sp__law_told 4 (mCons (mC (.int 1)) (mCons (mVarF 1) (mCons (mVarF 2) (mCons (mTup 2 (mCons (mC (.int 1)) (mCons (mC (.int 9)) mNil))) mNil))))) (mCons (mCall0 sp__law_told 4 (mCons (mC (.int 3)) (mCons (mVarF 1) (mCons (mVarF 2) (mCons (mTup 0 mNil) mNil))))) mNil))) (mCons (mTup 2 (mCons (mVarF 6) (mCons (mVarF 6) mNil))) mNil))))) mNext) m__law_rule_right_6)
def m__law_rule_right_4 : MSTy := (mSeqC (mIf (mNot (mB (mCall0 sp__law_all_same 2 (mCons (mCall0 sp__law_told 4 (mCons (mC (.int 2)) (mCons (mVarF 1) (mCons (mVarF 2) (mCons (mTup 0 mNil) mNil))))) (mCons (mTup 2 (mCons (mC (.str [116, 111, 108, 100])) (mCons (mCall0 sp__law_least_most 2 (mCons (mVarF 1) (mCons (mVarF 2) mNil))) mNil))) mNil))))) (mRet (mC (.bl false))) mNext) m__law_rule_right_5)
def m__law_rule_right_3 : MSTy := (mSeqC (mIf (mNot (mB (mCall0 sp__law_all_same 2 (mCons (mCall0 sp__law_told 4 (mCons (mC (.int 0)) (mCons (mVarF 1) (mCons (mVarF 2) (mCons (mVarF 4) mNil))))) (mCons (mTup 2 (mCons (mC (.str [116, 111, 108, 100])) (mCons (mVarF 5) mNil))) mNil))))) (mRet (mC (.bl false))) mNext) m__law_rule_right_4)
def m__law_rule_right_2 : MSTy := (mSeqC (mAsg (mCB fTuple (mCons (mFz (mLc (miAny (mVarF 4)) (mgName 8) mtYes (mCall0 sp__law_pieces 1 (mCons (mCall0 sp__law_with 4 (mCons (mVarF 1) (mCons (mVarF 2) (mCons (mVarF 8) (mCons (mC (.int 0)) mNil))))) mNil)) [8])) mNil)) (mgName 5)) m__law_rule_right_3)
def m__law_rule_right : MSTy := (mSeq (mAsg (mOp fIx (mOp fIx (mVarF 1) (mC (.int 1))) (mVarF 2)) (mgName 3)) (mSeqC (mAsg (mCall sp__law_bounds [true, false, false] (mcRef 0 (mcVal (mC (.int 2)) (mcVal (mOp fIx (mVarF 3) (mUn fNeg (mC (.int 1)))) mcNil)))) (mgName 4)) m__law_rule_right_2))
def m__law_case_right_8 : MSTy := (mRet (mC (.bl true)))
def m__law_case_right_7 : MSTy := (mSeqC (mFor (miAny (mTup 3 (mCons (mCB fLen (mCons (mOp fIx (mVarF 2) (mC (.int 1))) mNil)) (mCons (mOp fSub (mC (.int 0)) (mC (.int 1))) (mCons (mOp fAdd (mCB fLen (mCons (mOp fIx (mVarF 2) (mC (.int 1))) mNil)) (mCall sp__law_roll [true, false] (mcRef 0 (mcVal (mC (.int 9)) mcNil)))) mNil))))) (mgName 6) (mSeq (mAsg (mCB fTuple (mCons (mFz (mLc (miRng1 (mC (.int 4))) (mgName 9) mtYes (mCall0 sp__law_told 4 (mCons (mVarF 9) (mCons (mVarF 2) (mCons (mVarF 6) (mCons (mTup 2 (mCons (mC (.int 2)) (mCons (mC (.int 3)) mNil))) mNil))))) [9])) mNil)) (mgName 7)) (mIf (mNot (mB (mCall0 sp__law_all_same 2 (mCons (mVarF 7) (mCons (mOp fMulT (mTup 1 (mCons (mTup 3 (mCons (mC (.str [114, 97, 105, 115, 101, 100])) (mCons (mC (.str [114, 117, 108, 101])) (mCons (mVarF 6) mNil)))) mNil)) (mC (.int 4))) mNil))))) (mRet (mC (.bl false))) mNext))) m__law_case_right_8)
def m__law_case_right_6 : MSTy := (mSeqC (mFor (miRng1 (mCB fLen (mCons (mOp fIx (mVarF 2) (mC (.int 1))) mNil))) (mgName 6) (mIf (mNot (mB (mCall sp__law_rule_right [true, false, false] (mcRef 0 (mcVal (mVarF 2) (mcVal (mVarF 6) mcNil)))))) (mRet (mC (.bl false))) mNext)) m__law_case_right_7)
def m__law_case_right_4 : MSTy := (mSeq (mAsg (mOp fSub (mCall0 sp__law_pieces 1 (mCons (mVarF 2) mNil)) (mCall0 sp__law_pieces 1 (mCons (mVarF 4) mNil))) (mgName 5)) (mSeqC (mIf (mNot (mB (mCall0 sp__law_all_same 2 (mCons (mTup 2 (mCons (mCall0 sp_lost_by_bounds 1 (mCons (mVarF 2) mNil)) (mCons (mCall0 sp_lost_by_bounds 1 (mPerm [0] (mApp 0 1 mNil (mCons (mVarF 4) mNil)))) mNil))) (mCons (mTup 2 (mCons (mVarF 5) (mCons (mC (.int 0)) mNil))) mNil))))) (mRet (mC (.bl false))) mNext) m__law_case_right_6))
def m__law_case_right_3 : MSTy := (mSeqC (mIf (mNot (mB (mCall0 sp__law_all_same 2 (mCons (mTup 2 (mCons (mCall0 sp_widest_case 1 (mCons (mVarF 2) mNil)) (mCons (mCall0 sp_widest_case 1 (mPerm [0] (mApp 0 1 mNil (mCons (mVarF 4) mNil)))) mNil))) (mCons (mTup 2 (mCons (mVarF 4) (mCons (mVarF 4) mNil))) mNil))))) (mRet (mC (.bl false))) mNext) m__law_case_right_4)
def m__law_case_right_2 : MSTy := (mSeqC (mAsg (mTup 3 (mCons (mOp fIx (mVarF 2) (mC (.int 0))) (mCons (mCB fTuple (mCons (mVarF 3) mNil)) (mCons (mOp fIx (mVarF 2) (mC (.int 2))) mNil)))) (mgName 4)) m__law_case_right_3)
def m__law_case_right_1 : MSTy := (mSeqC (mAsg (mFz (mLc (miAny (mOp fIx (mVarF 2) (mC (.int 1)))) (mgName 8) mtYes (mIfE (mB (mOp fEqA (mOp fIx (mVarF 8) (mC (.int 0))) (mC (.str [101, 108, 100, 101, 114])))) (mOp fAdd (mSl (mVarF 8) mNo (mPart (mUn fNeg (mC (.int 1))))) (mTup 1 (mCons (mC (.int 300)) mNil))) (mOp fAdd (mOp fAdd (mTup 2 (mCons (mC (.str [98, 97, 99, 107])) (mCons (mC (.int 300)) mNil))) (mSl (mVarF 8) (mPart (mC (.int 2))) (mPart (mUn fNeg (mC (.int 1)))))) (mTup 1 (mCons (mC (.int 300)) mNil)))) [8])) (mgName 3)) m__law_case_right_2)
def m__law_case_right : MSTy := (mSeqC (mAsg (mCall sp__law_case [true, false] (mcRef 0 (mcVal (mVarF 1) mcNil))) (mgName 2)) m__law_case_right_1)
def m__law_bounded_16 : MSTy := (mRet (mCall0 sp__law_all_same 2 (mCons (mTup 3 (mCons (mCall0 sp_least_wide 2 (mCons (mVarF 9) (mCons (mC (.int 0)) mNil))) (mCons (mCall0 sp_least_most 2 (mCons (mVarF 9) (mCons (mC (.int 0)) mNil))) (mCons (mCall0 sp_lost_by_bounds 1 (mCons (mVarF 9) mNil)) mNil)))) (mCons (mTup 3 (mCons (mVarF 1) (mCons (mVarF 1) (mCons (mC (.int 0)) mNil)))) mNil))))
def m__law_bounded_15 : MSTy := (mSeqC (mIf (mNot (mB (mCall0 sp__law_all_same 2 (mCons (mVarF 8) (mCons (mTup 3 (mCons (mTup 1 (mCons (mOp fAdd (mVarF 1) (mC (.int 1))) mNil)) (mCons (mC (.int 1)) (mCons (mOp fSub (mVarF 1) (mC (.int 1))) mNil)))) mNil))))) (mRet (mC (.bl false))) mNext) m__law_bounded_16)
def m__law_bounded_14 : MSTy := (mSeqC (mAsg (mTup 3 (mCons (mCall0 sp_pieces_by_wide 3 (mCons (mVarF 10) (mCons (mC (.int 0)) (mCons (mTup 1 (mCons (mVarF 1) mNil)) mNil)))) (mCons (mCall0 sp_least_wide 2 (mCons (mVarF 10) (mCons (mC (.int 0)) mNil))) (mCons (mCall0 sp_lost_by_bounds 1 (mCons (mVarF 10) mNil)) mNil)))) (mgName 8)) m__law_bounded_15)
def m__law_bounded_13 : MSTy := (mSeqC (mAsg (mCall0 sp__law_with 4 (mCons (mVarF 9) (mCons (mC (.int 0)) (mCons (mC (.int 0)) (mCons (mOp fAdd (mC (.int 1)) (mCall sp__law_roll [true, false] (mcRef 0 (mcVal (mOp fSub (mVarF 1) (mC (.int 1))) mcNil)))) mNil))))) (mgName 10)) m__law_bounded_14)
def m__law_bounded_11 : MSTy := (mSeq (mAsg (mTup 3 (mCons (mTup 0 mNil) (mCons (mTup 1 (mCons (mVarF 3) mNil)) (mCons (mOp fAdd (mVarF 2) (mVarF 2)) mNil)))) (mgName 9)) (mSeqC (mIf (mNot (mB (mCall0 sp__law_all_same 2 (mCons (mCall0 sp_pieces_by_wide 3 (mCons (mVarF 9) (mCons (mC (.int 0)) (mCons (mTup 2 (mCons (mVarF 1) (mCons (mOp fSub (mVarF 1) (mC (.int 1))) mNil))) mNil)))) (mCons (mTup 2 (mCons (mOp fAdd (mVarF 1) (mC (.int 1))) (mCons (mOp fMul (mC (.int 2)) (mVarF 1)) mNil))) mNil))))) (mRet (mC (.bl false))) mNext) m__law_bounded_13))
def m__law_bounded_10 : MSTy := (mSeqC (mIf (mNot (mB (mCall0 sp__law_all_same 2 (mCons (mVarF 8) (mCons (mTup 3 (mCons (mVarF 6) (mCons (mOp fSub (mCall0 sp__law_pieces 1 (mCons (mVarF 7) mNil)) (mC (.int 2))) (mCons (mCall0 sp__law_least 4 (mCons (mVarF 7) (mCons (mC (.int 0)) (mCons (mC (.int 2)) (mCons (mC (.int 0)) mNil))))) mNil)))) mNil))))) (mRet (mC (.bl false))) mNext) m__law_bounded_11)
def m__law_bounded_9 : MSTy := (mSeqC (mAsg (mTup 3 (mCons (mCall0 sp_pieces_by_most 3 (mCons (mVarF 7) (mCons (mC (.int 0)) (mCons (mVarF 5) mNil)))) (mCons (mCall0 sp_lost_by_bounds 1 (mCons (mVarF 7) mNil)) (mCons (mCall0 sp_least_most 2 (mCons (mVarF 7) (mCons (mC (.int 0)) mNil))) mNil)))) (mgName 8)) m__law_bounded_10)
def m__law_bounded_8 : MSTy := (mSeqC (mAsg (mCall0 sp__law_with 4 (mCons (mVarF 4) (mCons (mC (.int 0)) (mCons (mOp fAdd (mC (.int 2)) (mCall sp__law_roll [true, false] (mcRef 0 (mcVal (mOp fSub (mVarF 1) (mC (.int 2))) mcNil)))) (mCons (mC (.int 0)) mNil))))) (mgName 7)) m__law_bounded_9)
def m__law_bounded_7 : MSTy := (mSeqC (mIf (mNot (mB (mCall0 sp__law_all_same 2 (mCons (mCall0 sp_pieces_by_most 3 (mCons (mVarF 4) (mCons (mC (.int 0)) (mCons (mVarF 5) mNil)))) (mCons (mVarF 6) mNil))))) (mRet (mC (.bl false))) mNext) m__law_bounded_8)
def m__law_bounded_5 : MSTy := (mSeq (mAsg (mTupRg2 (mC (.int 2)) (mOp fAdd (mVarF 1) (mC (.int 2)))) (mgName 5)) (mSeqC (mAsg (mCB fTuple (mCons (mFz (mLc (miAny (mVarF 5)) (mgName 11) mtYes (mCall0 sp__law_pieces 1 (mCons (mCall0 sp__law_with 4 (mCons (mVarF 4) (mCons (mC (.int 0)) (mCons (mVarF 11) (mCons (mC (.int 0)) mNil))))) mNil)) [11])) mNil)) (mgName 6)) m__law_bounded_7))
def m__law_bounded_4 : MSTy := (mSeqC (mIf (mNot (mB (mCall0 sp__law_all_same 2 (mCons (mTup 3 (mCons (mCall0 sp_least_most 2 (mCons (mVarF 4) (mCons (mC (.int 0)) mNil))) (mCons (mCall0 sp_least_wide 2 (mCons (mVarF 4) (mCons (mC (.int 2)) mNil))) (mCons (mCall0 sp_least_most 2 (mCons (mVarF 4) (mCons (mC (.int 1)) mNil))) mNil)))) (mCons (mTup 3 (mCons (mVarF 1) (mCons (mC (.int 1)) (mCons (mC (.int 2)) mNil)))) mNil))))) (mRet (mC (.bl false))) mNext) m__law_bounded_5)
def m__law_bounded_3 : MSTy := (mSeqC (mAsg (mTup 3 (mCons (mTup 1 (mCons (mVarF 2) mNil)) (mCons (mTup 3 (mCons (mTup 4 (mCons (mC (.str [101, 108, 100, 101, 114])) (mCons (mC (.int 0)) (mCons (mC (.bl false)) (mCons (mC (.int 300)) mNil))))) (mCons (mTup 4 (mCons (mC (.str [101, 108, 100, 101, 114])) (mCons (mC (.int 0)) (mCons (mC (.bl true)) (mCons (mC (.int 2)) mNil))))) (mCons (mVarF 3) mNil)))) (mCons (mOp fAdd (mVarF 2) (mVarF 2)) mNil)))) (mgName 4)) m__law_bounded_4)
def m__law_bounded_2 : MSTy := (mSeqC (mAsg (mTup 5 (mCons (mC (.str [98, 97, 99, 107])) (mCons (mC (.int 300)) (mCons (mOp fEqA (mCall sp__law_roll [true, false] (mcRef 0 (mcVal (mC (.int 2)) mcNil))) (mC (.int 0))) (mCons (mC (.bl false)) (mCons (mC (.int 300)) mNil)))))) (mgName 3)) m__law_bounded_3)
def m__law_bounded_1 : MSTy := (mSeqC (mAsg (mSl (mC (.str [97, 98, 99, 100, 101, 102, 103, 104, 105, 106, 107, 108, 109, 110, 111, 112, 113, 114, 115, 116, 117])) mNo (mPart (mVarF 1))) (mgName 2)) m__law_bounded_2)
def m__law_bounded : MSTy := (mSeqC (mAsg (mOp fAdd (mC (.int 3)) (mCall sp__law_roll [true, false] (mcRef 0 (mcVal (mC (.int 8)) mcNil)))) (mgName 1)) m__law_bounded_1)
def m_law_7 : MSTy := (mSeq (mAsg (mTup 3 (mCons (mCall0 sp_pieces_by_most 3 (mCons (mVarF 4) (mCons (mC (.int 0)) (mCons (mTup 2 (mCons (mC (.int 2)) (mCons (mC (.int 9)) mNil))) mNil)))) (mCons (mCall0 sp_least_most 2 (mCons (mVarF 4) (mCons (mC (.int 0)) mNil))) (mCons (mCall0 sp_pieces_by_wide 3 (mCons (mVarF 6) (mCons (mC (.int 1)) (mCons (mTup 2 (mCons (mC (.int 1)) (mCons (mC (.int 300)) mNil))) mNil)))) mNil)))) (mgName 7)) (mRet (mCall0 sp__law_all_same 2 (mCons (mOp fAdd (mVarF 7) (mTup 2 (mCons (mCall0 sp_least_wide 2 (mCons (mVarF 6) (mCons (mC (.int 1)) mNil))) (mCons (mCall0 sp_lost_by_bounds 1 (mCons (mVarF 6) mNil)) mNil)))) (mCons (mTup 5 (mCons (mTup 2 (mCons (mC (.int 2)) (mCons (mC (.int 2)) mNil))) (mCons (mC (.int 2)) (mCons (mTup 2 (mCons (mC (.int 4)) (mCons (mC (.int 4)) mNil))) (mCons (mC (.int 1)) (mCons (mC (.int 0)) mNil)))))) mNil)))))
def m_law_3 : MSTy := (mSeq (mIf (mNot (mB (mCall sp__law_bounded [true] (mcRef 1 mcNil)))) (mRet (mC (.bl false))) mNext) (mSeq (mAsg (mTup 3 (mCons (mTup 1 (mCons (mC (.str [97, 98])) mNil)) (mCons (mTup 1 (mCons (mTup 4 (mCons (mC (.str [101, 108, 100, 101, 114])) (mCons (mC (.int 0)) (mCons (mC (.bl false)) (mCons (mC (.int 9)) mNil))))) mNil)) (mCons (mC (.str [97, 98, 97, 98])) mNil)))) (mgName 4)) (mSeq (mAsg (mTup 3 (mCons (mTup 4 (mCons (mC (.str [101, 108, 100, 101, 114])) (mCons (mC (.int 0)) (mCons (mC (.bl false)) (mCons (mC (.int 300)) mNil))))) (mCons (mTup 5 (mCons (mC (.str [98, 97, 99, 107])) (mCons (mC (.int 300)) (mCons (mC (.bl false)) (mCons (mC (.bl false)) (mCons (mC (.int 300)) mNil)))))) (mCons (mTup 4 (mCons (mC (.str [101, 108, 100, 101, 114])) (mCons (mC (.int 0)) (mCons (mC (.bl true)) (mCons (mC (.int 3)) mNil))))) mNil)))) (mgName 5)) (mSeqC (mAsg (mTup 3 (mCons (mTup 1 (mCons (mC (.str [97, 98, 99, 97, 98])) mNil)) (mCons (mVarF 5) (mCons (mC (.str [97, 98, 99, 98, 97, 97, 98, 97, 98])) mNil)))) (mgName 6)) m_law_7))))
def m_law_2 : MSTy := (mSeq (mFor (miRng1 (mC (.int 2))) (mgName 3) (mIf (mNot (mB (mCall sp__law_case_right [true, false] (mcRef 1 (mcVal (mAndV (mVarF 2) (mOp fEqA (mVarF 3) (mC (.int 1)))) mcNil))))) (mRet (mC (.bl false))) mNext)) m_law_3)
def m_law : MSTy := (mSeq (mSetW 1 (mCallW sp__law_reel [false] (mcVal (mVarF 0) mcNil))) (mSeqC (mAsg (mOp fEqA (mCall sp__law_roll [true, false] (mcRef 1 (mcVal (mC (.int 7)) mcNil))) (mC (.int 6))) (mgName 2)) m_law_2))
end Lw
end

-- text Wc_k39
section
set_option Elab.async false
set_option linter.all false
set_option maxRecDepth 100000
set_option maxHeartbeats 1000000
namespace Lw
open PySem PySem.Spec PyProof.Rows L2 Mi
theorem cml_r {i j : Int} (h1 : -(2 ^ 64) < j) (h2 : j < 2 ^ 64) : CMl i j := .inl (.inr ⟨h1, h2⟩)
theorem cml_l {i j : Int} (h1 : -(2 ^ 64) < i) (h2 : i < 2 ^ 64) : CMl i j := .inl (.inl ⟨h1, h2⟩)
theorem enum_get {ds : List D} {k : Nat} {d : D} (h : (enumD ds)[k]? = some d) : ∃ e, ds[k]? = some e ∧ d = .tup [.int (k : Int), e] := by
  have hk : k < ds.length := by
    have := (List.getElem?_eq_some_iff.mp h).1
    simpa [enumD] using this
  refine ⟨ds[k], List.getElem?_eq_getElem hk, ?_⟩
  simp [enumD, hk] at h
  exact h.symm
theorem enum_len {ds : List D} : (enumD ds).length = ds.length := by simp [enumD]
theorem atI_ex {α : Type} {xs : List α} {v : Int} (h : 0 ≤ v) (h2 : v < xs.length) : ∃ x, x ∈ xs ∧ atI xs v = some x := by
  obtain ⟨n, rfl⟩ : ∃ n : Nat, v = n := ⟨v.toNat, by omega⟩
  have h2 : n < xs.length := by omega
  exact ⟨xs[n], List.getElem_mem h2, atI_nn (List.getElem?_eq_getElem h2)⟩
theorem atI_all {α : Type} (P : α → Prop) {xs : List α} {v : Int} (h : 0 ≤ v) (h2 : v < xs.length) (hp : ∀ x ∈ xs, P x) : ∃ x, P x ∧ atI xs v = some x := by
  obtain ⟨x, hx, e⟩ := atI_ex h h2
  exact ⟨x, hp x hx, e⟩
theorem get_all {P : D → Prop} {l : List D} {i : Nat} {d : D} (h : l[i]? = some d) (hp : ∀ x ∈ l, P x) : P d := hp d (List.mem_of_getElem? h)
theorem map_get {α β : Type} {l : List α} {f : α → β} {i : Nat} {e : β} (h : (l.map f)[i]? = some e) : ∃ a, l[i]? = some a ∧ e = f a := by
  rw [List.getElem?_map] at h
  cases c : l[i]? with
  | none => rw [c] at h; cases h
  | some a => rw [c] at h; exact ⟨a, rfl, by simpa using h.symm⟩
theorem map_ix {α : Type} {l : List α} {f : α → D} {k : Nat} {a : α} (h : l[k]? = some a) : atI (l.map f) (k : Int) = some (f a) := by
  refine atI_nn ?_
  rw [List.getElem?_map, h]
  rfl
theorem ix_in {n : Nat} {v : Int} (h : 0 ≤ v) (h2 : v < n) : ixN n v = some v.toNat := by
  unfold ixN
  rw [if_pos h, if_pos h2]
def BigI (m : Nat) (d : D) : Prop := ∃ n : Nat, d = .int (n : Int) ∧ n ≤ m
def NI (v : Option D) : Prop := v = none ∨ ∃ i, v = some (.int i)
theorem cn_nats (l : List Nat) (h : l.length ≤ 100000) : Cn 5 (.tup (nats l)) := by
  refine ⟨by simpa [nats] using h, ?_⟩
  intro x hx
  obtain ⟨n, _, rfl⟩ := List.mem_map.mp hx
  trivial
theorem nats_fz (l : List Nat) : fzs (nats l) = true := by
  unfold fzs nats
  simp [D.fz]

theorem pl_up {d : D} (h : ∃ m, Cn m d) : match d with
    | .non => True
    | .bl _ => True
    | .int _ => True
    | .str _ => True
    | .tup ds => ds.length ≤ 100000 ∧ ∀ x ∈ ds, ∃ m, Cn m x
    | .lst ds => ds.length ≤ 100000 ∧ ∀ x ∈ ds, ∃ m, Cn m x
    | _ => False := by
  obtain ⟨n, h⟩ := h
  cases n with
  | zero => exact h.elim
  | succ n => cases d <;> first | trivial | exact h.elim | exact ⟨h.1, fun x hx => ⟨n, h.2 x hx⟩⟩
end Lw
end

-- text K39a
section
set_option Elab.async false
set_option linter.all false
set_option maxRecDepth 100000
set_option maxHeartbeats 1000000
namespace Lw
open PySem PySem.Spec PyProof.Rows L2 Mi
/-! ### slices -/
def sl (t : Tx) (a m : Nat) : Tx := (t.take (a + m)).drop a
theorem sl_cut {t : Tx} {a m : Nat} : cutD t (some (a : Int)) (some ((a : Int) + (m : Int))) = sl t a m := by
  rw [← Int.natCast_add, cutD_nn]
  rfl
theorem sl_get {t : Tx} {a m s : Nat} (h : s < m) : (sl t a m)[s]? = t[a + s]? := by
  unfold sl
  rw [List.getElem?_drop, List.getElem?_take_of_lt (by omega)]
theorem sl_len {t : Tx} {a m : Nat} : (sl t a m).length = min (a + m) t.length - a := by simp [sl]
def pc (t : Bool) (x : Tx) : Tx := match t with
  | true => x.reverse
  | false => x
def rv (t : Bool) (m s : Nat) : Nat := match t with
  | true => m - 1 - s
  | false => s
theorem plc_rv {t : Bool} {a m s : Nat} : plc t a m s = a + rv t m s := by cases t <;> rfl
theorem rv_lt {t : Bool} {m s : Nat} (h : s < m) : rv t m s < m := by cases t <;> simp only [rv] <;> omega
theorem rv_rv {t : Bool} {m s : Nat} (h : s < m) : rv t m (rv t m s) = s := by cases t <;> simp only [rv] <;> omega
theorem pc_len {t : Bool} {x : Tx} : (pc t x).length = x.length := by cases t <;> simp [pc]
theorem pc_get {t : Bool} {x : Tx} {s : Nat} (h : s < x.length) : (pc t x)[s]? = x[rv t x.length s]? := by
  cases t
  · rfl
  · simp only [pc, rv]
    rw [List.getElem?_reverse h]
theorem part_iff {text new : Tx} {t : Bool} {a i m : Nat} (hm : 0 < m) (h : i + m ≤ new.length) : sl text a m = pc t (sl new i m) ↔ (a + m ≤ text.length ∧ ∀ s, s < m → text[plc t a m s]? = new[i + s]?) := by
  have l1 : (sl new i m).length = m := by rw [sl_len]; omega
  have l2 : (pc t (sl new i m)).length = m := by rw [pc_len, l1]
  constructor
  · intro e
    have e2 := congrArg List.length e
    rw [l2, sl_len] at e2
    refine ⟨by omega, fun s hs => ?_⟩
    have e3 : (sl text a m)[rv t m s]? = (pc t (sl new i m))[rv t m s]? := by rw [e]
    rw [sl_get (rv_lt hs), pc_get (by rw [l1]; exact rv_lt hs), l1, rv_rv hs, sl_get hs] at e3
    rw [plc_rv]
    exact e3
  · rintro ⟨h1, h2⟩
    apply List.ext_getElem?
    intro k
    by_cases hk : k < m
    · rw [sl_get hk, pc_get (by rw [l1]; exact hk), l1, sl_get (rv_lt hk), ← h2 _ (rv_lt hk), plc_rv, rv_rv hk]
    · rw [List.getElem?_eq_none (by rw [sl_len]; omega), List.getElem?_eq_none (by rw [l2]; omega)]
theorem hb_elder {es : List Tx} {new : Tx} {e : Nat} {t : Bool} {mo : Int} {i m : Nat} (hm : 0 < m) (h : i + m ≤ new.length) (hmo : (m : Int) ≤ mo) : hb es new (.elder e t mo) i m = isIn (pc t (sl new i m)) (es.getD e []) := by
  have l2 : (pc t (sl new i m)).length = m := by rw [pc_len, sl_len]; omega
  rw [Bool.eq_iff_iff, hb_iff hm, isIn_iff, l2]
  have key : ∀ a, ((es.getD e []).drop a).take m = sl (es.getD e []) a m := by
    intro a
    unfold sl
    rw [List.drop_take]
    congr 1
    omega
  constructor
  · rintro ⟨a, _, ha⟩
    have g := ha 0 hm
    have g2 := ha (m - 1) (by omega)
    have g := g.1
    have g2 := g2.1
    have hl : a + m ≤ (es.getD e []).length := by
      have g : plc t a m 0 < (es.getD e []).length := g
      have g2 : plc t a m (m - 1) < (es.getD e []).length := g2
      cases t <;> simp only [plc] at g g2 <;> omega
    refine ⟨a, by omega, ?_⟩
    rw [key, part_iff hm h]
    exact ⟨hl, fun s hs => (ha s hs).2.1⟩
  · rintro ⟨a, _, ha⟩
    rw [key, part_iff hm h] at ha
    refine ⟨a, hmo, fun s hs => ⟨?_, ha.2 s hs, trivial⟩⟩
    show plc t a m s < (es.getD e []).length
    have := ha.1
    have := rv_lt (t := t) hs
    rw [plc_rv]
    omega
def lowB (w : Int) (t : Bool) (i m : Nat) : Int := match t with
  | true => (i : Int) - w + m - 1
  | false => (i : Int) - w
def highB (a t : Bool) (i m : Nat) : Int := match t || a with
  | true => (i : Int) - m
  | false => (i : Int) - 1
theorem near_all {w mo : Int} {ap t : Bool} {a i m : Nat} (hm : 0 < m) : (∀ s, s < m → near i s (plc t a m s) (.back w ap t mo)) ↔ (lowB w t i m ≤ a ∧ (a : Int) ≤ highB ap t i m) := by
  constructor
  · intro h
    have h0 := h 0 hm
    have h1 := h (m - 1) (by omega)
    simp only [near] at h0 h1
    cases t <;> cases ap <;> simp only [plc, lowB, highB, Bool.or_self, Bool.or_true, Bool.or_false, Bool.true_or, Bool.false_or, forall_const, false_implies, Bool.false_eq_true, and_true, true_implies] at h0 h1 ⊢ <;> omega
  · rintro ⟨h1, h2⟩ s hs
    simp only [near]
    cases t <;> cases ap <;> simp only [plc, lowB, highB, Bool.or_self, Bool.or_true, Bool.or_false, Bool.true_or, Bool.false_or, forall_const, false_implies, Bool.false_eq_true, and_true, true_implies] at h1 h2 ⊢ <;> omega
theorem hb_back {es : List Tx} {new : Tx} {w : Int} {ap t : Bool} {mo : Int} {i m : Nat} (hm : 0 < m) (h : i + m ≤ new.length) (hmo : (m : Int) ≤ mo) : hb es new (.back w ap t mo) i m = true ↔ ∃ a : Nat, (lowB w t i m ≤ a ∧ (a : Int) ≤ highB ap t i m) ∧ sl new a m = pc t (sl new i m) := by
  rw [hb_iff hm]
  constructor
  · rintro ⟨a, _, ha⟩
    have g : plc t a m 0 < new.length := (ha 0 hm).1
    have g2 : plc t a m (m - 1) < new.length := (ha (m - 1) (by omega)).1
    refine ⟨a, (near_all (mo := mo) hm).mp fun s hs => (ha s hs).2.2, ?_⟩
    rw [part_iff hm h]
    refine ⟨?_, fun s hs => (ha s hs).2.1⟩
    cases t <;> simp only [plc] at g g2 <;> omega
  · rintro ⟨a, hr, ha⟩
    rw [part_iff hm h] at ha
    refine ⟨a, hmo, fun s hs => ⟨?_, ha.2 s hs, (near_all (mo := mo) hm).mpr hr s hs⟩⟩
    show plc t a m s < new.length
    have := ha.1
    have := rv_lt (t := t) hs
    rw [plc_rv]
    omega
/-! ### walks -/
theorem wp_is_number : WpOk [false] 0 sp_is_number m_is_number := by
  rintro ds q x - ⟨d, rfl, hd, hq⟩
  have := pl_up hd
  cases d <;> first | exact this.elim | (repeat (first | exact hq | refine ⟨fun _ => ?_, fun h => ab_tf h⟩ | refine ⟨fun h => ab_ft h, fun _ => ?_⟩))
theorem rz {E : Es} {t : Tx} {d : D} (hd : d.fz = true) (he : E.ex ⟨12, [(2, d), (1, .str STRETCH)]⟩ [some (.str t), some d]) : mRaise2 12 1 2 (mCons (mC (.str [115, 116, 114, 101, 116, 99, 104])) (mCons (mVarF 1) mNil)) E [some (.str t), some d] := by
  conv => whnf
  rw [hd]
  exact he
theorem strOf_len {n : Nat} {xs : List D} (h : xs.length ≠ 2) : strOf n (.tup xs) = none := by
  unfold strOf
  split
  · rename_i a b e
    cases e
    exact absurd rfl h
  · rfl
theorem wp_check_stretch : WpOk [false, false] 0 sp_check_stretch m_check_stretch := by
  rintro ds q x - ⟨t, d, rfl, hd, hq⟩
  have hp := pl_up hd
  cases d with
  | tup xs =>
    obtain ⟨_, hx⟩ := hp
    have hz : (D.tup xs).fz = true := cn_fz hd
    clear hd
    match xs, hx, hz, hq with
    | [], _, hz, hq => (repeat (first | exact hq | refine ⟨fun _ => ?_, fun h => ab_tf h⟩ | refine ⟨fun h => ab_ft h, fun _ => ?_⟩ | (refine rz (t := t) hz ?_; exact hq)))
    | [_], _, hz, hq =>
      rw [strOf_len (by simp)] at hq
      (repeat (first | exact hq | refine ⟨fun _ => ?_, fun h => ab_tf h⟩ | refine ⟨fun h => ab_ft h, fun _ => ?_⟩ | (refine rz (t := t) hz ?_; exact hq)))
    | [a, b], hx, hz, hq =>
      have ha := hx a (by simp)
      have hb := hx b (by simp)
      have pa := pl_up ha
      have pb := pl_up hb
      refine ⟨fun h => ab_ft h, fun _ => ⟨fun h => ab_ft h, fun _ => ?_⟩⟩
      refine ⟨a, atI_nn (i := 0) rfl, a, rfl, ha, ?_⟩
      cases a with
      | int i =>
        refine ⟨fun h => ab_ft h, fun _ => ?_⟩
        refine ⟨b, atI_nn (i := 1) rfl, b, rfl, hb, ?_⟩
        cases b with
        | int j =>
          refine ⟨fun h => ab_ft h, fun _ => ?_⟩
          have e : strOf t.length (.tup [.int i, .int j]) = (match decide (0 ≤ i ∧ i < j ∧ j ≤ (t.length : Int)) with
            | true => some (i.toNat, j.toNat)
            | false => none) := rfl
          rw [e] at hq
          clear e
          refine ⟨.int i, atI_nn (i := 0) rfl, ⟨fun h0 => ⟨.int j, atI_nn (i := 1) rfl, ⟨fun h1 => ⟨fun h2 => ?_, fun h2 => ?_⟩, fun h1 => ⟨fun _ => ?_, fun h => ab_tf h⟩⟩⟩, fun h0 => ⟨fun _ => ?_, fun h => ab_tf h⟩⟩⟩
          · have h2 : (!decide (j ≤ (t.length : Int))) = true := h2
            rw [decide_eq_false (by intro z; simp at h2; omega)] at hq
            (repeat (first | exact hq | refine ⟨fun _ => ?_, fun h => ab_tf h⟩ | refine ⟨fun h => ab_ft h, fun _ => ?_⟩ | (refine rz (t := t) hz ?_; exact hq)))
          · have h2 : (!decide (j ≤ (t.length : Int))) = false := h2
            have h0 := of_decide_eq_true h0
            have h1 := of_decide_eq_true h1
            have h2 : j ≤ (t.length : Int) := by simpa using h2
            rw [decide_eq_true ⟨h0, h1, h2⟩] at hq
            have hq : q (.int (((j.toNat : Nat) : Int) - ((i.toNat : Nat) : Int))) _ := hq
            rw [Int.toNat_of_nonneg h0, Int.toNat_of_nonneg (by omega)] at hq
            exact ⟨.int j, atI_nn (i := 1) rfl, .int i, atI_nn (i := 0) rfl, hq⟩
          · have h1 := of_decide_eq_false h1
            rw [decide_eq_false (fun z => h1 z.2.1)] at hq
            exact hq
          · have h0 := of_decide_eq_false h0
            rw [decide_eq_false (fun z => h0 z.1)] at hq
            exact hq
        | _ => first | exact pb.elim | (repeat (first | exact hq | refine ⟨fun _ => ?_, fun h => ab_tf h⟩ | refine ⟨fun h => ab_ft h, fun _ => ?_⟩ | (refine rz (t := t) hz ?_; exact hq)))
      | _ => first | exact pa.elim | (repeat (first | exact hq | refine ⟨fun _ => ?_, fun h => ab_tf h⟩ | refine ⟨fun h => ab_ft h, fun _ => ?_⟩ | (refine rz (t := t) hz ?_; exact hq)))
    | _ :: _ :: _ :: r, _, hz, hq =>
      rw [strOf_len (by simp)] at hq
      refine ⟨fun h => ab_ft h, fun _ => ⟨fun _ => ?_, fun h => ?_⟩⟩
      · (repeat (first | exact hq | refine ⟨fun _ => ?_, fun h => ab_tf h⟩ | refine ⟨fun h => ab_ft h, fun _ => ?_⟩ | (refine rz (t := t) hz ?_; exact hq)))
      · have h : (!decide ((((r.length + 1 + 1 + 1) : Nat) : Int) = 2)) = false := h
        simp at h
        omega
  | _ => first | exact hp.elim | (repeat (first | exact hq | refine ⟨fun _ => ?_, fun h => ab_tf h⟩ | refine ⟨fun h => ab_ft h, fun _ => ?_⟩ | (refine rz (t := t) hz ?_; exact hq)))
theorem rD_fz (r : Rule) : (rD r).fz = true := by cases r <;> rfl
theorem wp_is_turning : WpOk [false] 0 sp_is_turning m_is_turning := by
  rintro ds q x - ⟨r, rfl, hq⟩
  cases r <;> exact ⟨_, rfl, hq⟩
abbrev HBE (es : List Tx) (rs : List Rule) (new : Tx) (k i m : Nat) (q : D → List D → Prop) (x : Er → List D → Prop) : Es := endsOf [false, false, false, false] [caseD es rs new, .int (k : Int), .int (i : Int), .int (m : Int)] q x
section
variable {es : List Tx} {rs : List Rule} {new : Tx} {k i m : Nat} {q : D → List D → Prop} {x : Er → List D → Prop}
theorem wl_hb10 {ρ7 : D} {part : Tx} {low high : Int} (hl : low ≤ 10000) (hh : -10000 ≤ high ∧ high ≤ 10000) (hm : m ≤ 1000)
    (ht : (∃ a : Nat, (low ≤ a ∧ (a : Int) ≤ high) ∧ sl new a m = part) → q (.bl true) [caseD es rs new, .int (k : Int), .int (i : Int), .int (m : Int)])
    (hf : (¬ ∃ a : Nat, (low ≤ a ∧ (a : Int) ≤ high) ∧ sl new a m = part) → q (.bl false) [caseD es rs new, .int (k : Int), .int (i : Int), .int (m : Int)]) :
    m__heard_by_10 (HBE es rs new k i m q x) [some (caseD es rs new), some (.int (k : Int)), some (.int (i : Int)), some (.int (m : Int)), some (.tup (es.map D.str)), some (.tup (rs.map rD)), some (.str new), some ρ7, some (.str part), some (.int low), some (.int high), none] := by
  have e0 : (fun (i j : Int) => if j > i then j else i) 0 low = ((low.toNat : Nat) : Int) := by
    show (if low > 0 then low else 0) = _
    split <;> omega
  refine ⟨⟨bd_of (by rw [e0]; omega) (by rw [e0]; omega), bd_of (by omega) (by omega)⟩, ?_⟩
  refine ⟨fun n ρ => (∃ v, ρ = [some (caseD es rs new), some (.int (k : Int)), some (.int (i : Int)), some (.int (m : Int)), some (.tup (es.map D.str)), some (.tup (rs.map rD)), some (.str new), some ρ7, some (.str part), some (.int low), some (.int high), v]) ∧ ∀ a : Nat, low ≤ a → a < low.toNat + n → sl new a m ≠ part, ⟨⟨_, rfl⟩, fun a h1 h2 => by omega⟩, ?_, ?_⟩
  · rintro n d ρ hd ⟨⟨v, rfl⟩, hn⟩
    rw [e0] at hd
    obtain ⟨hk, rfl⟩ := rng_get hd
    have hk : n < (high + 1 - ((low.toNat : Nat) : Int)).toNat := hk
    have e : ((low.toNat : Nat) : Int) + (n : Int) = ((low.toNat + n : Nat) : Int) := by omega
    rw [e]
    refine ⟨fun h => ?_, fun h => ?_⟩
    · have h : decide (cutD new (some ((low.toNat + n : Nat) : Int)) (some (((low.toNat + n : Nat) : Int) + (m : Int))) = part) = true := h
      rw [sl_cut] at h
      exact ht ⟨low.toNat + n, ⟨by omega, by omega⟩, of_decide_eq_true h⟩
    · have h : decide (cutD new (some ((low.toNat + n : Nat) : Int)) (some (((low.toNat + n : Nat) : Int) + (m : Int))) = part) = false := h
      rw [sl_cut] at h
      refine ⟨⟨_, rfl⟩, fun a h1 h2 => ?_⟩
      by_cases z : a = low.toNat + n
      · rw [z]; exact of_decide_eq_false h
      · exact hn a h1 (by omega)
  · rintro ρ ⟨⟨v, rfl⟩, hn⟩
    have e1 : (rngI ((fun (i j : Int) => if j > i then j else i) 0 low) (high + 1 - ((fun (i j : Int) => if j > i then j else i) 0 low)).toNat).length = (high + 1 - ((low.toNat : Nat) : Int)).toNat := by rw [rng_len, e0]
    have hn : ∀ a : Nat, low ≤ a → a < low.toNat + (rngI ((fun (i j : Int) => if j > i then j else i) 0 low) (high + 1 - ((fun (i j : Int) => if j > i then j else i) 0 low)).toNat).length → sl new a m ≠ part := hn
    rw [e1] at hn
    exact hf fun ⟨a, ⟨h1, h2⟩, h3⟩ => hn a h1 (by omega) h3
theorem wp__heard_by : WpOk [false, false, false, false] 8 sp__heard_by m__heard_by := by
  rintro ds q x - ⟨es, rs, new, k, i, m, r, rfl, C, hk, hm, him, hq⟩
  have hn := C.hn
  have ok := C.hru r (List.mem_of_getElem? hk)
  cases r with
  | elder e t mo =>
    have ok : e < es.length := ok
    refine ⟨rD (.elder e t mo), map_ix hk, .int mo, rfl, fun h => ?_, fun h => ?_⟩
    · have h : mo < (m : Int) := of_decide_eq_true h
      have : hb es new (.elder e t mo) i m = false := by
        cases z : hb es new (.elder e t mo) i m with
        | false => rfl
        | true =>
          obtain ⟨a, ha⟩ := (hb_iff hm).mp z
          have : (m : Int) ≤ mo := ha.1
          omega
      rw [this] at hq
      exact hq
    · have h : ¬ mo < (m : Int) := of_decide_eq_false h
      rw [hb_elder hm him (by omega), ← sl_cut] at hq
      refine ⟨fun ρ => ρ = [some (caseD es rs new), some (.int (k : Int)), some (.int (i : Int)), some (.int (m : Int)), some (.tup (es.map D.str)), some (.tup (rs.map rD)), some (.str new), some (rD (.elder e t mo)), some (.str (pc t (cutD new (some (i : Int)) (some ((i : Int) + (m : Int)))))), none, none, none], ?_, ?_⟩
      · refine ⟨.elder e t mo, rfl, fun h => ?_, fun h => ?_⟩ <;> (have h : t = _ := h; subst h; rfl)
      · rintro ρ rfl
        refine ⟨.str ELDER, rfl, fun _ => ?_, fun h => ab_tf h⟩
        refine ⟨.int (e : Int), rfl, .str es[e], map_ix (List.getElem?_eq_getElem ok), ?_, ?_⟩
        · intro z
          have := congrArg List.length z
          rw [sl_cut, pc_len, sl_len] at this
          simp at this
          omega
        · have e2 : es.getD e [] = es[e] := by simp [List.getD, ok]
          rw [e2] at hq
          exact hq
  | back w ap t mo =>
    have ok : 0 ≤ w ∧ w ≤ 1000 := ok
    refine ⟨rD (.back w ap t mo), map_ix hk, .int mo, rfl, fun h => ?_, fun h => ?_⟩
    · have h : mo < (m : Int) := of_decide_eq_true h
      have : hb es new (.back w ap t mo) i m = false := by
        cases z : hb es new (.back w ap t mo) i m with
        | false => rfl
        | true =>
          obtain ⟨a, ha⟩ := (hb_iff hm).mp z
          have : (m : Int) ≤ mo := ha.1
          omega
      rw [this] at hq
      exact hq
    · have h : ¬ mo < (m : Int) := of_decide_eq_false h
      have hbb := hb_back (es := es) (w := w) (ap := ap) (t := t) (mo := mo) hm him (by omega)
      refine ⟨fun ρ => ρ = [some (caseD es rs new), some (.int (k : Int)), some (.int (i : Int)), some (.int (m : Int)), some (.tup (es.map D.str)), some (.tup (rs.map rD)), some (.str new), some (rD (.back w ap t mo)), some (.str (pc t (cutD new (some (i : Int)) (some ((i : Int) + (m : Int)))))), none, none, none], ?_, ?_⟩
      · refine ⟨.back w ap t mo, rfl, fun h => ?_, fun h => ?_⟩ <;> (have h : t = _ := h; subst h; rfl)
      · rintro ρ rfl
        rw [sl_cut]
        refine ⟨.str BACK, rfl, fun h => ab_ft h, fun _ => ?_⟩
        refine ⟨.int w, rfl, fun ρ => ρ = [some (caseD es rs new), some (.int (k : Int)), some (.int (i : Int)), some (.int (m : Int)), some (.tup (es.map D.str)), some (.tup (rs.map rD)), some (.str new), some (rD (.back w ap t mo)), some (.str (pc t (sl new i m))), some (.int (lowB w t i m)), some (.int ((i : Int) - 1)), none], ?_, ?_⟩
        · refine ⟨.back w ap t mo, rfl, fun h => ?_, fun h => ?_⟩ <;> (have h : t = _ := h; subst h; rfl)
        · rintro ρ rfl
          refine ⟨fun ρ => ρ = [some (caseD es rs new), some (.int (k : Int)), some (.int (i : Int)), some (.int (m : Int)), some (.tup (es.map D.str)), some (.tup (rs.map rD)), some (.str new), some (rD (.back w ap t mo)), some (.str (pc t (sl new i m))), some (.int (lowB w t i m)), some (.int (highB ap t i m)), none], ?_, ?_⟩
          · refine ⟨.back w ap t mo, rfl, fun h => ?_, fun h => ⟨.bl ap, rfl, fun h2 => ?_, fun h2 => ?_⟩⟩
            · have h : t = _ := h
              subst h
              exact ⟨fun _ => rfl, fun h => ab_tf h⟩
            · have h : t = _ := h
              have h2 : ap = _ := h2
              subst h; subst h2; rfl
            · have h : t = _ := h
              have h2 : ap = _ := h2
              subst h; subst h2; rfl
          · rintro ρ rfl
            refine wl_hb10 ?_ ?_ (by omega) (fun z => ?_) (fun z => ?_)
            · cases t <;> simp only [lowB] <;> omega
            · cases t <;> cases ap <;> simp only [highB, Bool.or_self, Bool.or_true, Bool.or_false, Bool.true_or, Bool.false_or] <;> omega
            · rw [hbb.mpr z] at hq
              exact hq
            · have : hb es new (.back w ap t mo) i m = false := by
                cases y : hb es new (.back w ap t mo) i m with
                | false => rfl
                | true => exact absurd (hbb.mp y) z
              rw [this] at hq
              exact hq
end
end Lw
end

-- text K39b
section
set_option Elab.async false
set_option linter.all false
set_option maxRecDepth 100000
set_option maxHeartbeats 1000000
namespace Lw
open PySem PySem.Spec PyProof.Rows L2 Mi
theorem st_cn (p : Nat × Nat) : Cn 2 (stD p) := ⟨by simp, fun x hx => by
  simp only [List.mem_cons, List.not_mem_nil, or_false] at hx
  rcases hx with rfl | rfl <;> trivial⟩
theorem st_fz (p : Nat × Nat) : (stD p).fz = true := rfl
theorem str_st {n i j : Nat} (h : i < j) (h2 : j ≤ n) : strOf n (stD (i, j)) = some (i, j) := by
  show (match decide (0 ≤ (i : Int) ∧ (i : Int) < (j : Int) ∧ (j : Int) ≤ (n : Int)) with
    | true => some ((i : Int).toNat, (j : Int).toNat)
    | false => none) = _
  rw [decide_eq_true ⟨by omega, by omega, by omega⟩]
  rfl
theorem str_some {n i j : Nat} {d : D} (h : strOf n d = some (i, j)) : d = stD (i, j) ∧ i < j ∧ j ≤ n := by
  unfold strOf at h
  split at h
  · rename_i a b
    split at h
    · rename_i z
      have z := of_decide_eq_true z
      simp only [Option.some.injEq, Prod.mk.injEq] at h
      obtain ⟨h1, h2⟩ := h
      obtain ⟨n, rfl⟩ : ∃ n : Nat, a = n := ⟨a.toNat, by omega⟩
      obtain ⟨m, rfl⟩ : ∃ n : Nat, b = n := ⟨b.toNat, by omega⟩
      have h1 : n = i := by simpa using h1
      have h2 : m = j := by simpa using h2
      subst h1; subst h2
      exact ⟨rfl, by omega, by omega⟩
    · cases h
  · cases h
/-- a list of given things, filtered and mapped by a comprehension -/
theorem lc_map {α : Type} {mg : MGTy} {mt : MTTy} {me : METy} {vs : List Nat} {l : List α} {f : α → D} {ρ1 : Mi.Env} {q : List D → Mi.Env → Prop} (g : α → Bool) (e : α → D)
    (h : ∀ (k : Nat) a, l[k]? = some a → ∀ (A : D → Mi.Env → Prop) (B : Mi.Env → Prop), (∀ ρ4, back ρ4 ρ1 vs = ρ1 → g a = true → A (e a) ρ4) → (∀ ρ3, back ρ3 ρ1 vs = ρ1 → g a = false → B ρ3) →
      mg (f a) (wipeE ρ1 vs) (fun ρ2 => mt ρ2 (fun c ρ3 => (c = true → me ρ3 A FE) ∧ (c = false → B ρ3)) FE))
    (hn : l.length < 16777216) (hq : q ((l.filter g).map e) ρ1) : LcW mg mt me vs (l.map f) ρ1 q := by
  refine ⟨fun k acc ρ => ρ = ρ1 ∧ acc = ((l.take k).filter g).map e, ⟨rfl, rfl⟩, ?_, by rw [List.length_map]; exact hn, ?_⟩
  · rintro k d acc ρ hd ⟨rfl, rfl⟩
    obtain ⟨a, ha, rfl⟩ := map_get hd
    have hs : l.take (k + 1) = l.take k ++ [a] := by
      rw [List.take_add_one, ha]
      rfl
    refine h k a ha _ _ (fun ρ4 hb hg => ⟨hb, ?_⟩) (fun ρ3 hb hg => ⟨hb, ?_⟩)
    · rw [hs, List.filter_append, List.map_append]
      simp [List.filter, hg]
    · rw [hs, List.filter_append, List.map_append]
      simp [List.filter, hg]
  · rintro acc ρ ⟨rfl, rfl⟩
    rw [List.length_map, List.take_length]
    exact hq
theorem wp_is_heard : WpOk [false, false] 2 sp_is_heard m_is_heard := by
  rintro ds q x - ⟨es, rs, new, d, rfl, C, hd, hq⟩
  have hn := C.hn
  have hr := C.hr
  have hz := cn_fz hd
  refine ⟨.str new, rfl, ?_⟩
  conv => whnf
  rw [hz]
  refine ⟨new, d, rfl, hd, ?_⟩
  cases e0 : strOf new.length d with
  | none =>
  rw [e0] at hq
  exact hq
  | some p =>
  obtain ⟨i, j⟩ := p
  rw [e0] at hq
  obtain ⟨rfl, hij, hj⟩ := str_some e0
  have hq : q (.bl (heard es rs new i j)) [caseD es rs new, stD (i, j)] := hq
  show (fun d => _) (D.int ((j : Int) - (i : Int)))
  rw [show (j : Int) - (i : Int) = ((j - i : Nat) : Int) by omega]
  refine ⟨fun h => ?_, fun h => ?_⟩
  · have h : decide (((j - i : Nat) : Int) = 1) = true := h
    have h := of_decide_eq_true h
    have : heard es rs new i j = true := by
      unfold heard
      rw [decide_eq_true (by omega), Bool.true_or]
    rw [this] at hq
    exact hq
  · have h : decide (((j - i : Nat) : Int) = 1) = false := h
    have h := of_decide_eq_false h
    have e : heard es rs new i j = rs.any fun r => hb es new r i (j - i) := by
      unfold heard
      rw [decide_eq_false (by omega), Bool.false_or]
    rw [e] at hq
    refine ⟨.tup (rs.map rD), rfl, bd_of (by rw [List.length_map]; omega) (by rw [List.length_map]; omega), ?_⟩
    refine ⟨fun n ρ => (∃ v, ρ = [some (caseD es rs new), some (stD (i, j)), some (.int ((j - i : Nat) : Int)), v]) ∧ ∀ (k : Nat) r, k < n → rs[k]? = some r → hb es new r i (j - i) = false, ⟨⟨_, rfl⟩, fun k r h => absurd h (by omega)⟩, ?_, ?_⟩
    · rintro n d ρ hd ⟨⟨v, rfl⟩, hk⟩
      obtain ⟨hd1, rfl⟩ := rng0_get hd
      have hd : n < rs.length := by
        have hd : n < (((rs.map rD).length : Nat) : Int).toNat := hd1
        rw [List.length_map] at hd
        omega
      refine ⟨.int (i : Int), rfl, es, rs, new, n, i, j - i, rs[n], rfl, C, List.getElem?_eq_getElem hd, by omega, by omega, fun h => ?_, fun h => ?_⟩
      · have h : hb es new rs[n] i (j - i) = true := h
        have : (rs.any fun r => hb es new r i (j - i)) = true := List.any_eq_true.mpr ⟨_, List.getElem_mem hd, h⟩
        rw [this] at hq
        exact hq
      · have h : hb es new rs[n] i (j - i) = false := h
        refine ⟨⟨_, rfl⟩, fun k r h1 h2 => ?_⟩
        by_cases z : k = n
        · subst z
          rw [List.getElem?_eq_getElem hd] at h2
          cases h2
          exact h
        · exact hk k r (by omega) h2
    · rintro ρ ⟨⟨v, rfl⟩, hk⟩
      have hk : ∀ (k : Nat) r, k < (rngI 0 (((rs.map rD).length : Nat) : Int).toNat).length → rs[k]? = some r → hb es new r i (j - i) = false := hk
      have : (rs.any fun r => hb es new r i (j - i)) = false := by
        rw [List.any_eq_false]
        intro r hr
        obtain ⟨k, hk1, rfl⟩ := List.getElem_of_mem hr
        rw [hk k _ (by rw [rng_len, List.length_map]; omega) (List.getElem?_eq_getElem hk1)]
        simp
      rw [this] at hq
      exact hq
theorem nats_map_succ (f : Nat → Nat) (n : Nat) : nats ((List.range (n + 1)).map f) = nats ((List.range n).map f) ++ [.int (f n : Int)] := by
  simp [nats, List.range_succ]
theorem max_int (e n : Nat) : (fun (i j : Int) => if j > i then j else i) (e : Int) ((n : Int) + 1) = ((max e (n + 1) : Nat) : Int) := by
  show (if (n : Int) + 1 > (e : Int) then (n : Int) + 1 else (e : Int)) = _
  split <;> omega
theorem wp_reach_table : WpOk [false] 4 sp_reach_table m_reach_table := by
  rintro ds q x - ⟨es, rs, new, rfl, C, hq⟩
  have hn := C.hn
  have c := clo_heard es rs new
  refine ⟨.str new, rfl, bd_of (by omega) (by omega), ?_⟩
  refine ⟨fun n ρ => ∃ e : Nat, ∃ v, ρ = [some (caseD es rs new), some (.str new), some (.mls (nats ((List.range n).map (reach es rs new)))), some (.int (e : Int)), v] ∧ e ≤ new.length ∧ (n < e → heard es rs new n e = true), ⟨0, none, rfl, by omega, fun h => absurd h (by omega)⟩, ?_, ?_⟩
  · rintro n d ρ hd ⟨e, v, rfl, he, hh⟩
    obtain ⟨hd1, rfl⟩ := rng0_get hd
    have hd : n < new.length := by
      have hd : n < ((new.length : Nat) : Int).toNat := hd1
      omega
    refine ⟨fun t ρ => ∃ e : Nat, ρ = [some (caseD es rs new), some (.str new), some (.mls (nats ((List.range n).map (reach es rs new)))), some (.int (e : Int)), some (.int (n : Int))] ∧ n < e ∧ e ≤ new.length ∧ heard es rs new n e = true ∧ t = new.length - e, ⟨_, max e (n + 1), by rw [← max_int]; rfl, by omega, by omega, ?_, rfl⟩, ?_⟩
    · by_cases z : e ≤ n + 1
      · rw [Nat.max_eq_right z]; exact c.one n
      · rw [Nat.max_eq_left (by omega)]; exact hh (by omega)
    · rintro t ρ ⟨e, rfl, h1, h2, h3, rfl⟩
      have fin : (e = new.length ∨ heard es rs new n (e + 1) = false) → reach es rs new n = e := fun z => rch_eq c ⟨h1, h2, h3, z⟩
      have app : reach es rs new n = e → (nats ((List.range n).map (reach es rs new))).length < 16777216 ∧ (∃ e' : Nat, ∃ v, [some (caseD es rs new), some (.str new), some (.mls (nats ((List.range n).map (reach es rs new)) ++ [.int (e : Int)])), some (.int (e : Int)), some (.int (n : Int))] = [some (caseD es rs new), some (.str new), some (.mls (nats ((List.range (n + 1)).map (reach es rs new)))), some (.int (e' : Int)), v] ∧ e' ≤ new.length ∧ (n + 1 < e' → heard es rs new (n + 1) e' = true)) := by
        intro z
        refine ⟨by simp [nats]; omega, e, some (.int (n : Int)), ?_, h2, fun y => c.sub h3 (by omega) y (Nat.le_refl _)⟩
        rw [nats_map_succ, z]
      refine ⟨fun h => ?_, fun h => ⟨fun h => ab_ft h, fun _ => ?_⟩⟩
      · have h := of_decide_eq_true (show decide ((e : Int) < (new.length : Int)) = true from h)
        refine ⟨es, rs, new, stD (n, e + 1), rfl, C, ⟨2, st_cn _⟩, ?_⟩
        rw [str_st (by omega) (by omega)]
        refine ⟨fun h4 => ?_, fun h4 => ?_⟩
        · exact ⟨new.length - (e + 1), by omega, e + 1, rfl, by omega, by omega, h4, rfl⟩
        · exact app (fin (.inr h4))
      · have h := of_decide_eq_false (show decide ((e : Int) < (new.length : Int)) = false from h)
        exact app (fin (.inl (by omega)))
  · rintro ρ ⟨e, v, rfl, he, hh⟩
    have e1 : (rngI 0 ((new.length : Nat) : Int).toNat).length = new.length := by rw [rng_len]; omega
    rw [e1]
    exact ⟨nats_fz _, hq⟩
theorem nats_ix {f : Nat → Nat} {n k : Nat} (h : k < n) : (nats ((List.range n).map f))[k]? = some (.int (f k : Int)) := by
  simp [nats, h]
theorem nats_ix' {f : Nat → Nat} {n k : Nat} {d : D} (h : (nats ((List.range n).map f))[k]? = some d) : k < n ∧ d = .int (f k : Int) := by
  have hk : k < n := by
    have := (List.getElem?_eq_some_iff.mp h).1
    simpa [nats] using this
  rw [nats_ix hk] at h
  exact ⟨hk, by simpa using h.symm⟩
theorem sts_fz (l : List (Nat × Nat)) : fzs (l.map stD) = true := by
  unfold fzs
  simp [st_fz]
end Lw
end

-- text K39c
section
set_option Elab.async false
set_option linter.all false
set_option maxRecDepth 100000
set_option maxHeartbeats 1000000
namespace Lw
open PySem PySem.Spec PyProof.Rows L2 Mi
def AllL {α : Type} (P : α → Prop) : List α → Prop
  | [] => True
  | x :: xs => P x ∧ AllL P xs
theorem allL_mem {α : Type} {P : α → Prop} : ∀ {xs : List α}, AllL P xs → ∀ x ∈ xs, P x
  | [], _, _, h => nomatch h
  | x :: xs, hp, y, h => by
    rcases List.mem_cons.mp h with rfl | h
    · exact hp.1
    · exact allL_mem hp.2 y h
theorem atI_al {α : Type} (P : α → Prop) {xs : List α} {v : Int} (h : 0 ≤ v) (h2 : v < xs.length) (hp : AllL P xs) : ∃ x, P x ∧ atI xs v = some x := atI_all P h h2 (allL_mem hp)
theorem bigI {m : Nat} (n : Nat) (h : n ≤ m) : BigI m (.int (n : Int)) := ⟨n, rfl, h⟩
theorem bigI' {m : Nat} {i : Int} (h : 0 ≤ i) (h2 : i ≤ m) : BigI m (.int i) := ⟨i.toNat, by rw [Int.toNat_of_nonneg h], by omega⟩
theorem reach_gt {es : List Tx} {rs : List Rule} {new : Tx} {i : Nat} (h : i < new.length) : i < reach es rs new i ∧ reach es rs new i ≤ new.length := by
  obtain ⟨h1, h2, _, _⟩ := rch_ok (n := new.length) (clo_heard es rs new) h
  exact ⟨h1, h2⟩
theorem gr_len (f : Nat → Nat) (n : Nat) : ∀ k a, (gr f n k a).length ≤ k
  | 0, _ => by simp [gr]
  | k + 1, a => by
    unfold gr
    split
    · rw [List.length_cons]
      have := gr_len f n k (f a)
      omega
    · simp
theorem gr_stop {f : Nat → Nat} {n k a : Nat} (h : (decide (a < n) && decide (f a < n)) = false) : gr f n k a = [] := by
  cases k with
  | zero => rfl
  | succ k => unfold gr; rw [h]
theorem st_gr {f : Nat → Nat} {n : Nat} (hf : ∀ i, i < n → i < f i ∧ f i ≤ n) : ∀ k a, a < n → n - a ≤ k → st f n k a = (gr f n k a).length + 1
  | 0, a, h, h2 => absurd h2 (by omega)
  | k + 1, a, h, h2 => by
    obtain ⟨h3, h4⟩ := hf a h
    unfold st gr
    rw [decide_eq_true h]
    by_cases z : f a < n
    · rw [decide_eq_true z]
      show st f n k (f a) + 1 = (gr f n k (f a)).length + 1 + 1
      rw [st_gr hf k (f a) z (by omega)]
    · rw [decide_eq_false z]
      show st f n k (f a) + 1 = 0 + 1
      have : st f n k (f a) = 0 := by
        cases k with
        | zero => rfl
        | succ k => unfold st; rw [decide_eq_false z]
      rw [this]
theorem wp_greedy_cuts : WpOk [false] 3 sp_greedy_cuts m_greedy_cuts := by
  rintro ds q x - ⟨es, rs, new, rfl, C, hq⟩
  have hn := C.hn
  have nl : ((nats ((List.range new.length).map (reach es rs new))).length : Int) = (new.length : Int) := by simp [nats]
  refine ⟨es, rs, new, rfl, C, ?_⟩
  refine ⟨fun t ρ => ∃ (pre : List Nat) (a : Nat), ρ = [some (caseD es rs new), some (.tup (nats ((List.range new.length).map (reach es rs new)))), some (.mls (nats pre)), some (.int (a : Int))] ∧ gr (reach es rs new) new.length new.length 0 = pre ++ gr (reach es rs new) new.length t a ∧ new.length - a ≤ t, ⟨new.length, [], 0, rfl, rfl, by omega⟩, ?_⟩
  rintro t ρ ⟨pre, a, rfl, hg, ht⟩
  have fin : (decide (a < new.length) && decide (reach es rs new a < new.length)) = false → fzs (nats pre) = true ∧ q (.tup (nats pre)) [caseD es rs new] := by
    intro z
    rw [gr_stop z, List.append_nil] at hg
    rw [← hg]
    exact ⟨nats_fz _, hq⟩
  refine ⟨fun h => ?_, fun h => ⟨fun h => ab_ft h, fun _ => ?_⟩⟩
  · have h := of_decide_eq_true (show decide ((a : Int) < ((nats ((List.range new.length).map (reach es rs new))).length : Int)) = true from h)
    have h : a < new.length := by omega
    have hr := reach_gt (es := es) (rs := rs) (new := new) h
    have ia : atI (nats ((List.range new.length).map (reach es rs new))) (a : Int) = some (.int (reach es rs new a : Int)) := atI_nn (nats_ix h)
    refine ⟨.int (reach es rs new a : Int), ia, fun h2 => ?_, fun h2 => ?_⟩
    · have h2 := of_decide_eq_true (show decide ((reach es rs new a : Int) < ((nats ((List.range new.length).map (reach es rs new))).length : Int)) = true from h2)
      have h2 : reach es rs new a < new.length := by omega
      have pl : pre.length ≤ new.length := by
        have := congrArg List.length hg
        rw [List.length_append] at this
        have := gr_len (reach es rs new) new.length new.length 0
        omega
      cases t with
      | zero => omega
      | succ t =>
        refine ⟨.int (reach es rs new a : Int), ia, by simp [nats]; omega, t, by omega, pre ++ [reach es rs new a], reach es rs new a, ?_, ?_, by omega⟩
        · simp only [nats, List.map_append]
          rfl
        · rw [hg]
          show pre ++ (match decide (a < new.length) && decide (reach es rs new a < new.length) with
            | true => reach es rs new a :: gr (reach es rs new) new.length t (reach es rs new a)
            | false => []) = _
          rw [decide_eq_true h, decide_eq_true h2]
          simp
    · have h2 := of_decide_eq_false (show decide ((reach es rs new a : Int) < ((nats ((List.range new.length).map (reach es rs new))).length : Int)) = false from h2)
      exact fin (by rw [decide_eq_false (show ¬ reach es rs new a < new.length by omega), Bool.and_false])
  · have h := of_decide_eq_false (show decide ((a : Int) < ((nats ((List.range new.length).map (reach es rs new))).length : Int)) = false from h)
    exact fin (by rw [decide_eq_false (show ¬ a < new.length by omega), Bool.false_and])
theorem wp_fewest_count : WpOk [false] 0 sp_fewest_count m_fewest_count := by
  rintro ds q x - ⟨es, rs, new, rfl, C, hq⟩
  refine ⟨es, rs, new, rfl, C, ?_⟩
  have e : (nats (gr (reach es rs new) new.length new.length 0)).length = (gr (reach es rs new) new.length new.length 0).length := by simp [nats]
  rw [← e] at hq
  exact hq
theorem wp_piece_count : WpOk [false] 0 sp_piece_count m_piece_count := by
  rintro ds q x - ⟨es, rs, new, rfl, C, hq⟩
  refine ⟨.str new, rfl, fun h => ?_, fun h => ?_⟩
  · have h := of_decide_eq_true (show decide (new = []) = true from h)
    subst h
    exact hq
  · have h := of_decide_eq_false (show decide (new = []) = false from h)
    have hpos : 0 < new.length := List.length_pos_iff.mpr h
    refine ⟨es, rs, new, rfl, C, ?_⟩
    have e := st_gr (f := reach es rs new) (n := new.length) (fun i hi => reach_gt hi) new.length 0 hpos (by omega)
    unfold pcs at hq
    rw [e] at hq
    exact hq
theorem wp__law_pieces : WpOk [false] 3 sp__law_pieces m__law_pieces := by
  rintro ds q x - ⟨es, rs, new, rfl, C, hq⟩
  have nl : ((nats ((List.range new.length).map (reach es rs new))).length : Int) = (new.length : Int) := by simp [nats]
  refine ⟨es, rs, new, rfl, C, ?_⟩
  refine ⟨fun t ρ => ∃ (k a : Nat), ρ = [some (caseD es rs new), some (.lst (nats ((List.range new.length).map (reach es rs new)))), some (.int (a : Int)), some (.int (k : Int))] ∧ st (reach es rs new) new.length new.length 0 = k + st (reach es rs new) new.length t a ∧ new.length - a ≤ t, ⟨new.length, 0, 0, rfl, by omega, by omega⟩, ?_⟩
  rintro t ρ ⟨k, a, rfl, hs, ht⟩
  refine ⟨fun h => ?_, fun h => ?_⟩
  · have h := of_decide_eq_true (show decide ((a : Int) < ((nats ((List.range new.length).map (reach es rs new))).length : Int)) = true from h)
    have h : a < new.length := by omega
    have hr := reach_gt (es := es) (rs := rs) (new := new) h
    cases t with
    | zero => omega
    | succ t =>
      refine ⟨.int (reach es rs new a : Int), atI_nn (nats_ix h), t, by omega, k + 1, reach es rs new a, rfl, ?_, by omega⟩
      rw [hs]
      show k + (match decide (a < new.length) with
        | true => st (reach es rs new) new.length t (reach es rs new a) + 1
        | false => 0) = _
      rw [decide_eq_true h]
      show k + (st (reach es rs new) new.length t (reach es rs new a) + 1) = k + 1 + st (reach es rs new) new.length t (reach es rs new a)
      omega
  · have h := of_decide_eq_false (show decide ((a : Int) < ((nats ((List.range new.length).map (reach es rs new))).length : Int)) = false from h)
    have z : st (reach es rs new) new.length t a = 0 := by
      cases t with
      | zero => rfl
      | succ t => unfold st; rw [decide_eq_false (show ¬ a < new.length by omega)]
    rw [z] at hs
    have hq : q (.int ((st (reach es rs new) new.length new.length 0 : Nat) : Int)) [caseD es rs new] := hq
    rw [hs] at hq
    exact hq
end Lw
end

-- text K39d
section
set_option Elab.async false
set_option linter.all false
set_option maxRecDepth 100000
set_option maxHeartbeats 1000000
namespace Lw
open PySem PySem.Spec PyProof.Rows L2 Mi
theorem filt_all {α : Type} (l : List α) : l.filter (fun _ => true) = l := List.filter_eq_self.mpr fun _ _ => rfl
theorem inz_fz (l : List Int) : fzs (inz l) = true := List.all_eq_true.mpr fun y hy => by
  obtain ⟨p, _, rfl⟩ := List.mem_map.mp hy
  rfl
theorem lcw_eq {mg : MGTy} {mt : MTTy} {me : METy} {vs : List Nat} {ds ds' : List D} {ρ1 : Mi.Env} {q : List D → Mi.Env → Prop} (e : ds = ds') (h : LcW mg mt me vs ds' ρ1 q) : LcW mg mt me vs ds ρ1 q := by
  rw [e]
  exact h
theorem wp__law_reel : WpOk [false] 1 sp__law_reel m__law_reel := by
  rintro ds q x - ⟨ns, rfl, hq⟩
  have e : cutD (inz ns) none (some 63) = inz (ns.take 63) := by
    rw [cutD_hi (by decide)]
    exact (List.map_take ..).symm
  refine lcw_eq e ?_
  refine lc_map (l := ns.take 63) (f := D.int) (fun _ => true) D.int ?_ (by rw [List.length_take]; omega) ?_
  · intro k c hc A B hA hB
    exact ⟨fun _ => hA _ rfl rfl, fun h => ab_tf h⟩
  · rw [filt_all]
    refine hq _ ⟨ns.take 63, 0, 0, 20011, 0, rfl, by decide, by decide, by decide, by decide, by decide, ?_⟩
    rw [List.length_take]
    omega
theorem wp__law_roll : WpOk [true, false] 2 sp__law_roll m__law_roll := by
  rintro ds q x - ⟨d, n, m, rfl, ⟨cs, p, l, s, t, rfl, hp, hl, hs, ht, hn, hc⟩, hm, hm2, hq⟩
  refine ⟨.int t, atI_nn (i := 4) rfl, rfl, 4, rfl, ?_⟩
  refine ⟨fun ρ => ∃ p l s v2, ρ = [some (.mls [.lst (inz cs), .int p, .int l, .int s, .int (t + 1)]), some (.int m), v2, none] ∧ 0 ≤ p ∧ 0 ≤ l ∧ 0 ≤ s, ?_, ?_⟩
  · have keep : ∃ p' l' s' v2, [some (D.mls [.lst (inz cs), .int p, .int l, .int s, .int (t + 1)]), some (.int m), none, none] = [some (.mls [.lst (inz cs), .int p', .int l', .int s', .int (t + 1)]), some (.int m), v2, none] ∧ 0 ≤ p' ∧ 0 ≤ l' ∧ 0 ≤ s' := ⟨p, l, s, none, rfl, hp, hl, hs⟩
    refine ⟨.int l, atI_nn (i := 2) rfl, rfl, fun h => ?_, fun h => ⟨fun h => ab_ft h, fun _ => keep⟩⟩
    refine ⟨.int p, atI_nn (i := 1) rfl, rfl, .lst (inz cs), atI_nn (i := 0) rfl, rfl, fun h1 => ?_, fun h1 => keep⟩
    have h1 : p < ((inz cs).length : Nat) := of_decide_eq_true h1
    rw [show (inz cs).length = cs.length from List.length_map ..] at h1
    obtain ⟨k, rfl⟩ : ∃ k : Nat, p = k := ⟨p.toNat, by omega⟩
    have hk : k < cs.length := by omega
    have hg : atI (inz cs) (k : Int) = some (.int cs[k]) := map_ix (List.getElem?_eq_getElem hk)
    refine ⟨.lst (inz cs), atI_nn (i := 0) rfl, rfl, .int (k : Int), atI_nn (i := 1) rfl, rfl, .int cs[k], hg, ?_⟩
    obtain ⟨a, ea⟩ : ∃ a : Int, (if cs[k] < 0 then -cs[k] else cs[k]) = a := ⟨_, rfl⟩
    have ha : 0 ≤ a := by rw [← ea]; split <;> omega
    subst ea
    refine ⟨.int (k : Int), atI_nn (i := 1) rfl, rfl, 1, rfl, ?_⟩
    refine ⟨.int s, atI_nn (i := 3) rfl, rfl, cml_r (by decide) (by decide), (by decide : (0 : Int) < 32452867), cml_r (by decide) (by decide), .int (t + 1), atI_nn (i := 4) rfl, rfl, (by decide : (0 : Int) < 2147483137), 3, rfl, ?_⟩
    have hs' : ∀ z : Int, 0 ≤ z % 2147483137 := fun z => Int.emod_nonneg _ (by decide)
    refine ⟨⟨by decide, by decide, by decide⟩, fun h2 => ?_, fun h2 => ?_⟩
    · refine ⟨2, rfl, (k : Int) + 1, _, _, _, rfl, by omega, ha, hs' _⟩
    · exact ⟨(k : Int) + 1, l, _, _, rfl, by omega, hl, hs' _⟩
  · rintro ρ ⟨p, l, s, v2, rfl, hp, hl, hs⟩
    refine ⟨.int l, atI_nn (i := 2) rfl, rfl, fun h => ?_, fun h => ?_⟩
    · refine ⟨.int l, atI_nn (i := 2) rfl, rfl, hm, .int l, atI_nn (i := 2) rfl, rfl, ⟨hm, small_of (by omega)⟩, 2, rfl, ?_⟩
      exact hq _ _ (Int.emod_nonneg _ (by omega)) (Int.emod_lt_of_pos _ hm) ⟨cs, p, _, s, t + 1, rfl, hp, Int.ediv_nonneg hl (by omega), hs, by omega, by omega, hc⟩
    · refine ⟨.int s, atI_nn (i := 3) rfl, rfl, cml_r (by decide) (by decide), .int (t + 1), atI_nn (i := 4) rfl, rfl, .int (t + 1), atI_nn (i := 4) rfl, rfl, cml_r (by omega) (by omega), cml_r (by decide) (by decide), (by decide : (0 : Int) < 2147483137), 3, rfl, ?_⟩
      refine ⟨_, atI_nn (i := 3) rfl, rfl, ⟨by decide, small_of (by decide)⟩, hm, ?_⟩
      exact hq _ _ (Int.emod_nonneg _ (by omega)) (Int.emod_lt_of_pos _ hm) ⟨cs, p, l, _, t + 1, rfl, hp, hl, Int.emod_nonneg _ (by decide), by omega, by omega, hc⟩
def pp (y : D) : D := .tup [y, y]
theorem al_fz {y : D} (h : ∃ k, Al k y) : y.fz = true := by
  obtain ⟨k, h⟩ := h
  cases k with
  | zero => exact h.elim
  | succ k => cases y <;> first | rfl | exact h.elim
theorem al_up {y : D} (h : ∃ k, Al k y) : match y with
    | .non => True
    | .bl _ => True
    | .int _ => True
    | .str _ => True
    | .tup ds => ∀ x ∈ ds, ∃ k, Al k x
    | _ => False := by
  obtain ⟨k, h⟩ := h
  cases k with
  | zero => exact h.elim
  | succ k => cases y <;> first | trivial | exact h.elim | exact fun x hx => ⟨k, h x hx⟩
theorem szs_app : ∀ (a b : List D), sz.szs (a ++ b) = sz.szs a + sz.szs b
  | [], b => by simp [sz.szs]
  | x :: a, b => by
    show sz x + sz.szs (a ++ b) = sz x + sz.szs a + sz.szs b
    rw [szs_app a b]
    omega
theorem sz_pos (d : D) : 1 ≤ sz d := by cases d <;> simp [sz]
theorem szs_len : ∀ l : List D, l.length ≤ sz.szs l
  | [] => Nat.le_refl _
  | x :: l => by
    have := szs_len l
    have := sz_pos x
    show l.length + 1 ≤ sz x + sz.szs l
    omega
theorem range_pp (es : List D) : (List.range es.length).map (fun k => pp (es.getD k .non)) = es.map pp := by
  apply List.ext_getElem
  · simp
  · intro i h1 h2
    simp at h1
    simp [h1]
theorem wp__law_all_same : WpOk [false, false] 4 sp__law_all_same m__law_all_same := by
  rintro ds q x - ⟨d, rfl, hd, hz, hq⟩
  have hf := al_fz hd
  conv => whnf
  rw [hf]
  conv => whnf
  rw [hf]
  refine ⟨fun n ρ => ∃ l v3 v4, ρ = [some d, some d, some (.mls (l.map pp)), v3, v4, none] ∧ (∀ y ∈ l, ∃ k, Al k y) ∧ n = sz.szs l ∧ n ≤ 1000000, ⟨sz d, [d], none, none, rfl, fun y hy => by rw [List.mem_singleton] at hy; rw [hy]; exact hd, rfl, hz⟩, ?_⟩
  rintro n ρ ⟨l, v3, v4, rfl, hl, rfl, hn⟩
  refine ⟨fun h => ?_, fun h => hq⟩
  rcases List.eq_nil_or_concat l with rfl | ⟨l0, y, rfl⟩
  · exact ab_ft h
  rw [List.concat_eq_append] at *
  have hy := hl y (by simp)
  have hl0 : ∀ z ∈ l0, ∃ k, Al k z := fun z hz => hl z (by simp [hz])
  have esz : sz.szs (l0 ++ [y]) = sz.szs l0 + sz y := by rw [szs_app]; rfl
  have yp := sz_pos y
  have done : ∃ n', n' < sz.szs (l0 ++ [y]) ∧ ∃ l v3 v4, [some d, some d, some (D.mls (l0.map pp)), some y, some y, none] = [some d, some d, some (.mls (l.map pp)), v3, v4, none] ∧ (∀ y ∈ l, ∃ k, Al k y) ∧ n' = sz.szs l ∧ n' ≤ 1000000 :=
    ⟨sz.szs l0, by omega, l0, some y, some y, rfl, hl0, rfl, by omega⟩
  refine ⟨l0.map pp, pp y, by simp, rfl, ?_⟩
  have hu := al_up hy
  cases y with
  | non => exact ⟨fun h => ab_ft h, fun _ => ⟨fun h => ab_ft h, fun _ => ⟨.non, rfl, trivial, fun h => ab_ft h, fun _ => done⟩⟩⟩
  | bl b => exact ⟨fun h => ab_ft h, fun _ => ⟨fun h => ab_ft h, fun _ => ⟨.bl b, rfl, trivial, fun h => ab_ft h, fun _ => done⟩⟩⟩
  | int b => exact ⟨fun h => ab_ft h, fun _ => ⟨fun h => ab_ft h, fun _ => ⟨.int b, rfl, trivial, fun h => ab_ft h, fun _ => done⟩⟩⟩
  | str b =>
    have e : (!decide (b = b)) = false := by simp
    exact ⟨fun _ => ⟨fun h => ab_ft h, fun _ => ⟨fun h => ab_ft (e.symm.trans h), fun _ => done⟩⟩, fun h => ab_tf h⟩
  | tup es =>
    have e : (!decide ((es.length : Int) = es.length)) = false := by simp
    have hs : sz (.tup es) = sz.szs es + 1 := rfl
    have l1 := szs_len es
    have l2 := szs_len l0
    refine ⟨fun h => ab_ft h, fun _ => ⟨fun _ => ⟨fun h => ab_ft h, fun _ => ⟨fun h => ab_ft (e.symm.trans h), fun _ => ?_⟩⟩, fun h => ab_tf h⟩⟩
    refine ⟨bd_of (by omega) (by omega), ?_⟩
    refine lc_rng0 (ρ1 := [some d, some d, some (.mls (l0.map pp)), some (.tup es), some (.tup es), none]) (fun _ => true) (fun k => pp (es.getD k .non)) ?_ (by omega) ?_
    · intro k hk A B hA hB
      have hk : k < es.length := by omega
      have eg : es.getD k .non = es[k] := by rw [List.getD_eq_getElem?_getD, List.getElem?_eq_getElem hk]; rfl
      have g1 := List.getElem?_eq_getElem hk
      refine ⟨fun _ => ?_, fun h => ab_tf h⟩
      refine ⟨es[k], atI_nn g1, es[k], atI_nn g1, ?_⟩
      show A (pp es[k]) _
      rw [← eg]
      exact hA _ rfl rfl
    · rw [filt_all, Int.toNat_natCast, range_pp]
      refine ⟨by rw [List.length_map, List.length_map]; omega, sz.szs (l0 ++ es), by rw [szs_app]; omega, l0 ++ es, some (.tup es), some (.tup es), ?_, ?_, rfl, by rw [szs_app]; omega⟩
      · rw [List.map_append]
        rfl
      · intro z hz
        rcases List.mem_append.mp hz with hz | hz
        · exact hl0 z hz
        · exact hu z hz
  | _ => exact hu.elim
theorem wp__law_same : WpOk [false, false] 4 sp__law_sm m__law_same := by
  rintro ds q x - ⟨d, rfl, hd, hq⟩
  have hf : d.fz = true := by cases d <;> first | rfl | exact hd.elim
  conv => whnf
  rw [hf]
  conv => whnf
  rw [hf]
  refine ⟨fun n ρ => (n = 1 ∧ ρ = [some d, some d, some (.mls [pp d]), none, none, none]) ∨ (n = 0 ∧ ρ = [some d, some d, some (.mls []), some d, some d, none]), ⟨1, .inl ⟨rfl, rfl⟩⟩, ?_⟩
  rintro n ρ (⟨rfl, rfl⟩ | ⟨rfl, rfl⟩)
  · refine ⟨fun _ => ?_, fun h => ab_tf h⟩
    have done : ∃ n', n' < 1 ∧ ((n' = 1 ∧ [some d, some d, some (D.mls []), some d, some d, none] = [some d, some d, some (.mls [pp d]), none, none, none]) ∨ (n' = 0 ∧ [some d, some d, some (D.mls []), some d, some d, none] = [some d, some d, some (.mls []), some d, some d, none])) := ⟨0, by decide, .inr ⟨rfl, rfl⟩⟩
    refine ⟨[], pp d, rfl, rfl, ?_⟩
    cases d with
    | non => exact ⟨fun _ => ⟨fun h => ab_ft h, fun _ => done⟩, fun h => ab_tf h⟩
    | bl b =>
      have e : (!decide (b = b)) = false := by simp
      exact ⟨fun h => ab_ft h, fun _ => ⟨fun _ => ⟨fun h => ab_ft h, fun _ => ⟨fun h => ab_ft (e.symm.trans h), fun _ => done⟩⟩, fun h => ab_tf h⟩⟩
    | int b =>
      have e : (!decide (b = b)) = false := by simp
      exact ⟨fun h => ab_ft h, fun _ => ⟨fun h => ab_ft h, fun _ => ⟨fun _ => ⟨fun h => ab_ft h, fun _ => ⟨fun h => ab_ft h, fun _ => ⟨fun h => ab_ft (e.symm.trans h), fun _ => done⟩⟩⟩, fun h => ab_tf h⟩⟩⟩
    | _ => exact hd.elim
  · exact ⟨fun h => ab_ft h, fun _ => hq⟩
end Lw
end

-- text K39e
section
set_option Elab.async false
set_option linter.all false
set_option maxRecDepth 100000
set_option maxHeartbeats 1000000
namespace Lw
open PySem PySem.Spec PyProof.Rows L2 Mi
theorem Reel.le {n m : Nat} {d : D} (h : Reel m d) (hn : n ≤ m) : Reel n d := by
  obtain ⟨cs, p, l, s, t, rfl, h1, h2, h3, h4, h5, h6⟩ := h
  exact ⟨cs, p, l, s, t, rfl, h1, h2, h3, h4, by omega, h6⟩
theorem joinL_flat : ∀ xs : List Tx, TL.joinL [] xs = xs.flatten
  | [] => rfl
  | [x] => by simp [TL.joinL]
  | x :: y :: r => by
    have ih := joinL_flat (y :: r)
    show x ++ ([] ++ TL.joinL [] (y :: r)) = _
    rw [ih]
    simp
theorem join_one (t : Tx) : TL.joinL [] (t.map fun c => [c]) = t := by
  rw [joinL_flat]
  induction t with
  | nil => rfl
  | cons c t ih => rw [List.map_cons, List.flatten_cons, ih]; rfl
theorem map_one (t : Tx) : (t.map fun c => D.str [c]) = (t.map fun c => [c]).map D.str := by
  rw [List.map_map]
  all_goals rfl
theorem sum_one (t : Tx) : ((t.map fun c => [c]).map List.length).sum = t.length := by
  induction t with
  | nil => rfl
  | cons c t ih => simp only [List.map_cons, List.sum_cons, ih, List.length_cons, List.length_nil]; omega
theorem sgD_len (l : Tx) : (sgD l).length = l.length := List.length_map ..
theorem sgD_snoc (l : Tx) (c : Nat) : sgD l ++ [.str [c]] = sgD (l ++ [c]) := by simp [sgD]
theorem sgD_fz (l : Tx) : fzs (sgD l) = true := List.all_eq_true.mpr fun y hy => by
  obtain ⟨e, _, rfl⟩ := List.mem_map.mp hy
  rfl
theorem sg_ex {ls : Tx} {v : Int} (h : 0 ≤ v) (h2 : v < ls.length) : ∃ c, c ∈ ls ∧ atI (sgD ls) v = some (.str [c]) := by
  obtain ⟨k, rfl⟩ : ∃ k : Nat, v = k := ⟨v.toNat, by omega⟩
  have hk : k < ls.length := by omega
  exact ⟨ls[k], List.getElem_mem hk, map_ix (List.getElem?_eq_getElem hk)⟩
theorem wp__law_letters : WpOk [true] 2 sp__law_letters m__law_letters := by
  rintro ds q x - ⟨d0, n, rfl, hT, hq⟩
  refine ⟨by decide, ?_⟩
  refine ⟨d0, _, 3, rfl, hT, by decide, by decide, ?_⟩
  clear hT; intro v d0 hv gv hT
  refine ⟨bd_of (by omega) (by omega), ?_⟩
  refine ⟨fun t acc ρ => ∃ (d0 : D) (ls S : Tx), ρ = [some d0, some (.str S), none] ∧ S.length = 94 ∧ Reel (n + (9 - t)) d0 ∧ acc = sgD ls ∧ ls.length = t, ⟨d0, [], _, rfl, rfl, hT, rfl, rfl⟩, ?_, by rw [rng_len]; omega, ?_⟩
  · rintro t d acc ρ hd ⟨d0, ls, S, rfl, hS, hT, rfl, hx⟩
    obtain ⟨hk, rfl⟩ := rng0_get hd
    refine ⟨fun _ => ?_, fun h => ab_tf h⟩
    rw [show n + (9 - t) = n + (9 - (t + 1)) + 1 by omega] at hT
    refine ⟨d0, _, 94, rfl, hT, by decide, by decide, ?_⟩
    clear hT; intro w d0 hw gw hT
    obtain ⟨c, _, hc⟩ := atI_ex (xs := S) hw (by omega)
    exact ⟨c, hc, d0, ls ++ [c], S, rfl, hS, hT, sgD_snoc _ _, by simp [hx]⟩
  · rintro acc ρ ⟨d0, ls, S, rfl, hS, hT, rfl, hx⟩
    rw [rng_len] at hx
    have fz := sgD_fz ls
    conv => whnf
    exact hq ls d0 (by omega) (by omega) (hT.le (by omega))
theorem wp__law_word : WpOk [true, false, false] 1 sp__law_word m__law_word := by
  rintro ds q x - ⟨d0, n, k, ls, rfl, hT, hk, hl, hl2, hq⟩
  have nl := sgD_len ls
  refine ⟨bd_of (by omega) (by omega), ?_⟩
  refine ⟨fun t acc ρ => ∃ (d0 : D) (xs : Tx), ρ = [some d0, some (.lst (sgD ls)), some (.int (k : Int)), none] ∧ Reel (n + (20 - t)) d0 ∧ acc = sgD xs ∧ xs.length = t, ⟨d0, [], rfl, hT, rfl, rfl⟩, ?_, by rw [rng_len]; omega, ?_⟩
  · rintro t d acc ρ hd ⟨d0, xs, rfl, hT, rfl, hx⟩
    obtain ⟨hk, rfl⟩ := rng0_get hd
    refine ⟨fun _ => ?_, fun h => ab_tf h⟩
    rw [show n + (20 - t) = n + (20 - (t + 1)) + 1 by omega] at hT
    refine ⟨d0, _, ((sgD ls).length : Int), rfl, hT, by omega, by omega, ?_⟩
    clear hT; intro w d0 hw gw hT
    rw [nl] at gw
    obtain ⟨c, _, hc⟩ := sg_ex hw (by omega)
    exact ⟨.str [c], hc, d0, xs ++ [c], rfl, hT, sgD_snoc _ _, by simp [hx]⟩
  · rintro acc ρ ⟨d0, xs, rfl, hT, rfl, hx⟩
    rw [rng_len] at hx
    refine ⟨xs.map fun c => [c], congrArg some (map_one xs), by rw [sum_one]; simp; omega, ?_⟩
    rw [join_one]
    exact hq xs d0 (by omega) (hT.le (by omega))
def newRest : MSTy := (mIf (mAnd (mB (mOp fLt (mVarF 6) (mC (.int 4)))) (mB (mOp fGt (mCB fLen (mCons (mVarF 7) mNil)) (mC (.int 0))))) (mSeq (mAsg (mCall sp__law_roll [true, false] (mcRef 0 (mcVal (mCB fLen (mCons (mVarF 7) mNil)) mcNil))) (mgName 8)) (mSeq (mAsg (mSl (mVarF 7) (mPart (mVarF 8)) (mPart (mOp fAdd (mOp fAdd (mVarF 8) (mC (.int 1))) (mCall sp__law_roll [true, false] (mcRef 0 (mcVal (mC (.int 5)) mcNil)))))) (mgName 9)) (mAsg (mOp fAdd (mVarF 4) (mIfE (mB (mOp fEqA (mCall sp__law_roll [true, false] (mcRef 0 (mcVal (mC (.int 3)) mcNil))) (mC (.int 0)))) (mRev (mVarF 9)) (mVarF 9))) (mgName 4)))) (mAsg (mOp fAdd (mVarF 4) (mOp fIx (mVarF 1) (mCall sp__law_roll [true, false] (mcRef 0 (mcVal (mCB fLen (mCons (mVarF 1) mNil)) mcNil))))) (mgName 4)))
theorem wl_new {E : Es} {d0 : D} {n k : Nat} {ls tx gv : Tx} {ew : D} {way : Int} {v5 v8 v9 : Option D} (hT : Reel (n + 4) d0) (hl : 0 < ls.length) (hl2 : ls.length ≤ 10) (htx : tx.length ≤ 12) (hgv : gv.length ≤ 20)
    (hE : ∀ (d0 : D) (tx : Tx) (v8 v9 : Option D), tx.length ≤ 20 → Reel n d0 → E.nx [some d0, some (.lst (sgD ls)), some ew, some (.int (k : Int)), some (.str tx), v5, some (.int way), some (.str gv), v8, v9]) :
    newRest E [some d0, some (.lst (sgD ls)), some ew, some (.int (k : Int)), some (.str tx), v5, some (.int way), some (.str gv), v8, v9] := by
  have nl := sgD_len ls
  have single : ∀ d0, Reel (n + 4) d0 → (mAsg (mOp fAdd (mVarF 4) (mOp fIx (mVarF 1) (mCall sp__law_roll [true, false] (mcRef 0 (mcVal (mCB fLen (mCons (mVarF 1) mNil)) mcNil))))) (mgName 4)) E [some d0, some (.lst (sgD ls)), some ew, some (.int (k : Int)), some (.str tx), v5, some (.int way), some (.str gv), v8, v9] := by
    intro d0 hT
    refine ⟨d0, _, ((sgD ls).length : Int), rfl, hT, by omega, by omega, ?_⟩
    clear hT; intro w d0 hw gw hT
    rw [nl] at gw
    obtain ⟨c, _, hc⟩ := sg_ex hw (by omega)
    exact ⟨.str [c], hc, by show _ + 1 ≤ _; omega, hE d0 _ _ _ (by simp; omega) (hT.le (by omega))⟩
  refine ⟨fun h => ⟨fun h2 => ?_, fun _ => single d0 hT⟩, fun _ => ⟨fun h => ab_ft h, fun _ => single d0 hT⟩⟩
  have h2 := of_decide_eq_true (show decide ((0 : Int) < (gv.length : Int)) = true from h2)
  refine ⟨d0, _, (gv.length : Int), rfl, hT, by omega, by omega, ?_⟩
  clear hT; intro fi d0 hfi gfi hT
  refine ⟨d0, _, 5, rfl, hT, by decide, by decide, ?_⟩
  clear hT; intro w d0 hw gw hT
  have hcl := cutD_len gv (some fi) (some (fi + 1 + w))
  refine ⟨d0, _, 3, rfl, hT, by decide, by decide, ?_⟩
  clear hT; intro tu d0 htu gtu hT
  obtain ⟨p, ep⟩ : ∃ p, cutD gv (some fi) (some (fi + 1 + w)) = p := ⟨_, rfl⟩
  have hpl : p.length ≤ 6 := by
    rw [← ep, cutD_int (by omega) (by omega), List.length_drop, List.length_take]
    omega
  have fin : ∀ y : Tx, y.length ≤ 6 → tx.length + y.length ≤ 16777216 ∧ E.nx [some d0, some (.lst (sgD ls)), some ew, some (.int (k : Int)), some (.str (tx ++ y)), v5, some (.int way), some (.str gv), some (.int fi), some (.str (cutD gv (some fi) (some (fi + 1 + w))))] := fun y hy => ⟨by omega, hE d0 _ _ _ (by rw [List.length_append]; omega) (hT.le (by omega))⟩
  rw [← ep] at hpl
  exact ⟨fun _ => fin _ (by rw [List.length_reverse]; omega), fun _ => fin _ hpl⟩
theorem wp__law_new : WpOk [true, false, false, false] 6 sp__law_new m__law_new := by
  rintro ds q x - ⟨d0, n, k, ls, es, rfl, hT, hk, hl, hl2, he, hel, hq⟩
  obtain ⟨d1, ed⟩ : ∃ d1, d0 = d1 := ⟨_, rfl⟩
  have fin : ∀ (d0 : D) (tx : Tx) (v5 v6 v7 v8 v9 : Option D), Reel n d0 → tx.length ≤ 20 → (mRet (mSl (mVarF 4) mNo (mPart (mVarF 3)))) (endsOf [true, false, false, false] [d1, .lst (sgD ls), .tup (es.map D.str), .int (k : Int)] q x) [some d0, some (.lst (sgD ls)), some (.tup (es.map D.str)), some (.int (k : Int)), some (.str tx), v5, v6, v7, v8, v9] := by
    intro d0 tx v5 v6 v7 v8 v9 hT htx
    have e : cutD tx none (some (k : Int)) = tx.take k := cutD_hin
    show q (.str (cutD tx none (some (k : Int)))) _
    rw [e]
    exact hq _ d0 (by rw [List.length_take]; omega) hT
  rw [ed]
  rw [ed] at hT
  refine ⟨bd_of (by omega) (by omega), ?_⟩
  refine ⟨fun t ρ => ∃ (d0 : D) (tx : Tx) (v5 v6 v7 v8 v9 : Option D), ρ = [some d0, some (.lst (sgD ls)), some (.tup (es.map D.str)), some (.int (k : Int)), some (.str tx), v5, v6, v7, v8, v9] ∧ Reel (n + 8 * (13 - t)) d0 ∧ tx.length ≤ 20, ⟨d1, [], none, none, none, none, none, rfl, hT.le (by omega), by simp⟩, ?_, ?_⟩
  · rintro t d ρ hd ⟨d0, tx, v5, v6, v7, v8, v9, rfl, hT, htx⟩
    obtain ⟨ht, rfl⟩ := rng0_get hd
    have ht : t < 12 := by omega
    refine ⟨fun h => fin d0 tx (some (.int (t : Int))) v6 v7 v8 v9 (hT.le (by omega)) htx, fun h => ?_⟩
    have h := of_decide_eq_false (show decide ((tx.length : Int) ≥ (k : Int)) = false from h)
    rw [show n + 8 * (13 - t) = n + 8 * (13 - (t + 1)) + 8 by omega] at hT
    refine ⟨d0, _, 5, rfl, hT, by decide, by decide, ?_⟩
    clear hT; intro way d0 hway gway hT
    have good : ∀ (d0 : D) (tx : Tx) (v5 v6 v7 v8 v9 : Option D), tx.length ≤ 20 → Reel (n + 8 * (13 - (t + 1))) d0 → ∃ (d0' : D) (tx' : Tx) (v5' v6' v7' v8' v9' : Option D), [some d0, some (.lst (sgD ls)), some (.tup (es.map D.str)), some (.int (k : Int)), some (.str tx), v5, v6, v7, v8, v9] = [some d0', some (.lst (sgD ls)), some (.tup (es.map D.str)), some (.int (k : Int)), some (.str tx'), v5', v6', v7', v8', v9'] ∧ Reel (n + 8 * (13 - (t + 1))) d0' ∧ tx'.length ≤ 20 := fun d0 tx v5 v6 v7 v8 v9 h1 h2 => ⟨d0, tx, v5, v6, v7, v8, v9, rfl, h2, h1⟩
    refine ⟨fun _ => ⟨fun _ => ?_, fun h => ab_tf h⟩, fun _ => ⟨fun _ => ?_, fun h0 => ?_⟩⟩
    · exact wl_new (hT.le (by omega)) hl hl2 (by omega) htx (fun d0 tx v8 v9 h1 h2 => good d0 tx _ _ _ v8 v9 h1 h2)
    · exact wl_new (hT.le (by omega)) hl hl2 (by omega) htx (fun d0 tx v8 v9 h1 h2 => good d0 tx _ _ _ v8 v9 h1 h2)
    · have h0 := of_decide_eq_false (show decide (((es.map D.str).length : Int) = 0) = false from h0)
      rw [List.length_map] at h0
      have hT : Reel (n + 8 * (13 - (t + 1)) + 6 + 1) d0 := hT
      refine ⟨d0, _, ((es.map D.str).length : Int), rfl, hT, by rw [List.length_map]; omega, by rw [List.length_map]; omega, ?_⟩
      clear hT; intro w d0 hw gw hT
      rw [List.length_map] at gw
      obtain ⟨j, rfl⟩ : ∃ j : Nat, w = j := ⟨w.toNat, by omega⟩
      have hj : j < es.length := by omega
      refine ⟨.str es[j], map_ix (List.getElem?_eq_getElem hj), ?_⟩
      exact wl_new (hT.le (by omega)) hl hl2 (by omega) (Nat.le_trans (hel _ (List.getElem_mem hj)) (by decide)) (fun d0 tx v8 v9 h1 h2 => good d0 tx _ _ _ v8 v9 h1 h2)
  · rintro ρ ⟨d0, tx, v5, v6, v7, v8, v9, rfl, hT, htx⟩
    exact fin d0 tx v5 v6 v7 v8 v9 (hT.le (by omega)) htx
section
variable {d1 : D} {n : Nat} {es : List Tx} {q : D → List D → Prop} {x : Er → List D → Prop}
abbrev RuE (d1 : D) (es : List Tx) (q : D → List D → Prop) (x : Er → List D → Prop) : Es := endsOf [true, false] [d1, .tup (es.map D.str)] q x
abbrev RuQ (n : Nat) (es : List Tx) (q : D → List D → Prop) : Prop := ∀ (r : Rule) (d' : D), RuleOk es.length r → RuOk r → Reel n d' → q (rD r) [d', .tup (es.map D.str)]
theorem wl_rule3 (hq : RuQ n es q) {d0 : D} {m : Int} {b : Bool} (hT : Reel (n + 3) d0) (hm : 2 ≤ m ∧ m ≤ 1000) :
    m__law_rule_3 (RuE d1 es q x) [some d0, some (.tup (es.map D.str)), some (.int m), some (.bl b), none] := by
  refine ⟨fun ρ => ∃ (d0 : D) (wd : Int), ρ = [some d0, some (.tup (es.map D.str)), some (.int m), some (.bl b), some (.int wd)] ∧ 1 ≤ wd ∧ wd ≤ 1000 ∧ Reel (n + 1) d0, ?_, ?_⟩
  · refine ⟨d0, _, 6, rfl, hT, by decide, by decide, ?_⟩
    clear hT; intro wi d0 hwi gwi hT
    refine ⟨d0, _, 2, rfl, hT, by decide, by decide, ?_⟩
    clear hT; intro w d0 hw gw hT
    obtain ⟨d, ⟨wd, rfl, hw1, hw2⟩, hd⟩ := atI_al (xs := [D.int 300, .int (1 + wi)]) (fun d => ∃ m : Int, d = .int m ∧ 1 ≤ m ∧ m ≤ 1000) hw gw ⟨⟨300, rfl, by decide, by decide⟩, ⟨1 + wi, rfl, by omega, by omega⟩, trivial⟩
    exact ⟨.int wd, hd, d0, wd, rfl, hw1, hw2, hT⟩
  · rintro ρ ⟨d0, wd, rfl, hw1, hw2, hT⟩
    refine ⟨d0, _, 2, rfl, hT, by decide, by decide, ?_⟩
    clear hT; intro ap d0 hap gap hT
    exact hq (.back wd (decide (ap = 0)) b m) d0 ⟨by omega, by omega⟩ ⟨hm.1, hm.2, hw1, hw2⟩ (hT.le (by omega))
theorem wl_rule2 (hq : RuQ n es q) {d0 : D} {m : Int} {b : Bool} (hT : Reel (n + 5) d0) (he : es.length ≤ 10) (hm : 2 ≤ m ∧ m ≤ 1000) :
    m__law_rule_2 (RuE d1 es q x) [some d0, some (.tup (es.map D.str)), some (.int m), some (.bl b), none] := by
  refine ⟨fun ρ => ∃ d0 : D, ρ = [some d0, some (.tup (es.map D.str)), some (.int m), some (.bl b), none] ∧ Reel (n + 3) d0, ?_, ?_⟩
  · refine ⟨fun h => ?_, fun _ => ⟨fun h => ab_ft h, fun _ => ⟨d0, rfl, hT.le (by omega)⟩⟩⟩
    have h := of_decide_eq_true (show decide ((0 : Int) < ((es.map D.str).length : Int)) = true from h)
    rw [List.length_map] at h
    refine ⟨d0, _, 2, rfl, hT, by decide, by decide, ?_⟩
    clear hT; intro u d0 hu gu hT
    refine ⟨fun _ => ?_, fun _ => ⟨d0, rfl, hT.le (by omega)⟩⟩
    refine ⟨d0, n + 3, ((es.map D.str).length : Int), rfl, hT.le (by omega), by rw [List.length_map]; omega, by rw [List.length_map]; omega, ?_⟩
    clear hT; intro e d0 he2 ge hT
    rw [List.length_map] at ge
    obtain ⟨e, rfl⟩ : ∃ k : Nat, e = k := ⟨e.toNat, by omega⟩
    exact hq (.elder e b m) d0 (by show e < es.length; omega) ⟨hm.1, hm.2, by show (1 : Int) ≤ 1; decide, by show (1 : Int) ≤ 1000; decide⟩ (hT.le (by omega))
  · rintro ρ ⟨d0, rfl, hT⟩
    exact wl_rule3 hq hT hm
end
theorem wp__law_rule : WpOk [true, false] 3 sp__law_rule m__law_rule := by
  rintro ds q x - ⟨d0, n, es, rfl, hT, he, hq⟩
  have hq : RuQ n es q := hq
  refine ⟨fun ρ => ∃ (d0 : D) (m : Int), ρ = [some d0, some (.tup (es.map D.str)), some (.int m), none, none] ∧ 2 ≤ m ∧ m ≤ 1000 ∧ Reel (n + 8) d0, ?_, ?_⟩
  · refine ⟨d0, _, 4, rfl, hT, by decide, by decide, ?_⟩
    clear hT; intro mo d0 hmo gmo hT
    refine ⟨d0, _, 2, rfl, hT, by decide, by decide, ?_⟩
    clear hT; intro v d0 hv gv hT
    obtain ⟨d, ⟨m, rfl, hm, hm2⟩, hd⟩ := atI_al (xs := [D.int 300, .int (2 + mo)]) (fun d => ∃ m : Int, d = .int m ∧ 2 ≤ m ∧ m ≤ 1000) hv gv ⟨⟨300, rfl, by decide, by decide⟩, ⟨2 + mo, rfl, by omega, by omega⟩, trivial⟩
    exact ⟨.int m, hd, d0, m, rfl, hm, hm2, hT⟩
  · rintro ρ ⟨d0, m, rfl, hm, hm2, hT⟩
    refine ⟨fun ρ => ∃ (d0 : D) (b : Bool), ρ = [some d0, some (.tup (es.map D.str)), some (.int m), some (.bl b), none] ∧ Reel (n + 5) d0, ?_, ?_⟩
    · refine ⟨d0, _, 3, rfl, hT, by decide, by decide, ?_⟩
      clear hT; intro tu d0 htu gtu hT
      exact ⟨d0, _, rfl, hT.le (by omega)⟩
    · rintro ρ ⟨d0, b, rfl, hT⟩
      exact wl_rule2 hq hT he ⟨hm, hm2⟩
section
variable {d1 : D} {n : Nat} {w : Bool} {q : D → List D → Prop} {x : Er → List D → Prop}
abbrev CaE (d1 : D) (w : Bool) (q : D → List D → Prop) (x : Er → List D → Prop) : Es := endsOf [true, false] [d1, .bl w] q x
abbrev CaR (n : Nat) (w : Bool) (q : D → List D → Prop) : Prop := ∀ es rs new d', CaQ es rs new → Reel n d' → q (caseD es rs new) [d', .bl w]
theorem wl_case3 (hq : CaR n w q) {d0 : D} {ls : Tx} {es : List Tx} {rs : List Rule} (hT : Reel (n + 250) d0) (hl : 0 < ls.length) (hl2 : ls.length ≤ 10) (he : es.length ≤ 10) (hel : ∀ e ∈ es, e.length ≤ 10) (hr : rs.length ≤ 10) (hru : ∀ r ∈ rs, RuleOk es.length r ∧ RuOk r) :
    m__law_case_3 (CaE d1 w q x) [some d0, some (.bl w), some (.lst (sgD ls)), some (.tup (es.map D.str)), some (.tup (rs.map rD)), none] := by
  have go : ∀ (d0 : D) (t : Tx), t.length ≤ 12 → Reel n d0 → q (caseD es rs t) [d0, .bl w] := fun d0 t ht hT =>
    hq es rs t d0 ⟨⟨⟨by omega, by omega, by omega, fun e he => by have := hel e he; omega, fun r hr => (hru r hr).1⟩, by omega, fun r hr => (hru r hr).2⟩, hr, ht⟩ hT
  refine ⟨fun _ => ?_, fun _ => ?_⟩
  · refine ⟨d0, _, 13, rfl, hT, by decide, by decide, ?_⟩
    clear hT; intro v d0 hv gv hT
    obtain ⟨k, rfl⟩ : ∃ k : Nat, v = k := ⟨v.toNat, by omega⟩
    refine ⟨d0, n, k, ls, es, rfl, hT.le (by omega), by omega, hl, hl2, he, hel, ?_⟩
    clear hT; intro t d0 ht hT
    exact go d0 t ht hT
  · refine ⟨d0, _, 9, rfl, hT, by decide, by decide, ?_⟩
    clear hT; intro v d0 hv gv hT
    obtain ⟨k, rfl⟩ : ∃ k : Nat, v = k := ⟨v.toNat, by omega⟩
    refine ⟨d0, n, k, ls, es, rfl, hT.le (by omega), by omega, hl, hl2, he, hel, ?_⟩
    clear hT; intro t d0 ht hT
    exact go d0 t ht hT
theorem wl_case2 (hq : CaR n w q) {d0 : D} {ls : Tx} {es : List Tx} (hT : Reel (n + 400) d0) (hl : 0 < ls.length) (hl2 : ls.length ≤ 10) (he : es.length ≤ 10) (hel : ∀ e ∈ es, e.length ≤ 10) :
    m__law_case_2 (CaE d1 w q x) [some d0, some (.bl w), some (.lst (sgD ls)), some (.tup (es.map D.str)), none, none] := by
  refine ⟨fun ρ => ∃ (d0 : D) (rs : List Rule), ρ = [some d0, some (.bl w), some (.lst (sgD ls)), some (.tup (es.map D.str)), some (.tup (rs.map rD)), none] ∧ rs.length ≤ 10 ∧ (∀ r ∈ rs, RuleOk es.length r ∧ RuOk r) ∧ Reel (n + 250) d0, ?_, ?_⟩
  · refine ⟨fun _ => ?_, fun _ => ?_⟩
    · refine ⟨d0, _, 5, rfl, hT, by decide, by decide, ?_⟩
      clear hT; intro v d0 hv gv hT
      refine ⟨bd_of (by omega) (by omega), ?_⟩
      refine ⟨fun t acc ρ => ∃ (d0 : D) (rs : List Rule), ρ = [some d0, some (.bl w), some (.lst (sgD ls)), some (.tup (es.map D.str)), none, none] ∧ Reel (n + 260 + 12 * (8 - t)) d0 ∧ acc = rs.map rD ∧ rs.length = t ∧ (∀ r ∈ rs, RuleOk es.length r ∧ RuOk r), ⟨d0, [], rfl, hT.le (by omega), rfl, rfl, fun _ h => nomatch h⟩, ?_, by rw [rng_len]; omega, ?_⟩
      · rintro t d acc ρ hd ⟨d0, rs, rfl, hT, rfl, hx, hru⟩
        obtain ⟨hk, rfl⟩ := rng0_get hd
        refine ⟨fun _ => ?_, fun h => ab_tf h⟩
        refine ⟨d0, n + 260 + 12 * (8 - (t + 1)), es, rfl, hT.le (by omega), he, ?_⟩
        clear hT; intro r d0 h1 h2 hT
        have hz := rD_fz r
        conv => whnf
        rw [hz]
        refine ⟨d0, rs ++ [r], rfl, hT, by rw [List.map_append]; rfl, by simp [hx], fun y hy => ?_⟩
        rcases List.mem_append.mp hy with hy | hy
        · exact hru y hy
        · rw [List.mem_singleton] at hy; subst hy; exact ⟨h1, h2⟩
      · rintro acc ρ ⟨d0, rs, rfl, hT, rfl, hx, hru⟩
        rw [rng_len] at hx
        exact ⟨d0, rs, rfl, by omega, hru, hT.le (by omega)⟩
    · refine ⟨d0, _, 4, rfl, hT, by decide, by decide, ?_⟩
      clear hT; intro v d0 hv gv hT
      refine ⟨bd_of (by omega) (by omega), ?_⟩
      refine ⟨fun t acc ρ => ∃ (d0 : D) (rs : List Rule), ρ = [some d0, some (.bl w), some (.lst (sgD ls)), some (.tup (es.map D.str)), none, none] ∧ Reel (n + 260 + 12 * (8 - t)) d0 ∧ acc = rs.map rD ∧ rs.length = t ∧ (∀ r ∈ rs, RuleOk es.length r ∧ RuOk r), ⟨d0, [], rfl, hT.le (by omega), rfl, rfl, fun _ h => nomatch h⟩, ?_, by rw [rng_len]; omega, ?_⟩
      · rintro t d acc ρ hd ⟨d0, rs, rfl, hT, rfl, hx, hru⟩
        obtain ⟨hk, rfl⟩ := rng0_get hd
        refine ⟨fun _ => ?_, fun h => ab_tf h⟩
        refine ⟨d0, n + 260 + 12 * (8 - (t + 1)), es, rfl, hT.le (by omega), he, ?_⟩
        clear hT; intro r d0 h1 h2 hT
        have hz := rD_fz r
        conv => whnf
        rw [hz]
        refine ⟨d0, rs ++ [r], rfl, hT, by rw [List.map_append]; rfl, by simp [hx], fun y hy => ?_⟩
        rcases List.mem_append.mp hy with hy | hy
        · exact hru y hy
        · rw [List.mem_singleton] at hy; subst hy; exact ⟨h1, h2⟩
      · rintro acc ρ ⟨d0, rs, rfl, hT, rfl, hx, hru⟩
        rw [rng_len] at hx
        exact ⟨d0, rs, rfl, by omega, hru, hT.le (by omega)⟩
  · rintro ρ ⟨d0, rs, rfl, hr, hru, hT⟩
    exact wl_case3 hq hT hl hl2 he hel hr hru
end
theorem wp__law_case : WpOk [true, false] 4 sp__law_case m__law_case := by
  rintro ds q x - ⟨d0, n, w, rfl, hT, hq⟩
  have hq : CaR n w q := hq
  refine ⟨fun ρ => ∃ (d0 : D) (ls : Tx), ρ = [some d0, some (.bl w), some (.lst (sgD ls)), none, none, none] ∧ 0 < ls.length ∧ ls.length ≤ 10 ∧ Reel (n + 900) d0, ?_, ?_⟩
  · refine ⟨d0, n + 900, rfl, hT.le (by omega), ?_⟩
    intro ls d0 h1 h2 hT
    exact ⟨d0, ls, rfl, h1, h2, hT⟩
  · rintro ρ ⟨d0, ls, rfl, hl, hl2, hT⟩
    refine ⟨fun ρ => ∃ (d0 : D) (es : List Tx), ρ = [some d0, some (.bl w), some (.lst (sgD ls)), some (.tup (es.map D.str)), none, none] ∧ es.length ≤ 10 ∧ (∀ e ∈ es, e.length ≤ 10) ∧ Reel (n + 400) d0, ?_, ?_⟩
    · refine ⟨d0, _, 3, rfl, hT, by decide, by decide, ?_⟩
      clear hT; intro v d0 hv gv hT
      refine ⟨bd_of (by omega) (by omega), ?_⟩
      refine ⟨fun t acc ρ => ∃ (d0 : D) (es : List Tx), ρ = [some d0, some (.bl w), some (.lst (sgD ls)), none, none, none] ∧ Reel (n + 410 + 22 * (8 - t)) d0 ∧ acc = es.map D.str ∧ es.length = t ∧ (∀ e ∈ es, e.length ≤ 10), ⟨d0, [], rfl, hT.le (by omega), rfl, rfl, fun _ h => nomatch h⟩, ?_, by rw [rng_len]; omega, ?_⟩
      · rintro t d acc ρ hd ⟨d0, es, rfl, hT, rfl, hx, hel⟩
        obtain ⟨hk, rfl⟩ := rng0_get hd
        refine ⟨fun _ => ?_, fun h => ab_tf h⟩
        rw [show n + 410 + 22 * (8 - t) = n + 410 + 22 * (8 - (t + 1)) + 22 by omega] at hT
        refine ⟨d0, _, 9, rfl, hT, by decide, by decide, ?_⟩
        clear hT; intro u d0 hu gu hT
        obtain ⟨k, rfl⟩ : ∃ k : Nat, u = k := ⟨u.toNat, by omega⟩
        refine ⟨d0, n + 410 + 22 * (8 - (t + 1)), k, ls, rfl, hT.le (by omega), by omega, hl, hl2, ?_⟩
        clear hT; intro e d0 h1 hT
        refine ⟨d0, es ++ [e], rfl, hT, by rw [List.map_append]; rfl, by simp [hx], fun y hy => ?_⟩
        rcases List.mem_append.mp hy with hy | hy
        · exact hel y hy
        · rw [List.mem_singleton] at hy; subst hy; exact h1
      · rintro acc ρ ⟨d0, es, rfl, hT, rfl, hx, hel⟩
        rw [rng_len] at hx
        exact ⟨d0, es, rfl, by omega, hel, hT.le (by omega)⟩
    · rintro ρ ⟨d0, es, rfl, he, hel, hT⟩
      exact wl_case2 hq hT hl hl2 he hel
end Lw
end

-- text K39f
section
set_option Elab.async false
set_option linter.all false
set_option maxRecDepth 100000
set_option maxHeartbeats 1000000
namespace Lw
open PySem PySem.Spec PyProof.Rows L2 Mi
def srcRest : MSTy := (mSeq (mIf (mOr (mB (mOp fGe (mVarF 9) (mCB fLen (mCons (mVarF 6) mNil)))) (mB (mOp fNeA (mOp fIx (mVarF 6) (mVarF 9)) (mOp fIx (mVarF 5) (mOp fAdd (mVarF 2) (mVarF 8)))))) (mRet (mC (.bl false))) mNext) (mIf (mAnd (mB (mOp fEqA (mOp fIx (mVarF 1) (mC (.int 0))) (mC (.str [98, 97, 99, 107])))) (mOr (mB (mOp fGe (mVarF 9) (mOp fAdd (mVarF 2) (mVarF 8)))) (mOr (mB (mOp fLt (mVarF 9) (mOp fSub (mOp fAdd (mVarF 2) (mVarF 8)) (mOp fIx (mVarF 1) (mC (.int 1)))))) (mAnd (mB (mOp fIx (mVarF 1) (mC (.int 2)))) (mB (mOp fGe (mVarF 9) (mVarF 2))))))) (mRet (mC (.bl false))) mNext))
section
variable {es : List Tx} {rs : List Rule} {new : Tx} {r : Rule} {i j a : Nat} {q : D → List D → Prop} {x : Er → List D → Prop}
abbrev SE (es : List Tx) (rs : List Rule) (new : Tx) (r : Rule) (i j a : Nat) (q : D → List D → Prop) (x : Er → List D → Prop) : Es := endsOf [false, false, false, false, false] [caseD es rs new, rD r, .int (i : Int), .int (j : Int), .int (a : Int)] q x
theorem wl_src3 (C : CaseOk es rs new) (ok : RuleOk es.length r) (hij : i < j) (hj : j ≤ new.length) (hmo : ((j - i : Nat) : Int) ≤ mostR r) (hq : q (.bl (gives es new r i (j - i) a)) [caseD es rs new, rD r, .int (i : Int), .int (j : Int), .int (a : Int)]) :
    m__law_sourced_3 (SE es rs new r i j a q x) [some (caseD es rs new), some (rD r), some (.int (i : Int)), some (.int (j : Int)), some (.int (a : Int)), some (.str new), some (.str (srcR es new r)), some (.bl (turnR r)), none, none] := by
  have hn := C.hn
  obtain ⟨m, em⟩ : ∃ m, j - i = m := ⟨_, rfl⟩
  have ej : (j : Int) - (i : Int) = (m : Int) := by omega
  rw [em] at hq hmo
  refine ⟨bd_of (by omega) (by omega), ?_⟩
  rw [ej]
  refine ⟨fun n ρ => (∃ v w, ρ = [some (caseD es rs new), some (rD r), some (.int (i : Int)), some (.int (j : Int)), some (.int (a : Int)), some (.str new), some (.str (srcR es new r)), some (.bl (turnR r)), v, w]) ∧ ∀ s, s < n → giv es new r i m a s, ⟨⟨none, none, rfl⟩, fun s h => absurd h (by omega)⟩, ?_, ?_⟩
  · rintro n d ρ hd ⟨⟨v, w, rfl⟩, hi⟩
    obtain ⟨hd1, rfl⟩ := rng0_get hd
    have hk : n < m := by
      have hd : n < (m : Int).toNat := hd1
      omega
    have no : ¬ giv es new r i m a n → q (.bl false) [caseD es rs new, rD r, .int (i : Int), .int (j : Int), .int (a : Int)] := by
      intro z
      have : gives es new r i m a = false := decide_eq_false fun y => z (y.2 n hk)
      rw [← this]
      exact hq
    obtain ⟨P, hP⟩ : ∃ P, plc (turnR r) a m n = P := ⟨_, rfl⟩
    have test : (P < (srcR es new r).length → (srcR es new r)[P]? = new[i + n]? → near i n P r → giv es new r i m a n) := by
      intro h1 h2 h3
      unfold giv
      rw [hP]
      exact ⟨h1, h2, h3⟩
    have back : giv es new r i m a n → (P < (srcR es new r).length ∧ (srcR es new r)[P]? = new[i + n]? ∧ near i n P r) := by
      intro z
      unfold giv at z
      rw [hP] at z
      exact z
    have e1 : turnR r = true → (a : Int) + ((j : Int) - (i : Int)) - 1 - (n : Int) = (P : Int) := by
      intro z
      rw [z] at hP
      simp only [plc] at hP
      omega
    have e2 : turnR r = false → (a : Int) + (n : Int) = (P : Int) := by
      intro z
      rw [z] at hP
      simp only [plc] at hP
      omega
    have good : giv es new r i m a n → (∃ v w, [some (caseD es rs new), some (rD r), some (.int (i : Int)), some (.int (j : Int)), some (.int (a : Int)), some (.str new), some (.str (srcR es new r)), some (.bl (turnR r)), some (.int (n : Int)), some (.int (P : Int))] = [some (caseD es rs new), some (rD r), some (.int (i : Int)), some (.int (j : Int)), some (.int (a : Int)), some (.str new), some (.str (srcR es new r)), some (.bl (turnR r)), v, w]) ∧ ∀ s, s < n + 1 → giv es new r i m a s := fun h => ⟨⟨_, _, rfl⟩, fun s hs => by
      by_cases z : s = n
      · subst z
        exact h
      · exact hi s (by omega)⟩
    have main : (srcRest { (SE es rs new r i j a q x) with nx := fun ρ => (∃ v w, ρ = [some (caseD es rs new), some (rD r), some (.int (i : Int)), some (.int (j : Int)), some (.int (a : Int)), some (.str new), some (.str (srcR es new r)), some (.bl (turnR r)), v, w]) ∧ ∀ s, s < n + 1 → giv es new r i m a s }) [some (caseD es rs new), some (rD r), some (.int (i : Int)), some (.int (j : Int)), some (.int (a : Int)), some (.str new), some (.str (srcR es new r)), some (.bl (turnR r)), some (.int (n : Int)), some (.int (P : Int))] := by
      have bad : (srcR es new r).length ≤ P → q (.bl false) [caseD es rs new, rD r, .int (i : Int), .int (j : Int), .int (a : Int)] := fun h2 => no fun z => by have := (back z).1; omega
      refine ⟨fun h2 => ⟨fun _ => ?_, fun h => ab_tf h⟩, fun h2 => ?_⟩
      · have h2 := of_decide_eq_true (show decide (((srcR es new r).length : Int) ≤ (P : Int)) = true from h2)
        exact bad (by omega)
      have h2 := of_decide_eq_false (show decide (((srcR es new r).length : Int) ≤ (P : Int)) = false from h2)
      have hp : P < (srcR es new r).length := by omega
      refine ⟨(srcR es new r)[P], atI_nn (List.getElem?_eq_getElem hp), new[i + n]'(by omega), atI_nn (i := i + n) (List.getElem?_eq_getElem (by omega)), fun h => ?_, fun h => ?_⟩
      · have h : (!decide ([(srcR es new r)[P]] = [new[i + n]'(by omega)])) = true := h
        have hne : ¬ (srcR es new r)[P] = new[i + n]'(by omega) := by simpa using h
        refine no fun z => hne ?_
        have := (back z).2.1
        rw [List.getElem?_eq_getElem hp, List.getElem?_eq_getElem (by omega)] at this
        simpa using this
      have h : (!decide ([(srcR es new r)[P]] = [new[i + n]'(by omega)])) = false := h
      have he : (srcR es new r)[P] = new[i + n]'(by omega) := by simpa using h
      have last : near i n P r → (∃ v w, [some (caseD es rs new), some (rD r), some (.int (i : Int)), some (.int (j : Int)), some (.int (a : Int)), some (.str new), some (.str (srcR es new r)), some (.bl (turnR r)), some (.int (n : Int)), some (.int (P : Int))] = [some (caseD es rs new), some (rD r), some (.int (i : Int)), some (.int (j : Int)), some (.int (a : Int)), some (.str new), some (.str (srcR es new r)), some (.bl (turnR r)), v, w]) ∧ ∀ s, s < n + 1 → giv es new r i m a s := fun hnear => good (test hp (by rw [List.getElem?_eq_getElem hp, List.getElem?_eq_getElem (by omega), he]) hnear)
      cases r with
      | elder e t mo => exact ⟨.str ELDER, rfl, fun h => ab_ft h, fun _ => ⟨fun h => ab_ft h, fun _ => last trivial⟩⟩
      | back w ap t mo =>
        refine ⟨.str BACK, rfl, fun _ => ?_, fun h => ab_tf h⟩
        refine ⟨fun h => ⟨fun _ => ?_, fun h => ab_tf h⟩, fun h3 => ⟨.int w, rfl, fun h => ⟨fun _ => ?_, fun h => ab_tf h⟩, fun h4 => ⟨.bl ap, rfl, fun h5 => ⟨fun h => ?_, fun h6 => ?_⟩, fun h5 => ⟨fun h => ab_ft h, fun _ => ?_⟩⟩⟩⟩
        · have h := of_decide_eq_true (show decide ((i : Int) + (n : Int) ≤ (P : Int)) = true from h)
          exact no fun z => by
            have := (back z).2.2.1
            omega
        · have h := of_decide_eq_true (show decide ((P : Int) < (i : Int) + (n : Int) - w) = true from h)
          exact no fun z => by
            have := (back z).2.2.2.1
            omega
        · have h := of_decide_eq_true (show decide ((i : Int) ≤ (P : Int)) = true from h)
          exact no fun z => by
            have := (back z).2.2.2.2 h5
            omega
        · have h3 := of_decide_eq_false (show decide ((i : Int) + (n : Int) ≤ (P : Int)) = false from h3)
          have h4 := of_decide_eq_false (show decide ((P : Int) < (i : Int) + (n : Int) - w) = false from h4)
          have h6 := of_decide_eq_false (show decide ((i : Int) ≤ (P : Int)) = false from h6)
          exact last ⟨by omega, by omega, fun _ => by omega⟩
        · have h3 := of_decide_eq_false (show decide ((i : Int) + (n : Int) ≤ (P : Int)) = false from h3)
          have h4 := of_decide_eq_false (show decide ((P : Int) < (i : Int) + (n : Int) - w) = false from h4)
          exact last ⟨by omega, by omega, fun z => by rw [show ap = false from h5] at z; cases z⟩
    refine ⟨fun h => ?_, fun h => ?_⟩
    · have main := main
      rw [← e1 h] at main
      exact main
    · have main := main
      rw [← e2 h] at main
      exact main
  · rintro ρ ⟨⟨v, w, rfl⟩, hi⟩
    have e1 : (rngI 0 (m : Int).toNat).length = m := by rw [rng_len]; omega
    rw [e1] at hi
    have : gives es new r i m a = true := decide_eq_true ⟨hmo, hi⟩
    rw [this] at hq
    exact hq
end
theorem wp__law_sourced : WpOk [false, false, false, false, false] 5 sp__law_sourced m__law_sourced := by
  rintro ds q x - ⟨es, rs, new, r, i, j, a, rfl, C, ok, hij, hj, ha, hmo, hq⟩
  refine ⟨fun ρ => ρ = [some (caseD es rs new), some (rD r), some (.int (i : Int)), some (.int (j : Int)), some (.int (a : Int)), some (.str new), none, none, none, none], ⟨.str new, rfl, rfl⟩, ?_⟩
  rintro ρ rfl
  refine ⟨fun ρ => ρ = [some (caseD es rs new), some (rD r), some (.int (i : Int)), some (.int (j : Int)), some (.int (a : Int)), some (.str new), some (.str (srcR es new r)), none, none, none], ?_, ?_⟩
  · cases r with
    | elder e t mo =>
      have ok : e < es.length := ok
      have e2 : srcR es new (.elder e t mo) = es[e] := by simp [srcR, List.getD, ok]
      refine ⟨.str ELDER, rfl, fun _ => ?_, fun h => ab_tf h⟩
      refine ⟨.tup (es.map D.str), rfl, .int (e : Int), rfl, .str es[e], map_ix (List.getElem?_eq_getElem ok), ?_⟩
      rw [e2]
      rfl
    | back w ap t mo => exact ⟨.str BACK, rfl, fun h => ab_ft h, fun _ => rfl⟩
  · rintro ρ rfl
    refine ⟨fun ρ => ρ = [some (caseD es rs new), some (rD r), some (.int (i : Int)), some (.int (j : Int)), some (.int (a : Int)), some (.str new), some (.str (srcR es new r)), some (.bl (turnR r)), none, none], ?_, ?_⟩
    · cases r with
      | elder e t mo => exact ⟨.bl t, rfl, rfl⟩
      | back w ap t mo => exact ⟨.bl t, rfl, rfl⟩
    · rintro ρ rfl
      exact wl_src3 C ok hij hj hmo hq
theorem src_len {es : List Tx} {rs : List Rule} {new : Tx} {r : Rule} (C : CaseOk es rs new) (ok : RuleOk es.length r) : (srcR es new r).length ≤ 1000 := by
  cases r with
  | elder e t mo =>
    have ok : e < es.length := ok
    have e2 : srcR es new (.elder e t mo) = es[e] := by simp [srcR, List.getD, ok]
    rw [e2]
    exact C.hel _ (List.getElem_mem ok)
  | back w a t mo => exact C.hn
theorem most_at (r : Rule) : match rD r with
    | .tup l => atI l (-1) = some (.int (mostR r))
    | _ => False := by cases r <;> rfl
theorem wp__law_heard : WpOk [false, false, false] 3 sp__law_heard m__law_heard := by
  rintro ds q x - ⟨es, rs, new, i, j, rfl, C, hij, hj, hq⟩
  have hn := C.hn
  have hm : 0 < j - i := by omega
  refine ⟨fun h => ?_, fun h => ?_⟩
  · have h := of_decide_eq_true (show decide ((j : Int) - (i : Int) = 1) = true from h)
    have : heard es rs new i j = true := by
      unfold heard
      rw [decide_eq_true (by omega), Bool.true_or]
    rw [this] at hq
    exact hq
  · have h := of_decide_eq_false (show decide ((j : Int) - (i : Int) = 1) = false from h)
    have e : heard es rs new i j = rs.any fun r => hb es new r i (j - i) := by
      unfold heard
      rw [decide_eq_false (by omega), Bool.false_or]
    rw [e] at hq
    refine ⟨.tup (rs.map rD), rfl, ?_⟩
    refine ⟨fun n ρ => (∃ v w z, ρ = [some (caseD es rs new), some (.int (i : Int)), some (.int (j : Int)), v, w, z]) ∧ ∀ (k : Nat) r, k < n → rs[k]? = some r → hb es new r i (j - i) = false, ⟨⟨_, _, _, rfl⟩, fun k r h => absurd h (by omega)⟩, ?_, ?_⟩
    · rintro n d ρ hd ⟨⟨v, w, z, rfl⟩, hk⟩
      obtain ⟨r, hr, rfl⟩ := map_get hd
      have ok := C.hru r (List.mem_of_getElem? hr)
      have sl := src_len C ok
      have next : hb es new r i (j - i) = false → ∀ w z, (∃ v' w' z', [some (caseD es rs new), some (.int (i : Int)), some (.int (j : Int)), some (rD r), w, z] = [some (caseD es rs new), some (.int (i : Int)), some (.int (j : Int)), v', w', z']) ∧ ∀ (k : Nat) r, k < n + 1 → rs[k]? = some r → hb es new r i (j - i) = false := by
        intro hb1 w z
        refine ⟨⟨_, _, _, rfl⟩, fun k r' h1 h2 => ?_⟩
        by_cases y : k = n
        · subst y
          rw [hr] at h2
          cases h2
          exact hb1
        · exact hk k r' (by omega) h2
      have small : ¬ ((j : Int) - (i : Int) ≤ mostR r) → hb es new r i (j - i) = false := by
        intro h
        unfold hb
        rw [List.any_eq_false]
        intro a _
        have : gives es new r i (j - i) a = false := decide_eq_false fun y => by have := y.1; omega
        rw [this]
        simp
      have main : ((j : Int) - (i : Int) ≤ mostR r) → ∀ z, (mFor (miRng1 (mCB fLen (mCons (mVarF 4) mNil))) (mgName 5) (mIf (mB (mCall0 sp__law_sourced 5 (mCons (mVarF 0) (mCons (mVarF 3) (mCons (mVarF 1) (mCons (mVarF 2) (mCons (mVarF 5) mNil))))))) (mRet (mC (.bl true))) mNext)) { (endsOf [false, false, false] [caseD es rs new, .int (i : Int), .int (j : Int)] q x) with nx := fun ρ => (∃ v w z, ρ = [some (caseD es rs new), some (.int (i : Int)), some (.int (j : Int)), v, w, z]) ∧ ∀ (k : Nat) r, k < n + 1 → rs[k]? = some r → hb es new r i (j - i) = false } [some (caseD es rs new), some (.int (i : Int)), some (.int (j : Int)), some (rD r), some (.str (srcR es new r)), z] := by
        intro hmo z
        refine ⟨bd_of (by omega) (by omega), ?_⟩
        refine ⟨fun t ρ => (∃ z, ρ = [some (caseD es rs new), some (.int (i : Int)), some (.int (j : Int)), some (rD r), some (.str (srcR es new r)), z]) ∧ ∀ a, a < t → gives es new r i (j - i) a = false, ⟨⟨_, rfl⟩, fun a h => absurd h (by omega)⟩, ?_, ?_⟩
        · rintro t d ρ hd ⟨⟨z, rfl⟩, ht⟩
          obtain ⟨hd1, rfl⟩ := rng0_get hd
          have hd1 : t < (srcR es new r).length := by
            have : t < ((((srcR es new r).length : Nat)) : Int).toNat := hd1
            omega
          have fz := rD_fz r
          conv => whnf
          rw [fz]
          refine ⟨es, rs, new, r, i, j, t, rfl, C, ok, hij, hj, by omega, by omega, fun h => ?_, fun h => ?_⟩
          · have h : gives es new r i (j - i) t = true := h
            have hb1 : hb es new r i (j - i) = true := List.any_eq_true.mpr ⟨t, List.mem_range.mpr hd1, h⟩
            have : (rs.any fun r => hb es new r i (j - i)) = true := List.any_eq_true.mpr ⟨r, List.mem_of_getElem? hr, hb1⟩
            rw [this] at hq
            exact hq
          · have h : gives es new r i (j - i) t = false := h
            refine ⟨⟨_, rfl⟩, fun a h1 => ?_⟩
            by_cases y : a = t
            · rw [y]; exact h
            · exact ht a (by omega)
        · rintro ρ ⟨⟨z, rfl⟩, ht⟩
          have e1 : (rngI 0 ((((srcR es new r).length : Nat)) : Int).toNat).length = (srcR es new r).length := by rw [rng_len]; omega
          rw [e1] at ht
          have hb1 : hb es new r i (j - i) = false := by
            unfold hb
            rw [List.any_eq_false]
            intro a h1
            rw [ht a (List.mem_range.mp h1)]
            simp
          exact next hb1 _ _
      cases r with
      | elder e t mo =>
        have ok : e < es.length := ok
        have e2 : srcR es new (.elder e t mo) = es[e] := by simp [srcR, List.getD, ok]
        refine ⟨.int mo, rfl, fun h => ?_, fun h => ?_⟩
        · have h := of_decide_eq_true (show decide ((j : Int) - (i : Int) ≤ mo) = true from h)
          refine ⟨.str ELDER, rfl, fun _ => ?_, fun h => ab_tf h⟩
          refine ⟨.tup (es.map D.str), rfl, .int (e : Int), rfl, .str es[e], map_ix (List.getElem?_eq_getElem ok), ?_⟩
          have m := main h z
          rw [e2] at m
          exact m
        · have h := of_decide_eq_false (show decide ((j : Int) - (i : Int) ≤ mo) = false from h)
          exact next (small h) _ _
      | back wd ap t mo =>
        refine ⟨.int mo, rfl, fun h => ?_, fun h => ?_⟩
        · have h := of_decide_eq_true (show decide ((j : Int) - (i : Int) ≤ mo) = true from h)
          refine ⟨.str BACK, rfl, fun h => ab_ft h, fun _ => ⟨.str new, rfl, ?_⟩⟩
          exact main h z
        · have h := of_decide_eq_false (show decide ((j : Int) - (i : Int) ≤ mo) = false from h)
          exact next (small h) _ _
    · rintro ρ ⟨⟨v, w, z, rfl⟩, hk⟩
      rw [List.length_map] at hk
      have : (rs.any fun r => hb es new r i (j - i)) = false := by
        rw [List.any_eq_false]
        intro r hr
        obtain ⟨k, hk1, rfl⟩ := List.getElem_of_mem hr
        rw [hk k _ hk1 (List.getElem?_eq_getElem hk1)]
        simp
      rw [this] at hq
      exact hq
theorem wp__law_reach : WpOk [false] 3 sp__law_reach m__law_reach := by
  rintro ds q x - ⟨es, rs, new, rfl, C, hq⟩
  have hn := C.hn
  have c := clo_heard es rs new
  refine ⟨.str new, rfl, bd_of (by omega) (by omega), ?_⟩
  refine ⟨fun n ρ => ∃ v w, ρ = [some (caseD es rs new), some (.mls (nats ((List.range n).map (reach es rs new)))), v, w], ⟨none, none, rfl⟩, ?_, ?_⟩
  · rintro n d ρ hd ⟨v, w, rfl⟩
    obtain ⟨hd1, rfl⟩ := rng0_get hd
    have hd : n < new.length := by
      have hd : n < ((new.length : Nat) : Int).toNat := hd1
      omega
    refine ⟨fun t ρ => ∃ e : Nat, ρ = [some (caseD es rs new), some (.mls (nats ((List.range n).map (reach es rs new)))), some (.int (n : Int)), some (.int (e : Int))] ∧ n < e ∧ e ≤ new.length ∧ heard es rs new n e = true ∧ t = new.length - e, ⟨_, n + 1, rfl, by omega, by omega, c.one n, rfl⟩, ?_⟩
    rintro t ρ ⟨e, rfl, h1, h2, h3, rfl⟩
    have fin : (e = new.length ∨ heard es rs new n (e + 1) = false) → reach es rs new n = e := fun z => rch_eq c ⟨h1, h2, h3, z⟩
    have app : reach es rs new n = e → (nats ((List.range n).map (reach es rs new))).length < 16777216 ∧ (∃ v w, [some (caseD es rs new), some (.mls (nats ((List.range n).map (reach es rs new)) ++ [.int (e : Int)])), some (.int (n : Int)), some (.int (e : Int))] = [some (caseD es rs new), some (.mls (nats ((List.range (n + 1)).map (reach es rs new)))), v, w]) := by
      intro z
      refine ⟨by simp [nats]; omega, some (.int (n : Int)), some (.int (e : Int)), ?_⟩
      rw [nats_map_succ, z]
    refine ⟨.str new, rfl, fun h => ?_, fun h => ⟨fun h => ab_ft h, fun _ => ?_⟩⟩
    · have h := of_decide_eq_true (show decide ((e : Int) < (new.length : Int)) = true from h)
      refine ⟨es, rs, new, n, e + 1, rfl, C, by omega, by omega, fun h4 => ?_, fun h4 => ?_⟩
      · exact ⟨new.length - (e + 1), by omega, e + 1, rfl, by omega, by omega, h4, rfl⟩
      · exact app (fin (.inr h4))
    · have h := of_decide_eq_false (show decide ((e : Int) < (new.length : Int)) = false from h)
      exact app (fin (.inl (by omega)))
  · rintro ρ ⟨v, w, rfl⟩
    have e1 : (rngI 0 ((new.length : Nat) : Int).toNat).length = new.length := by rw [rng_len]; omega
    rw [e1]
    have fz := nats_fz ((List.range new.length).map (reach es rs new))
    conv => whnf
    rw [fz]
    exact hq
end Lw
end

-- text K39g
section
set_option Elab.async false
set_option linter.all false
set_option maxRecDepth 100000
set_option maxHeartbeats 1000000
namespace Lw
open PySem PySem.Spec PyProof.Rows L2 Mi
/-! ### what a rule lets another one lets, too -/
def LeR (es : List Tx) (new : Tx) (r r' : Rule) : Prop := ∀ i m a, 0 < m → i + m ≤ new.length → givAll es new r i m a → givAll es new r' i m a
theorem leM_r {es : List Tx} {new : Tx} {r : Rule} {m1 m2 : Int} (h : m1 ≤ m2 ∨ (new.length : Int) ≤ m2) : LeR es new (setM m1 r) (setM m2 r) := by
  intro i m a hm him g
  have g1 := g.1
  have g2 := g.2
  cases r with
  | elder e t mo =>
    have g1 : (m : Int) ≤ m1 := g1
    exact ⟨by show (m : Int) ≤ m2; omega, g2⟩
  | back w ap t mo =>
    have g1 : (m : Int) ≤ m1 := g1
    exact ⟨by show (m : Int) ≤ m2; omega, g2⟩
theorem leW_r {es : List Tx} {new : Tx} {r : Rule} {w1 w2 : Int} (h : w1 ≤ w2 ∨ (new.length : Int) ≤ w2) : LeR es new (setW w1 r) (setW w2 r) := by
  intro i m a hm him g
  cases r with
  | elder e t mo => exact g
  | back w ap t mo =>
    refine ⟨g.1, fun s hs => ?_⟩
    have gs := g.2 s hs
    refine ⟨gs.1, gs.2.1, ?_⟩
    have n1 := gs.2.2
    unfold near at n1 ⊢
    refine ⟨n1.1, ?_, n1.2.2⟩
    have : ((i + s : Nat) : Int) ≤ (plc t a m s : Int) + w1 := n1.2.1
    show ((i + s : Nat) : Int) ≤ (plc t a m s : Int) + w2
    omega
theorem set_le {es : List Tx} {rs : List Rule} {new : Tx} {k : Nat} {r r' : Rule} (h : LeR es new r r') : ∀ i j, i < j → j ≤ new.length → heard es (rs.set k r) new i j = true → heard es (rs.set k r') new i j = true := by
  intro i j hij hj hh
  unfold heard at hh ⊢
  simp only [Bool.or_eq_true, decide_eq_true_eq, List.any_eq_true] at hh ⊢
  rcases hh with hh | ⟨y, hy, hh⟩
  · exact .inl hh
  · right
    obtain ⟨a, ga⟩ := (hb_iff (by omega)).mp hh
    obtain ⟨p, hp⟩ := List.mem_iff_getElem?.mp hy
    rw [List.getElem?_set] at hp
    by_cases e : k = p
    · rw [if_pos e] at hp
      by_cases l : p < rs.length
      · rw [if_pos (by omega)] at hp
        cases hp
        refine ⟨r', List.mem_iff_getElem?.mpr ⟨p, by rw [List.getElem?_set, if_pos e, if_pos (by omega)]⟩, (hb_iff (by omega)).mpr ⟨a, h i (j - i) a (by omega) (by omega) ga⟩⟩
      · rw [if_neg (by omega)] at hp
        cases hp
    · rw [if_neg e] at hp
      exact ⟨y, List.mem_iff_getElem?.mpr ⟨p, by rw [List.getElem?_set, if_neg e]; exact hp⟩, hh⟩
theorem rch_mono {h h' : Nat → Nat → Bool} {n i : Nat} (c : Clo h) (c' : Clo h') (hi : i < n) (le : ∀ i j, i < j → j ≤ n → h i j = true → h' i j = true) : rch h n i ≤ rch h' n i := by
  obtain ⟨a1, a2, a3, _⟩ := rch_ok c hi
  obtain ⟨b1, b2, _, b4⟩ := rch_ok c' hi
  rcases Nat.lt_or_ge (rch h' n i) (rch h n i) with z | z
  · rcases b4 with b4 | b4
    · omega
    · have := le i (rch h' n i + 1) (by omega) (by omega) (c.sub a3 (Nat.le_refl _) (by omega) (by omega))
      rw [this] at b4
      cases b4
  · exact z
theorem rch_up {h : Nat → Nat → Bool} {n i i' : Nat} (c : Clo h) (hi : i ≤ i') (hi' : i' < n) : rch h n i ≤ rch h n i' := by
  obtain ⟨a1, a2, a3, _⟩ := rch_ok (n := n) c (show i < n by omega)
  obtain ⟨b1, b2, _, b4⟩ := rch_ok c hi'
  rcases Nat.lt_or_ge (rch h n i') (rch h n i) with z | z
  · rcases b4 with b4 | b4
    · omega
    · have := c.sub (i' := i') (j' := rch h n i' + 1) a3 hi (by omega) (by omega)
      rw [this] at b4
      cases b4
  · exact z
theorem st_mono {f f' : Nat → Nat} {n : Nat} (hf : ∀ i, i < n → f i ≤ f' i) (up : ∀ i i', i ≤ i' → i' < n → f' i ≤ f' i') : ∀ k a a', a ≤ a' → st f' n k a' ≤ st f n k a
  | 0, _, _, _ => Nat.le_refl _
  | k + 1, a, a', h => by
    unfold st
    by_cases z : a' < n
    · rw [decide_eq_true z, decide_eq_true (show a < n by omega)]
      have := st_mono hf up k (f a) (f' a') (Nat.le_trans (hf a (by omega)) (up a a' h z))
      show st f' n k (f' a') + 1 ≤ st f n k (f a) + 1
      omega
    · rw [decide_eq_false z]
      exact Nat.zero_le _
theorem pcs_mono {es : List Tx} {rs rs' : List Rule} {new : Tx} (h : ∀ i j, i < j → j ≤ new.length → heard es rs new i j = true → heard es rs' new i j = true) : pcs es rs' new ≤ pcs es rs new :=
  st_mono (fun i hi => rch_mono (clo_heard es rs new) (clo_heard es rs' new) hi h) (fun i i' h1 h2 => rch_up (clo_heard es rs' new) h1 h2) _ _ _ (Nat.le_refl _)
theorem set_self {rs : List Rule} {k : Nat} {r : Rule} (h : rs[k]? = some r) : rs.set k r = rs := by
  obtain ⟨hk, e⟩ := List.getElem?_eq_some_iff.mp h
  subst e
  exact List.set_getElem_self hk
theorem setM_own (r : Rule) : setM (mostR r) r = r := by cases r <;> rfl
theorem setW_own {r : Rule} (h : isB r = true) : setW (widR r) r = r := by
  cases r with
  | elder e t m => cases h
  | back w a t m => rfl
/-! ### the least bound -/
theorem lb_spec {P : Nat → Bool} : ∀ (f lo : Nat), lo ≤ lb P f lo ∧ lb P f lo ≤ lo + f ∧ (∀ b, lo ≤ b → b < lb P f lo → P b = false) ∧ (lb P f lo < lo + f → P (lb P f lo) = true)
  | 0, lo => ⟨Nat.le_refl _, Nat.le_refl _, fun b h1 h2 => absurd h2 (by show ¬ b < lo; omega), fun h => absurd h (by show ¬ lo < lo; omega)⟩
  | f + 1, lo => by
    unfold lb
    cases e : P lo with
    | true => exact ⟨Nat.le_refl _, by show lo ≤ lo + (f + 1); omega, fun b h1 h2 => absurd h2 (by show ¬ b < lo; omega), fun _ => e⟩
    | false =>
      obtain ⟨h1, h2, h3, h4⟩ := lb_spec (P := P) f (lo + 1)
      refine ⟨by show lo ≤ lb P f (lo + 1); omega, by show lb P f (lo + 1) ≤ _; omega, fun b hb1 hb2 => ?_, fun h => h4 (by have h : lb P f (lo + 1) < lo + (f + 1) := h; omega)⟩
      by_cases z : b = lo
      · rw [z]; exact e
      · exact h3 b (by omega) hb2
theorem lb_uniq {P : Nat → Bool} {f lo x : Nat} (h1 : lo ≤ x) (h2 : x ≤ lo + f) (h3 : ∀ b, lo ≤ b → b < x → P b = false) (h4 : x < lo + f → P x = true) : lb P f lo = x := by
  obtain ⟨a1, a2, a3, a4⟩ := lb_spec (P := P) f lo
  rcases Nat.lt_trichotomy (lb P f lo) x with z | z | z
  · have := h3 _ a1 z
    rw [a4 (by omega)] at this
    cases this
  · exact z
  · have := a3 x h1 z
    rw [h4 (by omega)] at this
    cases this
theorem pcM_le {es : List Tx} {rs : List Rule} {new : Tx} {k : Nat} {r : Rule} {m1 m2 : Int} (h : m1 ≤ m2 ∨ (new.length : Int) ≤ m2) : pcM es rs new k r m2 ≤ pcM es rs new k r m1 := pcs_mono (set_le (leM_r h))
theorem pcM_own {es : List Tx} {rs : List Rule} {new : Tx} {k : Nat} {r : Rule} (hr : rs[k]? = some r) : pcM es rs new k r (mostR r) = pcs es rs new := by
  unfold pcM
  rw [setM_own, set_self hr]
theorem leM_eq {es : List Tx} {rs : List Rule} {new : Tx} {k : Nat} {r : Rule} (ru : RuOk r) (hr : rs[k]? = some r) {x : Nat} (h1 : 2 ≤ x) (h2 : (x : Int) ≤ mostR r) (h3 : ∀ b : Nat, 2 ≤ b → b < x → ¬ pcM es rs new k r (b : Int) ≤ pcs es rs new) (h4 : (x : Int) < mostR r → pcM es rs new k r (x : Int) ≤ pcs es rs new) : leM es rs new k r = x := by
  have := ru.1
  have := ru.2.2.1
  refine lb_uniq h1 (by omega) (fun b hb1 hb2 => decide_eq_false (h3 b hb1 hb2)) (fun h => decide_eq_true (h4 (by omega)))
theorem leM_facts {es : List Tx} {rs : List Rule} {new : Tx} {k : Nat} {r : Rule} (ru : RuOk r) (hr : rs[k]? = some r) : 2 ≤ leM es rs new k r ∧ (leM es rs new k r : Int) ≤ mostR r ∧ (∀ b : Nat, 2 ≤ b → b < leM es rs new k r → ¬ pcM es rs new k r (b : Int) ≤ pcs es rs new) ∧ pcM es rs new k r (leM es rs new k r : Int) ≤ pcs es rs new ∧ leM es rs new k r ≤ new.length + 2 := by
  have u1 := ru.1
  have u2 := ru.2.2.1
  obtain ⟨a1, a2, a3, a4⟩ := lb_spec (P := fun b => decide (pcM es rs new k r (b : Int) ≤ pcs es rs new)) ((mostR r).toNat - 2) 2
  have a3' : ∀ b : Nat, 2 ≤ b → b < leM es rs new k r → ¬ pcM es rs new k r (b : Int) ≤ pcs es rs new := fun b h1 h2 => of_decide_eq_false (a3 b h1 h2)
  have a2' : (leM es rs new k r : Int) ≤ mostR r := by
    have : leM es rs new k r ≤ 2 + ((mostR r).toNat - 2) := a2
    omega
  refine ⟨a1, a2', a3', ?_, ?_⟩
  · by_cases z : (leM es rs new k r : Int) < mostR r
    · refine of_decide_eq_true (a4 ?_)
      show leM es rs new k r < _
      omega
    · have e : (leM es rs new k r : Int) = mostR r := by omega
      rw [e, pcM_own hr]
      exact Nat.le_refl _
  · rcases Nat.lt_or_ge (new.length + 2) (leM es rs new k r) with z | z
    · refine absurd ?_ (a3' (new.length + 2) (by omega) z)
      have := pcM_le (es := es) (rs := rs) (new := new) (k := k) (r := r) (m1 := mostR r) (m2 := ((new.length + 2 : Nat) : Int)) (.inr (by omega))
      rw [pcM_own hr] at this
      exact this
    · exact z
theorem pcW_le {es : List Tx} {rs : List Rule} {new : Tx} {k : Nat} {r : Rule} {m1 m2 : Int} (h : m1 ≤ m2 ∨ (new.length : Int) ≤ m2) : pcW es rs new k r m2 ≤ pcW es rs new k r m1 := pcs_mono (set_le (leW_r h))
theorem pcW_own {es : List Tx} {rs : List Rule} {new : Tx} {k : Nat} {r : Rule} (hr : rs[k]? = some r) (hb : isB r = true) : pcW es rs new k r (widR r) = pcs es rs new := by
  unfold pcW
  rw [setW_own hb, set_self hr]
theorem leW_eq {es : List Tx} {rs : List Rule} {new : Tx} {k : Nat} {r : Rule} (ru : RuOk r) (hr : rs[k]? = some r) (hb : isB r = true) {x : Nat} (h1 : 1 ≤ x) (h2 : (x : Int) ≤ widR r) (h3 : ∀ b : Nat, 1 ≤ b → b < x → ¬ pcW es rs new k r (b : Int) ≤ pcs es rs new) (h4 : (x : Int) < widR r → pcW es rs new k r (x : Int) ≤ pcs es rs new) : leW es rs new k r = x := by
  have := ru.1
  have := ru.2.2.1
  refine lb_uniq h1 (by omega) (fun b hb1 hb2 => decide_eq_false (h3 b hb1 hb2)) (fun h => decide_eq_true (h4 (by omega)))
theorem leW_facts {es : List Tx} {rs : List Rule} {new : Tx} {k : Nat} {r : Rule} (ru : RuOk r) (hr : rs[k]? = some r) (hb : isB r = true) : 1 ≤ leW es rs new k r ∧ (leW es rs new k r : Int) ≤ widR r ∧ (∀ b : Nat, 1 ≤ b → b < leW es rs new k r → ¬ pcW es rs new k r (b : Int) ≤ pcs es rs new) ∧ pcW es rs new k r (leW es rs new k r : Int) ≤ pcs es rs new ∧ leW es rs new k r ≤ new.length + 1 := by
  have u1 := ru.1
  have u2 := ru.2.2.1
  obtain ⟨a1, a2, a3, a4⟩ := lb_spec (P := fun b => decide (pcW es rs new k r (b : Int) ≤ pcs es rs new)) ((widR r).toNat - 1) 1
  have a3' : ∀ b : Nat, 1 ≤ b → b < leW es rs new k r → ¬ pcW es rs new k r (b : Int) ≤ pcs es rs new := fun b h1 h2 => of_decide_eq_false (a3 b h1 h2)
  have a2' : (leW es rs new k r : Int) ≤ widR r := by
    have : leW es rs new k r ≤ 1 + ((widR r).toNat - 1) := a2
    omega
  refine ⟨a1, a2', a3', ?_, ?_⟩
  · by_cases z : (leW es rs new k r : Int) < widR r
    · refine of_decide_eq_true (a4 ?_)
      show leW es rs new k r < _
      omega
    · have e : (leW es rs new k r : Int) = widR r := by omega
      rw [e, pcW_own hr hb]
      exact Nat.le_refl _
  · rcases Nat.lt_or_ge (new.length + 1) (leW es rs new k r) with z | z
    · refine absurd ?_ (a3' (new.length + 1) (by omega) z)
      have := pcW_le (es := es) (rs := rs) (new := new) (k := k) (r := r) (m1 := widR r) (m2 := ((new.length + 1 : Nat) : Int)) (.inr (by omega))
      rw [pcW_own hr hb] at this
      exact this
    · exact z
theorem ruleAt_some {rs : List Rule} {i : Int} {r : Rule} (h : ruleAt rs i = some r) : 0 ≤ i ∧ rs[i.toNat]? = some r := by
  unfold ruleAt at h
  by_cases z : 0 ≤ i
  · rw [decide_eq_true z] at h
    exact ⟨z, h⟩
  · rw [decide_eq_false z] at h
    cases h
theorem ruleAt_nat {rs : List Rule} {k : Nat} : ruleAt rs (k : Int) = rs[k]? := by
  unfold ruleAt
  rw [decide_eq_true (by omega)]
  rfl
theorem ruleAt_none {rs : List Rule} {i : Int} (h : ruleAt rs i = none) : ¬ (0 ≤ i ∧ i < rs.length) := by
  unfold ruleAt at h
  by_cases z : 0 ≤ i
  · rw [decide_eq_true z] at h
    have := List.getElem?_eq_none_iff.mp h
    omega
  · omega
theorem ruleAt_no {rs : List Rule} {i : Int} (h : ¬ (0 ≤ i ∧ i < rs.length)) : ruleAt rs i = none := by
  unfold ruleAt
  by_cases z : 0 ≤ i
  · rw [decide_eq_true z]
    exact List.getElem?_eq_none_iff.mpr (by omega)
  · rw [decide_eq_false z]
theorem set_D {rs : List Rule} {k : Nat} {r : Rule} (h : k < rs.length) : (rs.take k).map rD ++ [rD r] ++ (rs.drop (k + 1)).map rD = (rs.set k r).map rD := by
  rw [List.set_eq_take_append_cons_drop, if_pos h, List.map_append, List.map_cons, List.append_assoc]
  rfl
theorem ok_setM {n : Nat} {r : Rule} {m : Int} (h : RuleOk n r) : RuleOk n (setM m r) := by cases r <;> exact h
theorem ok_setW {n : Nat} {r : Rule} {w : Int} (h : RuleOk n r) (h1 : 0 ≤ w) (h2 : w ≤ 1000) : RuleOk n (setW w r) := by
  cases r with
  | elder e t m => exact h
  | back _ a t m => exact ⟨h1, h2⟩
theorem set_ok {es : List Tx} {rs : List Rule} {new : Tx} {k : Nat} {r : Rule} (C : CaseOk es rs new) (h : RuleOk es.length r) : CaseOk es (rs.set k r) new :=
  ⟨C.he, by rw [List.length_set]; exact C.hr, C.hn, C.hel, fun y hy => by
    rcases List.mem_or_eq_of_mem_set hy with hy | rfl
    · exact C.hru y hy
    · exact h⟩
end Lw
end

-- text K39h
section
set_option Elab.async false
set_option linter.all false
set_option maxRecDepth 100000
set_option maxHeartbeats 1000000
namespace Lw
open PySem PySem.Spec PyProof.Rows L2 Mi
theorem rds_cut1 {rs : List Rule} {k : Nat} : cutD (rs.map rD) none (some (k : Int)) = (rs.take k).map rD := by rw [cutD_hin, List.map_take]
theorem rds_cut2 {rs : List Rule} {k : Nat} : cutD (rs.map rD) (some ((k : Int) + 1)) none = (rs.drop (k + 1)).map rD := by
  rw [show (k : Int) + 1 = ((k + 1 : Nat) : Int) by omega, cutD_lon, List.map_drop]
theorem wp__with : WpOk [false, false, false] 3 sp__with m__with := by
  rintro ds q x - ⟨es, rs, new, k, r, rfl, hl, hk, hq⟩
  have hz := rD_fz r
  conv => whnf
  rw [rds_cut1, hz]
  refine ⟨by rw [List.length_map, List.length_take]; show _ + 1 ≤ _; omega, ?_⟩
  conv => whnf
  rw [rds_cut2]
  refine ⟨by rw [List.length_append, List.length_map, List.length_map, List.length_take, List.length_drop]; show _ + 1 + _ ≤ _; omega, ?_⟩
  rw [set_D hk]
  exact hq
theorem wp__check_rule : WpOk [false, false] 0 sp__check_rule m__check_rule := by
  rintro ds q x - ⟨es, rs, new, i, rfl, hq⟩
  have ln : (rs.map rD).length = rs.length := List.length_map ..
  cases e : ruleAt rs i with
  | some r =>
    rw [e] at hq
    have h := ruleAt_some e
    have hk := (List.getElem?_eq_some_iff.mp h.2).1
    refine ⟨fun h => ab_ft h, fun _ => ⟨fun h => ab_ft h, fun _ => ⟨fun _ => ⟨.tup (rs.map rD), rfl, fun hb => ?_, fun _ => hq⟩, fun ha => ?_⟩⟩⟩
    · have hb : (!decide (i < ((rs.map rD).length : Int))) = true := hb
      rw [ln, decide_eq_true (by omega)] at hb
      cases hb
    · have ha := of_decide_eq_false (show decide ((0 : Int) ≤ i) = false from ha)
      exact absurd h.1 ha
  | none =>
    rw [e] at hq
    have h := ruleAt_none e
    refine ⟨fun h => ab_ft h, fun _ => ⟨fun h => ab_ft h, fun _ => ⟨fun ha => ⟨.tup (rs.map rD), rfl, fun hb => hq, fun hb => ?_⟩, fun ha => ⟨fun _ => hq, fun h => ab_tf h⟩⟩⟩⟩
    have ha := of_decide_eq_true (show decide ((0 : Int) ≤ i) = true from ha)
    have hb : (!decide (i < ((rs.map rD).length : Int))) = false := hb
    rw [ln, decide_eq_false (by omega)] at hb
    cases hb
theorem wp_pieces_by_most : WpOk [false, false, false] 2 sp_pieces_by_most m_pieces_by_most := by
  rintro ds q x - ⟨es, rs, new, i, ms, rfl, C, B, hq⟩
  refine ⟨es, rs, new, i, rfl, ?_⟩
  cases e : ruleAt rs i with
  | none =>
    rw [e] at hq
    exact hq
  | some r =>
    rw [e] at hq
    obtain ⟨h0, hr⟩ := ruleAt_some e
    obtain ⟨k, rfl⟩ : ∃ k : Nat, i = k := ⟨i.toNat, by omega⟩
    have hr : rs[k]? = some r := hr
    have hk := (List.getElem?_eq_some_iff.mp hr).1
    have hok := C.C.hru r (List.mem_of_getElem? hr)
    refine ⟨.tup (rs.map rD), rfl, rD r, map_ix hr, ?_⟩
    refine lc_map (l := ms) (f := D.int) (fun _ => true) (fun m => .int (pcM es rs new k r m : Int)) ?_ (by have := B.1; omega) ?_
    · intro t m hm A B' hA hB
      refine ⟨fun _ => ?_, fun h => ab_tf h⟩
      have fin : A (.int (pcM es rs new k r m : Int)) [some (caseD es rs new), some (.int (k : Int)), some (.tup (inz ms)), some (rD r), some (.int m)] := hA _ rfl rfl
      cases r with
      | elder el t mo =>
        refine ⟨Nat.le_of_ble_eq_true rfl, es, rs, new, k, .elder el t m, rfl, C.C.hr, hk, ?_⟩
        exact ⟨es, rs.set k (.elder el t m), new, rfl, set_ok C.C hok, fin⟩
      | back w ap t mo =>
        refine ⟨Nat.le_of_ble_eq_true rfl, es, rs, new, k, .back w ap t m, rfl, C.C.hr, hk, ?_⟩
        exact ⟨es, rs.set k (.back w ap t m), new, rfl, set_ok C.C hok, fin⟩
    · rw [filt_all]
      have hq : q (.tup (nats (ms.map (pcM es rs new k r)))) [caseD es rs new, .int (k : Int), .tup (inz ms)] := hq
      rw [nats, List.map_map] at hq
      exact hq
theorem wp_pieces_by_wide : WpOk [false, false, false] 2 sp_pieces_by_wide m_pieces_by_wide := by
  rintro ds q x - ⟨es, rs, new, i, ms, rfl, C, B, hq⟩
  refine ⟨es, rs, new, i, rfl, ?_⟩
  cases e : ruleAt rs i with
  | none =>
    rw [e] at hq
    exact hq
  | some r =>
    rw [e] at hq
    obtain ⟨h0, hr⟩ := ruleAt_some e
    obtain ⟨k, rfl⟩ : ∃ k : Nat, i = k := ⟨i.toNat, by omega⟩
    have hr : rs[k]? = some r := hr
    have hk := (List.getElem?_eq_some_iff.mp hr).1
    have hok := C.C.hru r (List.mem_of_getElem? hr)
    refine ⟨.tup (rs.map rD), rfl, rD r, map_ix hr, ?_⟩
    cases r with
    | elder el t mo => exact ⟨.str ELDER, rfl, fun _ => hq, fun h => ab_tf h⟩
    | back w ap t mo =>
      refine ⟨.str BACK, rfl, fun h => ab_ft h, fun _ => ?_⟩
      refine lc_map (l := ms) (f := D.int) (fun _ => true) (fun m => .int (pcW es rs new k (.back w ap t mo) m : Int)) ?_ (by have := B.1; omega) ?_
      · intro tt m hm A B' hA hB
        refine ⟨fun _ => ?_, fun h => ab_tf h⟩
        have hm2 := B.2 m (List.mem_of_getElem? hm)
        refine ⟨Nat.le_of_ble_eq_true rfl, Nat.le_of_ble_eq_true rfl, es, rs, new, k, .back m ap t mo, rfl, C.C.hr, hk, ?_⟩
        exact ⟨es, rs.set k (.back m ap t mo), new, rfl, set_ok C.C ⟨by omega, by omega⟩, hA _ rfl rfl⟩
      · rw [filt_all]
        have hq : q (.tup (nats (ms.map (pcW es rs new k (.back w ap t mo))))) [caseD es rs new, .int (k : Int), .tup (inz ms)] := hq
        rw [nats, List.map_map] at hq
        exact hq
theorem wp_widest_case : WpOk [false] 5 sp_widest_case m_widest_case := by
  rintro ds q x - ⟨es, rs, new, rfl, hl, hq⟩
  refine ⟨fun k ρ => ∃ v, ρ = [some (caseD es rs new), some (.tup (es.map D.str)), some (.tup (rs.map rD)), some (.str new), some (.mls (((rs.take k).map wid).map rD)), v], ⟨none, rfl⟩, ?_, ?_⟩
  · rintro k d ρ hd ⟨v, rfl⟩
    obtain ⟨r, hr, rfl⟩ := map_get hd
    have hk := (List.getElem?_eq_some_iff.mp hr).1
    have hs : ((rs.take (k + 1)).map wid).map rD = ((rs.take k).map wid).map rD ++ [rD (wid r)] := by
      rw [List.take_add_one, hr, List.map_append, List.map_append]
      rfl
    have ll : (((rs.take k).map wid).map rD).length < 16777216 := by
      rw [List.length_map, List.length_map, List.length_take]
      omega
    cases r with
    | elder el t mo => exact ⟨.str ELDER, rfl, fun _ => ⟨Nat.le_of_ble_eq_true rfl, ll, _, by rw [hs]; rfl⟩, fun h => ab_tf h⟩
    | back w ap t mo => exact ⟨.str BACK, rfl, fun h => ab_ft h, fun _ => ⟨Nat.le_of_ble_eq_true rfl, Nat.le_of_ble_eq_true rfl, ll, _, by rw [hs]; rfl⟩⟩
  · rintro ρ ⟨v, rfl⟩
    rw [List.length_map, List.take_length]
    have fz : fzs ((rs.map wid).map rD) = true := List.all_eq_true.mpr fun y hy => by
      obtain ⟨r, _, rfl⟩ := List.mem_map.mp hy
      exact rD_fz r
    exact ⟨fz, hq⟩
theorem wid_ok {es : List Tx} {rs : List Rule} {new : Tx} (C : CaseOk es rs new) : CaseOk es (rs.map wid) new :=
  ⟨C.he, by rw [List.length_map]; exact C.hr, C.hn, C.hel, fun y hy => by
    obtain ⟨r, hr, rfl⟩ := List.mem_map.mp hy
    have := C.hru r hr
    cases r with
    | elder e t m => exact this
    | back w a t m => exact ⟨by decide, by decide⟩⟩
theorem wp_lost_by_bounds : WpOk [false] 0 sp_lost_by_bounds m_lost_by_bounds := by
  rintro ds q x - ⟨es, rs, new, rfl, C, hq⟩
  refine ⟨es, rs, new, rfl, C, es, rs, new, rfl, C.hr, ?_⟩
  exact ⟨es, rs.map wid, new, rfl, wid_ok C, hq⟩
theorem wp__law_with : WpOk [false, false, false, false] 2 sp__law_with m__law_with := by
  rintro ds q x - ⟨es, rs, new, k, r, r', m, w, rfl, hl, hr, hc, hq⟩
  have hk := (List.getElem?_eq_some_iff.mp hr).1
  refine ⟨.tup (rs.map rD), rfl, rD r, map_ix hr, ?_⟩
  have fin : ∀ r2 : Rule, r2 = r' → (mRet (mTup 3 (mCons (mOp fIx (mVarF 0) (mC (.int 0))) (mCons (mOp fAdd (mOp fAdd (mSl (mOp fIx (mVarF 0) (mC (.int 1))) mNo (mPart (mVarF 1))) (mTup 1 (mCons (mVarF 5) mNil))) (mSl (mOp fIx (mVarF 0) (mC (.int 1))) (mPart (mOp fAdd (mVarF 1) (mC (.int 1)))) mNo)) (mCons (mOp fIx (mVarF 0) (mC (.int 2))) mNil))))) (endsOf [false, false, false, false] [caseD es rs new, .int (k : Int), .int m, .int w] q x) [some (caseD es rs new), some (.int (k : Int)), some (.int m), some (.int w), some (rD r), some (rD r2)] := by
    rintro r2 rfl
    have hz := rD_fz r2
    refine ⟨.tup (es.map D.str), rfl, .tup (rs.map rD), rfl, ?_⟩
    conv => whnf
    rw [rds_cut1, hz]
    refine ⟨by rw [List.length_map, List.length_take]; show _ + 1 ≤ _; omega, .tup (rs.map rD), rfl, ?_⟩
    conv => whnf
    rw [rds_cut2]
    refine ⟨by rw [List.length_append, List.length_map, List.length_map, List.length_take, List.length_drop]; show _ + 1 + _ ≤ _; omega, .str new, rfl, ?_⟩
    rw [set_D hk]
    exact hq
  rcases hc with ⟨h1, rfl, e⟩ | ⟨rfl, h1, hb, e⟩
  · have no : ∀ {P : Prop}, decide ((0 : Int) < 0) = true → P := fun h => absurd h (by decide)
    have no2 : ∀ {P : Prop}, decide ((0 : Int) < m) = false → P := fun h => absurd (of_decide_eq_false h) (by omega)
    cases r with
    | elder el t mo => exact ⟨fun _ => ⟨Nat.le_of_ble_eq_true rfl, fun h => no h, fun _ => fin (.elder el t m) e.symm⟩, fun h => no2 h⟩
    | back wd ap t mo => exact ⟨fun _ => ⟨Nat.le_of_ble_eq_true rfl, fun h => no h, fun _ => fin (.back wd ap t m) e.symm⟩, fun h => no2 h⟩
  · have no : ∀ {P : Prop}, decide ((0 : Int) < 0) = true → P := fun h => absurd h (by decide)
    have no2 : ∀ {P : Prop}, decide ((0 : Int) < w) = false → P := fun h => absurd (of_decide_eq_false h) (by omega)
    cases r with
    | elder el t mo => cases hb
    | back wd ap t mo => exact ⟨fun h => no h, fun _ => ⟨fun _ => ⟨.str BACK, rfl, Nat.le_of_ble_eq_true rfl, fin (.back w ap t mo) e.symm⟩, fun h => no2 h⟩⟩
end Lw
end

-- text K39i
section
set_option Elab.async false
set_option linter.all false
set_option maxRecDepth 100000
set_option maxHeartbeats 1000000
namespace Lw
open PySem PySem.Spec PyProof.Rows L2 Mi
theorem wl_leastM {es : List Tx} {rs : List Rule} {new : Tx} {k : Nat} {r : Rule} {q : D → List D → Prop} {x : Er → List D → Prop} (C : CsOk es rs new) (hr : rs[k]? = some r) (hq : q (.int (leM es rs new k r : Int)) [caseD es rs new, .int (k : Int)]) :
    m_least_most_5 (endsOf [false, false] [caseD es rs new, .int (k : Int)] q x) [some (caseD es rs new), some (.int (k : Int)), some (rD r), some (.int (pcs es rs new : Int)), some (.int 2), some (.int (mostR r)), none] := by
  have hk := (List.getElem?_eq_some_iff.mp hr).1
  have hok := C.C.hru r (List.mem_of_getElem? hr)
  have ru := C.ru r (List.mem_of_getElem? hr)
  have u1 := ru.1
  have u2 := ru.2.2.1
  obtain ⟨own, eo⟩ : ∃ own : Nat, mostR r = own := ⟨(mostR r).toNat, by omega⟩
  refine ⟨fun t ρ => ∃ (lo hi : Nat) (v : Option D), ρ = [some (caseD es rs new), some (.int (k : Int)), some (rD r), some (.int (pcs es rs new : Int)), some (.int (lo : Int)), some (.int (hi : Int)), v] ∧ t = hi - lo ∧ 2 ≤ lo ∧ lo ≤ hi ∧ (hi : Int) ≤ mostR r ∧ (∀ b : Nat, 2 ≤ b → b < lo → ¬ pcM es rs new k r (b : Int) ≤ pcs es rs new) ∧ ((hi : Int) < mostR r → pcM es rs new k r (hi : Int) ≤ pcs es rs new), ⟨_, 2, own, none, by rw [eo]; rfl, rfl, Nat.le_refl _, by omega, by omega, fun b h1 h2 => absurd h2 (by omega), fun h => absurd h (by omega)⟩, ?_⟩
  rintro t ρ ⟨lo, hi, v, rfl, rfl, h1, h12, h2, hA, hB⟩
  refine ⟨fun h => ?_, fun h => ?_⟩
  · have h := of_decide_eq_true (show decide ((lo : Int) < (hi : Int)) = true from h)
    obtain ⟨mid, em⟩ : ∃ mid, (lo + hi) / 2 = mid := ⟨_, rfl⟩
    have e1 : ((lo : Int) + (hi : Int)) / 2 = (mid : Int) := by omega
    refine ⟨⟨by decide, small_of (by decide)⟩, ?_⟩
    have yes : decide ((pcM es rs new k r (mid : Int) : Int) ≤ (pcs es rs new : Int)) = true → ∃ t', t' < hi - lo ∧ ∃ (lo' hi' : Nat) (v : Option D), [some (caseD es rs new), some (.int (k : Int)), some (rD r), some (.int (pcs es rs new : Int)), some (.int (lo : Int)), some (.int (((lo : Int) + (hi : Int)) / 2)), some (.int (((lo : Int) + (hi : Int)) / 2))] = [some (caseD es rs new), some (.int (k : Int)), some (rD r), some (.int (pcs es rs new : Int)), some (.int (lo' : Int)), some (.int (hi' : Int)), v] ∧ t' = hi' - lo' ∧ 2 ≤ lo' ∧ lo' ≤ hi' ∧ (hi' : Int) ≤ mostR r ∧ (∀ b : Nat, 2 ≤ b → b < lo' → ¬ pcM es rs new k r (b : Int) ≤ pcs es rs new) ∧ ((hi' : Int) < mostR r → pcM es rs new k r (hi' : Int) ≤ pcs es rs new) := by
      intro z
      have z := of_decide_eq_true z
      exact ⟨mid - lo, by omega, lo, mid, some (.int (mid : Int)), by rw [e1], rfl, h1, by omega, by omega, hA, fun _ => by omega⟩
    have no : decide ((pcM es rs new k r (mid : Int) : Int) ≤ (pcs es rs new : Int)) = false → ∃ t', t' < hi - lo ∧ ∃ (lo' hi' : Nat) (v : Option D), [some (caseD es rs new), some (.int (k : Int)), some (rD r), some (.int (pcs es rs new : Int)), some (.int ((((lo : Int) + (hi : Int)) / 2) + 1)), some (.int (hi : Int)), some (.int (((lo : Int) + (hi : Int)) / 2))] = [some (caseD es rs new), some (.int (k : Int)), some (rD r), some (.int (pcs es rs new : Int)), some (.int (lo' : Int)), some (.int (hi' : Int)), v] ∧ t' = hi' - lo' ∧ 2 ≤ lo' ∧ lo' ≤ hi' ∧ (hi' : Int) ≤ mostR r ∧ (∀ b : Nat, 2 ≤ b → b < lo' → ¬ pcM es rs new k r (b : Int) ≤ pcs es rs new) ∧ ((hi' : Int) < mostR r → pcM es rs new k r (hi' : Int) ≤ pcs es rs new) := by
      intro z
      have z := of_decide_eq_false z
      refine ⟨hi - (mid + 1), by omega, mid + 1, hi, some (.int (mid : Int)), by rw [e1]; rfl, rfl, by omega, by omega, h2, fun b hb1 hb2 hb3 => ?_, hB⟩
      have := pcM_le (es := es) (rs := rs) (new := new) (k := k) (r := r) (m1 := (b : Int)) (m2 := (mid : Int)) (.inl (by omega))
      omega
    cases r with
    | elder el t mo =>
      refine ⟨Nat.le_of_ble_eq_true rfl, es, rs, new, k, .elder el t (mid : Int), by rw [← e1]; rfl, C.C.hr, hk, ?_⟩
      exact ⟨es, rs.set k (.elder el t (mid : Int)), new, rfl, set_ok C.C hok, fun h => yes h, fun h => no h⟩
    | back w ap t mo =>
      refine ⟨Nat.le_of_ble_eq_true rfl, es, rs, new, k, .back w ap t (mid : Int), by rw [← e1]; rfl, C.C.hr, hk, ?_⟩
      exact ⟨es, rs.set k (.back w ap t (mid : Int)), new, rfl, set_ok C.C hok, fun h => yes h, fun h => no h⟩
  · have h := of_decide_eq_false (show decide ((lo : Int) < (hi : Int)) = false from h)
    have e : lo = hi := by omega
    subst e
    rw [leM_eq ru hr h1 h2 hA hB] at hq
    exact hq
theorem wl_leastW {es : List Tx} {rs : List Rule} {new : Tx} {k : Nat} {r : Rule} {q : D → List D → Prop} {x : Er → List D → Prop} (C : CsOk es rs new) (hr : rs[k]? = some r) (hb : isB r = true) (hq : q (.int (leW es rs new k r : Int)) [caseD es rs new, .int (k : Int)]) :
    m_least_wide_6 (endsOf [false, false] [caseD es rs new, .int (k : Int)] q x) [some (caseD es rs new), some (.int (k : Int)), some (rD r), some (.int (pcs es rs new : Int)), some (.int 1), some (.int (widR r)), none] := by
  have hk := (List.getElem?_eq_some_iff.mp hr).1
  have hok := C.C.hru r (List.mem_of_getElem? hr)
  have ru := C.ru r (List.mem_of_getElem? hr)
  have u1 := ru.1
  have u2 := ru.2.2.1
  obtain ⟨own, eo⟩ : ∃ own : Nat, widR r = own := ⟨(widR r).toNat, by omega⟩
  refine ⟨fun t ρ => ∃ (lo hi : Nat) (v : Option D), ρ = [some (caseD es rs new), some (.int (k : Int)), some (rD r), some (.int (pcs es rs new : Int)), some (.int (lo : Int)), some (.int (hi : Int)), v] ∧ t = hi - lo ∧ 1 ≤ lo ∧ lo ≤ hi ∧ (hi : Int) ≤ widR r ∧ (∀ b : Nat, 1 ≤ b → b < lo → ¬ pcW es rs new k r (b : Int) ≤ pcs es rs new) ∧ ((hi : Int) < widR r → pcW es rs new k r (hi : Int) ≤ pcs es rs new), ⟨_, 1, own, none, by rw [eo]; rfl, rfl, Nat.le_refl _, by omega, by omega, fun b h1 h2 => absurd h2 (by omega), fun h => absurd h (by omega)⟩, ?_⟩
  rintro t ρ ⟨lo, hi, v, rfl, rfl, h1, h12, h2, hA, hB⟩
  refine ⟨fun h => ?_, fun h => ?_⟩
  · have h := of_decide_eq_true (show decide ((lo : Int) < (hi : Int)) = true from h)
    obtain ⟨mid, em⟩ : ∃ mid, (lo + hi) / 2 = mid := ⟨_, rfl⟩
    have e1 : ((lo : Int) + (hi : Int)) / 2 = (mid : Int) := by omega
    refine ⟨⟨by decide, small_of (by decide)⟩, ?_⟩
    have yes : decide ((pcW es rs new k r (mid : Int) : Int) ≤ (pcs es rs new : Int)) = true → ∃ t', t' < hi - lo ∧ ∃ (lo' hi' : Nat) (v : Option D), [some (caseD es rs new), some (.int (k : Int)), some (rD r), some (.int (pcs es rs new : Int)), some (.int (lo : Int)), some (.int (((lo : Int) + (hi : Int)) / 2)), some (.int (((lo : Int) + (hi : Int)) / 2))] = [some (caseD es rs new), some (.int (k : Int)), some (rD r), some (.int (pcs es rs new : Int)), some (.int (lo' : Int)), some (.int (hi' : Int)), v] ∧ t' = hi' - lo' ∧ 1 ≤ lo' ∧ lo' ≤ hi' ∧ (hi' : Int) ≤ widR r ∧ (∀ b : Nat, 1 ≤ b → b < lo' → ¬ pcW es rs new k r (b : Int) ≤ pcs es rs new) ∧ ((hi' : Int) < widR r → pcW es rs new k r (hi' : Int) ≤ pcs es rs new) := by
      intro z
      have z := of_decide_eq_true z
      exact ⟨mid - lo, by omega, lo, mid, some (.int (mid : Int)), by rw [e1], rfl, h1, by omega, by omega, hA, fun _ => by omega⟩
    have no : decide ((pcW es rs new k r (mid : Int) : Int) ≤ (pcs es rs new : Int)) = false → ∃ t', t' < hi - lo ∧ ∃ (lo' hi' : Nat) (v : Option D), [some (caseD es rs new), some (.int (k : Int)), some (rD r), some (.int (pcs es rs new : Int)), some (.int ((((lo : Int) + (hi : Int)) / 2) + 1)), some (.int (hi : Int)), some (.int (((lo : Int) + (hi : Int)) / 2))] = [some (caseD es rs new), some (.int (k : Int)), some (rD r), some (.int (pcs es rs new : Int)), some (.int (lo' : Int)), some (.int (hi' : Int)), v] ∧ t' = hi' - lo' ∧ 1 ≤ lo' ∧ lo' ≤ hi' ∧ (hi' : Int) ≤ widR r ∧ (∀ b : Nat, 1 ≤ b → b < lo' → ¬ pcW es rs new k r (b : Int) ≤ pcs es rs new) ∧ ((hi' : Int) < widR r → pcW es rs new k r (hi' : Int) ≤ pcs es rs new) := by
      intro z
      have z := of_decide_eq_false z
      refine ⟨hi - (mid + 1), by omega, mid + 1, hi, some (.int (mid : Int)), by rw [e1]; rfl, rfl, by omega, by omega, h2, fun b hb1 hb2 hb3 => ?_, hB⟩
      have := pcW_le (es := es) (rs := rs) (new := new) (k := k) (r := r) (m1 := (b : Int)) (m2 := (mid : Int)) (.inl (by omega))
      omega
    cases r with
    | elder el t mo => cases hb
    | back w ap t mo =>
      have hw : w ≤ 1000 := ru.2.2.2
      have hh : (hi : Int) ≤ w := h2
      refine ⟨Nat.le_of_ble_eq_true rfl, Nat.le_of_ble_eq_true rfl, es, rs, new, k, .back (mid : Int) ap t mo, by rw [← e1]; rfl, C.C.hr, hk, ?_⟩
      exact ⟨es, rs.set k (.back (mid : Int) ap t mo), new, rfl, set_ok C.C ⟨by omega, by omega⟩, fun h => yes h, fun h => no h⟩
  · have h := of_decide_eq_false (show decide ((lo : Int) < (hi : Int)) = false from h)
    have e : lo = hi := by omega
    subst e
    rw [leW_eq ru hr hb h1 h2 hA hB] at hq
    exact hq
end Lw
end

-- text K39j
section
set_option Elab.async false
set_option linter.all false
set_option maxRecDepth 100000
set_option maxHeartbeats 1000000
namespace Lw
open PySem PySem.Spec PyProof.Rows L2 Mi
theorem wp_least_most : WpOk [false, false] 5 sp_least_most m_least_most := by
  rintro ds q x - ⟨es, rs, new, i, rfl, C, hq⟩
  refine ⟨es, rs, new, i, rfl, ?_⟩
  cases e : ruleAt rs i with
  | none =>
    rw [e] at hq
    exact hq
  | some r =>
    rw [e] at hq
    obtain ⟨h0, hr⟩ := ruleAt_some e
    obtain ⟨k, rfl⟩ : ∃ k : Nat, i = k := ⟨i.toNat, by omega⟩
    have hr : rs[k]? = some r := hr
    have hz := rD_fz r
    have hq : q (.int (leM es rs new k r : Int)) [caseD es rs new, .int (k : Int)] := hq
    refine ⟨.tup (rs.map rD), rfl, rD r, map_ix hr, ?_⟩
    refine ⟨fun ρ => ρ = [some (caseD es rs new), some (.int (k : Int)), some (rD r), some (.int (pcs es rs new : Int)), none, none, none], ⟨es, rs, new, rfl, C.C, rfl⟩, ?_⟩
    rintro ρ rfl
    refine ⟨fun ρ => ρ = [some (caseD es rs new), some (.int (k : Int)), some (rD r), some (.int (pcs es rs new : Int)), some (.int 2), some (.int (mostR r)), none], ?_, ?_⟩
    · cases r with
      | elder el t mo => exact ⟨.int mo, rfl, rfl⟩
      | back w ap t mo => exact ⟨.int mo, rfl, rfl⟩
    · rintro ρ rfl
      exact wl_leastM C hr hq
theorem wp_least_wide : WpOk [false, false] 5 sp_least_wide m_least_wide := by
  rintro ds q x - ⟨es, rs, new, i, rfl, C, hq⟩
  refine ⟨es, rs, new, i, rfl, ?_⟩
  cases e : ruleAt rs i with
  | none =>
    rw [e] at hq
    exact hq
  | some r =>
    rw [e] at hq
    obtain ⟨h0, hr⟩ := ruleAt_some e
    obtain ⟨k, rfl⟩ : ∃ k : Nat, i = k := ⟨i.toNat, by omega⟩
    have hr : rs[k]? = some r := hr
    refine ⟨.tup (rs.map rD), rfl, rD r, map_ix hr, ?_⟩
    cases r with
    | elder el t mo => exact ⟨.str ELDER, rfl, fun _ => hq, fun h => ab_tf h⟩
    | back w ap t mo =>
      have hq : q (.int (leW es rs new k (.back w ap t mo) : Int)) [caseD es rs new, .int (k : Int)] := hq
      refine ⟨.str BACK, rfl, fun h => ab_ft h, fun _ => ?_⟩
      refine ⟨es, rs, new, rfl, C.C, ?_⟩
      refine ⟨fun ρ => ρ = [some (caseD es rs new), some (.int (k : Int)), some (rD (.back w ap t mo)), some (.int (pcs es rs new : Int)), some (.int 1), some (.int w), none], ⟨.int w, rfl, rfl⟩, ?_⟩
      rintro ρ rfl
      exact wl_leastW C hr rfl hq
theorem wp__law_least : WpOk [false, false, false, false] 3 sp__law_least m__law_least := by
  rintro ds q x - ⟨es, rs, new, k, r, C, hr, hq⟩
  have hn := C.hn
  have hk := (List.getElem?_eq_some_iff.mp hr).1
  have hok := C.C.hru r (List.mem_of_getElem? hr)
  have ru := C.ru r (List.mem_of_getElem? hr)
  rcases hq with ⟨rfl, hq⟩ | ⟨rfl, hb, hq⟩
  · obtain ⟨f1, f2, f3, f4, f5⟩ := leM_facts (es := es) (new := new) ru hr
    have f6 := ru.2.1
    obtain ⟨y, ey⟩ : ∃ y, leM es rs new k r = y := ⟨_, rfl⟩
    rw [ey] at f1 f2 f3 f4 f5 hq
    refine ⟨es, rs, new, rfl, C.C, .str new, rfl, ⟨bd_of (by omega) (by omega), bd_of (by omega) (by omega)⟩, ?_⟩
    refine ⟨fun t ρ => (∃ v w, ρ = [some (caseD es rs new), some (.int (k : Int)), some (.int 2), some (.int 0), some (.int (pcs es rs new : Int)), v, w]) ∧ t + 2 ≤ y, ⟨⟨none, none, rfl⟩, by omega⟩, ?_, ?_⟩
    · rintro t d ρ hd ⟨⟨v, w, rfl⟩, ht⟩
      obtain ⟨h1, rfl⟩ := rng_get hd
      have main : (mIf (mB (mOp fLe (mCall0 sp__law_pieces 1 (mCons (mVarF 6) mNil)) (mVarF 4))) (mRet (mVarF 5)) mNext) { (endsOf [false, false, false, false] [caseD es rs new, .int (k : Int), .int 2, .int 0] q x) with nx := fun ρ => (∃ v w, ρ = [some (caseD es rs new), some (.int (k : Int)), some (.int 2), some (.int 0), some (.int (pcs es rs new : Int)), v, w]) ∧ t + 1 + 2 ≤ y } [some (caseD es rs new), some (.int (k : Int)), some (.int 2), some (.int 0), some (.int (pcs es rs new : Int)), some (.int (2 + (t : Int))), some (caseD es (rs.set k (setM (2 + (t : Int)) r)) new)] := by
        have e1 : (2 : Int) + (t : Int) = ((2 + t : Nat) : Int) := by omega
        refine ⟨es, rs.set k (setM (2 + (t : Int)) r), new, rfl, set_ok C.C (ok_setM hok), fun h => ?_, fun h => ?_⟩
        · have h := of_decide_eq_true (show decide ((pcM es rs new k r (2 + (t : Int)) : Int) ≤ (pcs es rs new : Int)) = true from h)
          rw [e1] at h
          have : ¬ 2 + t < y := fun z => f3 (2 + t) (by omega) z (by omega)
          have e2 : y = 2 + t := by omega
          rw [e2, ← e1] at hq
          exact hq
        · have h := of_decide_eq_false (show decide ((pcM es rs new k r (2 + (t : Int)) : Int) ≤ (pcs es rs new : Int)) = false from h)
          rw [e1] at h
          refine ⟨⟨_, _, rfl⟩, ?_⟩
          by_cases z : y = 2 + t
          · rw [z] at f4
            omega
          · omega
      exact ⟨fun _ => ⟨es, rs, new, k, r, setM (2 + (t : Int)) r, 2 + (t : Int), 0, rfl, C.C.hr, hr, .inl ⟨by omega, rfl, rfl⟩, main⟩, fun h => ab_tf h⟩
    · rintro ρ ⟨⟨v, w, rfl⟩, ht⟩
      rw [rng_len] at ht
      omega
  · obtain ⟨f1, f2, f3, f4, f5⟩ := leW_facts (es := es) (new := new) ru hr hb
    have f6 := ru.2.2.2
    obtain ⟨y, ey⟩ : ∃ y, leW es rs new k r = y := ⟨_, rfl⟩
    rw [ey] at f1 f2 f3 f4 f5 hq
    refine ⟨es, rs, new, rfl, C.C, .str new, rfl, ⟨bd_of (by omega) (by omega), bd_of (by omega) (by omega)⟩, ?_⟩
    refine ⟨fun t ρ => (∃ v w, ρ = [some (caseD es rs new), some (.int (k : Int)), some (.int 1), some (.int 1), some (.int (pcs es rs new : Int)), v, w]) ∧ t + 1 ≤ y, ⟨⟨none, none, rfl⟩, by omega⟩, ?_, ?_⟩
    · rintro t d ρ hd ⟨⟨v, w, rfl⟩, ht⟩
      obtain ⟨h1, rfl⟩ := rng_get hd
      have main : (mIf (mB (mOp fLe (mCall0 sp__law_pieces 1 (mCons (mVarF 6) mNil)) (mVarF 4))) (mRet (mVarF 5)) mNext) { (endsOf [false, false, false, false] [caseD es rs new, .int (k : Int), .int 1, .int 1] q x) with nx := fun ρ => (∃ v w, ρ = [some (caseD es rs new), some (.int (k : Int)), some (.int 1), some (.int 1), some (.int (pcs es rs new : Int)), v, w]) ∧ t + 1 + 1 ≤ y } [some (caseD es rs new), some (.int (k : Int)), some (.int 1), some (.int 1), some (.int (pcs es rs new : Int)), some (.int (1 + (t : Int))), some (caseD es (rs.set k (setW (1 + (t : Int)) r)) new)] := by
        have e1 : (1 : Int) + (t : Int) = ((1 + t : Nat) : Int) := by omega
        refine ⟨es, rs.set k (setW (1 + (t : Int)) r), new, rfl, set_ok C.C (ok_setW hok (by omega) (by omega)), fun h => ?_, fun h => ?_⟩
        · have h := of_decide_eq_true (show decide ((pcW es rs new k r (1 + (t : Int)) : Int) ≤ (pcs es rs new : Int)) = true from h)
          rw [e1] at h
          have : ¬ 1 + t < y := fun z => f3 (1 + t) (by omega) z (by omega)
          have e2 : y = 1 + t := by omega
          rw [e2, ← e1] at hq
          exact hq
        · have h := of_decide_eq_false (show decide ((pcW es rs new k r (1 + (t : Int)) : Int) ≤ (pcs es rs new : Int)) = false from h)
          rw [e1] at h
          refine ⟨⟨_, _, rfl⟩, ?_⟩
          by_cases z : y = 1 + t
          · rw [z] at f4
            omega
          · omega
      exact ⟨fun h => ab_ft h, fun _ => ⟨es, rs, new, k, r, setW (1 + (t : Int)) r, 0, 1 + (t : Int), rfl, C.C.hr, hr, .inr ⟨rfl, by omega, hb, rfl⟩, main⟩⟩
    · rintro ρ ⟨⟨v, w, rfl⟩, ht⟩
      rw [rng_len] at ht
      omega
theorem wp__law_least_most : WpOk [false, false] 0 sp__law_least_most m__law_least_most := by
  rintro ds q x - ⟨es, rs, new, k, r, rfl, C, hr, hq⟩
  exact ⟨es, rs, new, k, r, C, hr, .inl ⟨rfl, hq⟩⟩
end Lw
end

-- text K39k
section
set_option Elab.async false
set_option linter.all false
set_option maxRecDepth 100000
set_option maxHeartbeats 1000000
namespace Lw
open PySem PySem.Spec PyProof.Rows L2 Mi
theorem wp__law_told : WpOk [false, false, false, false] 1 sp__law_told m__law_told := by
  rintro ds q x - ⟨wh, es, rs, new, i, ms, rfl, hw, C, B, hq⟩
  match wh, hw with
  | 0, _ =>
    refine ⟨fun _ => ⟨es, rs, new, i, ms, rfl, C, B, ?_⟩, fun h => ab_tf h⟩
    unfold hearD at hq
    cases e : ruleAt rs i with
    | some r =>
      rw [e] at hq
      exact hq
    | none =>
      rw [e] at hq
      intro c
      refine ⟨rfl, fun h => ab_ft h, fun _ => ⟨rfl, fun h => ab_ft h, fun _ => ⟨rfl, fun h => ab_ft h, fun _ => ?_⟩⟩⟩
      refine ⟨rfl, fun h => ab_ft h, fun _ => ?_⟩
      exact ⟨rfl, fun _ => ⟨rfl, rfl, hq⟩, fun h => ab_tf h⟩
  | 1, _ =>
    refine ⟨fun h => ab_ft h, fun _ => ⟨fun _ => ⟨es, rs, new, i, ms, rfl, C, B, ?_⟩, fun h => ab_tf h⟩⟩
    unfold hearD at hq
    cases e : ruleAt rs i with
    | some r =>
      rw [e] at hq
      cases r with
      | elder el t mo =>
        intro c
        refine ⟨rfl, fun h => ab_ft h, fun _ => ⟨rfl, fun h => ab_ft h, fun _ => ⟨rfl, fun h => ab_ft h, fun _ => ?_⟩⟩⟩
        refine ⟨rfl, fun h => ab_ft h, fun _ => ?_⟩
        exact ⟨rfl, fun _ => ⟨rfl, rfl, hq⟩, fun h => ab_tf h⟩
      | back w ap t mo => exact hq
    | none =>
      rw [e] at hq
      intro c
      refine ⟨rfl, fun h => ab_ft h, fun _ => ⟨rfl, fun h => ab_ft h, fun _ => ⟨rfl, fun h => ab_ft h, fun _ => ?_⟩⟩⟩
      refine ⟨rfl, fun h => ab_ft h, fun _ => ?_⟩
      exact ⟨rfl, fun _ => ⟨rfl, rfl, hq⟩, fun h => ab_tf h⟩
  | 2, _ =>
    refine ⟨fun h => ab_ft h, fun _ => ⟨fun h => ab_ft h, fun _ => ⟨fun _ => ⟨es, rs, new, i, rfl, C, ?_⟩, fun h => ab_tf h⟩⟩⟩
    unfold hearD at hq
    cases e : ruleAt rs i with
    | some r =>
      rw [e] at hq
      exact hq
    | none =>
      rw [e] at hq
      intro c
      refine ⟨rfl, fun h => ab_ft h, fun _ => ⟨rfl, fun h => ab_ft h, fun _ => ⟨rfl, fun h => ab_ft h, fun _ => ?_⟩⟩⟩
      refine ⟨rfl, fun h => ab_ft h, fun _ => ?_⟩
      exact ⟨rfl, fun _ => ⟨rfl, rfl, hq⟩, fun h => ab_tf h⟩
  | 3, _ =>
    refine ⟨fun h => ab_ft h, fun _ => ⟨fun h => ab_ft h, fun _ => ⟨fun h => ab_ft h, fun _ => ⟨es, rs, new, i, rfl, C, ?_⟩⟩⟩⟩
    unfold hearD at hq
    cases e : ruleAt rs i with
    | some r =>
      rw [e] at hq
      cases r with
      | elder el t mo =>
        intro c
        refine ⟨rfl, fun h => ab_ft h, fun _ => ⟨rfl, fun h => ab_ft h, fun _ => ⟨rfl, fun h => ab_ft h, fun _ => ?_⟩⟩⟩
        refine ⟨rfl, fun h => ab_ft h, fun _ => ?_⟩
        exact ⟨rfl, fun _ => ⟨rfl, rfl, hq⟩, fun h => ab_tf h⟩
      | back w ap t mo => exact hq
    | none =>
      rw [e] at hq
      intro c
      refine ⟨rfl, fun h => ab_ft h, fun _ => ⟨rfl, fun h => ab_ft h, fun _ => ⟨rfl, fun h => ab_ft h, fun _ => ?_⟩⟩⟩
      refine ⟨rfl, fun h => ab_ft h, fun _ => ?_⟩
      exact ⟨rfl, fun _ => ⟨rfl, rfl, hq⟩, fun h => ab_tf h⟩
theorem inz_snoc (l : List Int) (i : Int) : inz l ++ [.int i] = inz (l ++ [i]) := by simp [inz]
theorem inz_len {l : List Int} : (inz l).length = l.length := List.length_map ..
theorem mx_int (a b : Int) : a ≤ (fun (i j : Int) => if j > i then j else i) a b ∧ ((fun (i j : Int) => if j > i then j else i) a b = a ∨ (fun (i j : Int) => if j > i then j else i) a b = b) := by
  show a ≤ (if b > a then b else a) ∧ ((if b > a then b else a) = a ∨ (if b > a then b else a) = b)
  split
  · exact ⟨by omega, .inr rfl⟩
  · exact ⟨by omega, .inl rfl⟩
theorem wp__law_bounds : WpOk [true, false, false] 3 sp__law_bounds m__law_bounds := by
  rintro ds q x - ⟨d0, n, lo, own, rfl, hT, hl, hl2, ho, ho2, hq⟩
  refine ⟨d0, _, 4, rfl, hT, by decide, by decide, ?_⟩
  clear hT; intro v d0 hv gv hT
  refine ⟨bd_of (by omega) (by omega), ?_⟩
  refine ⟨fun t ρ => ∃ (d0 : D) (ms : List Int) (v4 v5 : Option D), ρ = [some d0, some (.int lo), some (.int own), some (.mls (inz ms)), v4, v5] ∧ Reel (n + 2 + 2 * (5 - t)) d0 ∧ ms.length = t ∧ ∀ m ∈ ms, 1 ≤ m ∧ m ≤ 1000, ⟨d0, [], none, none, rfl, hT.le (by omega), rfl, fun _ h => nomatch h⟩, ?_, ?_⟩
  · rintro t d ρ hd ⟨d0, ms, v4, v5, rfl, hT, hx, hm⟩
    obtain ⟨hk, rfl⟩ := rng0_get hd
    rw [show n + 2 + 2 * (5 - t) = n + 2 + 2 * (5 - (t + 1)) + 2 by omega] at hT
    refine ⟨d0, _, 6, rfl, hT, by decide, by decide, ?_⟩
    clear hT; intro way d0 hway gway hT
    refine ⟨d0, _, 12, rfl, hT, by decide, by decide, ?_⟩
    clear hT; intro u d0 hu gu hT
    have hmx := mx_int lo (own - 1)
    obtain ⟨mx, emx⟩ : ∃ mx, (fun (i j : Int) => if j > i then j else i) lo (own - 1) = mx := ⟨_, rfl⟩
    rw [emx] at hmx
    have hmn : ∃ mn, (fun (i j : Int) => if j < i then j else i) 300 (own + 1) = mn ∧ 1 ≤ mn ∧ mn ≤ 300 := by
      refine ⟨_, rfl, ?_⟩
      show 1 ≤ (if own + 1 < 300 then own + 1 else 300) ∧ (if own + 1 < 300 then own + 1 else 300) ≤ 300
      split <;> omega
    obtain ⟨mn, emn, hmn⟩ := hmn
    obtain ⟨d, ⟨m, rfl, h1, h2⟩, hd⟩ := atI_al (xs := [D.int lo, .int 300, .int own, .int mx, .int mn, .int (lo + u)]) (fun d => ∃ m : Int, d = .int m ∧ 1 ≤ m ∧ m ≤ 1000) hway gway ⟨⟨_, rfl, by omega, by omega⟩, ⟨_, rfl, by omega, by omega⟩, ⟨_, rfl, by omega, by omega⟩, ⟨_, rfl, by omega, by omega⟩, ⟨_, rfl, by omega, by omega⟩, ⟨_, rfl, by omega, by omega⟩, trivial⟩
    rw [← emx, ← emn] at hd
    refine ⟨.int m, hd, by rw [inz_len]; omega, d0, ms ++ [m], _, _, by rw [← inz_snoc]; rfl, hT.le (by omega), by simp [hx], fun y hy => ?_⟩
    rcases List.mem_append.mp hy with hy | hy
    · exact hm y hy
    · rw [List.mem_singleton] at hy; subst hy; exact ⟨h1, h2⟩
  · rintro ρ ⟨d0, ms, v4, v5, rfl, hT, hx, hm⟩
    rw [rng_len] at hx hT
    have fz : fzs (inz ms) = true := List.all_eq_true.mpr fun y hy => by
      obtain ⟨p, _, rfl⟩ := List.mem_map.mp hy
      rfl
    have hT : Reel (n + 1 + 1) d0 := hT.le (by omega)
    refine ⟨d0, _, 2, rfl, hT, by decide, by decide, ?_⟩
    clear hT; intro w d0 hw gw hT
    obtain ⟨k, rfl⟩ : ∃ k : Nat, w = k := ⟨w.toNat, by omega⟩
    have e : cutD (inz ms) none (some (k : Int)) = inz (ms.take k) := by
      rw [cutD_hin]
      exact (List.map_take ..).symm
    have hq := hq (ms ++ ms.take k) d0 ⟨by rw [List.length_append, List.length_take]; omega, fun y hy => by
      rcases List.mem_append.mp hy with hy | hy
      · exact hm y hy
      · exact hm y (List.mem_of_mem_take hy)⟩ (hT.le (by omega))
    have e2 : inz (ms ++ ms.take k) = inz ms ++ cutD (inz ms) none (some (k : Int)) := by
      rw [e]
      simp [inz]
    rw [e2] at hq
    have ll : (inz ms).length + (cutD (inz ms) none (some (k : Int))).length ≤ 16777216 := by
      rw [e, inz_len, inz_len, List.length_take]
      omega
    first
      | exact ⟨ll, hq⟩
      | exact ⟨fz, ll, hq⟩
      | exact ⟨fz, ll, fz, hq⟩
end Lw
end

-- text K39l
section
set_option Elab.async false
set_option linter.all false
set_option maxRecDepth 100000
set_option maxHeartbeats 1000000
namespace Lw
open PySem PySem.Spec PyProof.Rows L2 Mi
theorem al_nats (l : List Nat) : Al 2 (.tup (nats l)) := fun y hy => by
  obtain ⟨n, _, rfl⟩ := List.mem_map.mp hy
  trivial
theorem szs_nats : ∀ l : List Nat, sz.szs (nats l) = l.length
  | [] => rfl
  | n :: l => by
    show 1 + sz.szs (nats l) = l.length + 1
    rw [szs_nats l]
    omega
theorem al_tell {d : D} (h : Al 2 d) : ∃ n, Al n (tellD d) := ⟨3, fun y hy => by
  simp only [List.mem_cons, List.not_mem_nil, or_false] at hy
  rcases hy with rfl | rfl
  · trivial
  · exact h⟩
theorem sz_tell (d : D) : sz (tellD d) = sz d + 2 := by
  show 1 + (sz d + 0) + 1 = _
  omega
theorem al_rais (w : Tx) (i : Int) : Al 2 (raisD w i) := fun y hy => by
  simp only [List.mem_cons, List.not_mem_nil, or_false] at hy
  rcases hy with rfl | rfl | rfl <;> trivial
theorem al_two {n : Nat} {a b : D} (h : Al n a) (h2 : Al n b) : Al (n + 1) (.tup [a, b]) := fun y hy => by
  simp only [List.mem_cons, List.not_mem_nil, or_false] at hy
  rcases hy with rfl | rfl
  · exact h
  · exact h2
section
variable {d1 : D} {n : Nat} {es : List Tx} {rs : List Rule} {new : Tx} {k : Nat} {r : Rule} {ms : List Int} {q : D → List D → Prop} {x : Er → List D → Prop} {v4 v5 v6 v7 v8 : Option D}
theorem hD0 (hr : rs[k]? = some r) : hearD es rs new (k : Int) ms 0 = tellD (.tup (nats (ms.map (pcM es rs new k r)))) := by
  unfold hearD
  rw [ruleAt_nat, hr]
  rfl
theorem hD1 (hr : rs[k]? = some r) (hb : isB r = true) : hearD es rs new (k : Int) ms 1 = tellD (.tup (nats (ms.map (pcW es rs new k r)))) := by
  unfold hearD
  rw [ruleAt_nat, hr]
  simp only [hb]
  rfl
theorem hD1e (hr : rs[k]? = some r) (hb : isB r = false) : hearD es rs new (k : Int) ms 1 = raisD WWIDE k := by
  unfold hearD
  rw [ruleAt_nat, hr]
  simp only [hb]
theorem hD2 (hr : rs[k]? = some r) : hearD es rs new (k : Int) ms 2 = tellD (.int (leM es rs new k r : Int)) := by
  unfold hearD
  rw [ruleAt_nat, hr]
  rfl
theorem hD3 (hr : rs[k]? = some r) (hb : isB r = true) : hearD es rs new (k : Int) ms 3 = tellD (.int (leW es rs new k r : Int)) := by
  unfold hearD
  rw [ruleAt_nat, hr]
  simp only [hb]
  rfl
theorem hD3e (hr : rs[k]? = some r) (hb : isB r = false) : hearD es rs new (k : Int) ms 3 = raisD WWIDE k := by
  unfold hearD
  rw [ruleAt_nat, hr]
  simp only [hb]
theorem bd_nil : BdOk [] := ⟨by decide, fun _ h => nomatch h⟩
theorem bd_two : BdOk [1, 9] := ⟨by decide, by decide⟩
abbrev RrE (d1 : D) (es : List Tx) (rs : List Rule) (new : Tx) (k : Nat) (q : D → List D → Prop) (x : Er → List D → Prop) : Es := endsOf [true, false, false] [d1, caseD es rs new, .int (k : Int)] q x
abbrev RrQ (n : Nat) (es : List Tx) (rs : List Rule) (new : Tx) (k : Nat) (q : D → List D → Prop) : Prop := ∀ d', Reel n d' → q (.bl true) [d', caseD es rs new, .int (k : Int)]
theorem wl_rr9 (hq : RrQ n es rs new k q) (C : CsOk es rs new) (hr : rs[k]? = some r) (hb : isB r = true) {d0 : D} (hT : Reel n d0) :
    m__law_rule_right_9 (RrE d1 es rs new k q x) [some d0, some (caseD es rs new), some (.int (k : Int)), some (rD r), v4, v5, v6, v7, v8] := by
  refine ⟨3, es, rs, new, (k : Int), [], rfl, by decide, C, bd_nil, ?_⟩
  rw [hD3 hr hb]
  refine ⟨es, rs, new, k, r, C, hr, .inr ⟨rfl, hb, ?_⟩⟩
  exact ⟨tellD (.int (leW es rs new k r : Int)), rfl, al_tell trivial, Nat.le_of_ble_eq_true rfl, hq d0 hT⟩
theorem wl_rr8 (hq : RrQ n es rs new k q) (C : CsOk es rs new) (hr : rs[k]? = some r) (hb : isB r = true) {d0 : D} (hT : Reel n d0) (B : BdOk ms) :
    m__law_rule_right_8 (RrE d1 es rs new k q x) [some d0, some (caseD es rs new), some (.int (k : Int)), some (rD r), v4, some (.tup (nats (ms.map (pcW es rs new k r)))), v6, some (.tup (inz ms)), v8] := by
  refine ⟨fun ρ => ρ = [some d0, some (caseD es rs new), some (.int (k : Int)), some (rD r), v4, some (.tup (nats (ms.map (pcW es rs new k r)))), v6, some (.tup (inz ms)), v8], ?_, fun ρ e => by subst e; exact wl_rr9 hq C hr hb hT⟩
  refine ⟨1, es, rs, new, (k : Int), ms, rfl, by decide, C, B, ?_⟩
  rw [hD1 hr hb]
  exact ⟨tellD (.tup (nats (ms.map (pcW es rs new k r)))), rfl, al_tell (al_nats _), by rw [sz_tell]; show sz.szs _ + 1 + 2 ≤ _; rw [szs_nats, List.length_map]; have := B.1; omega, fun h => ab_ft h, fun _ => rfl⟩
theorem wl_rr7 (hq : RrQ n es rs new k q) (C : CsOk es rs new) (hr : rs[k]? = some r) (hb : isB r = true) {d0 : D} (hT : Reel n d0) (B : BdOk ms) :
    m__law_rule_right_7 (RrE d1 es rs new k q x) [some d0, some (caseD es rs new), some (.int (k : Int)), some (rD r), v4, v5, none, some (.tup (inz ms)), v8] := by
  have hok := C.C.hru r (List.mem_of_getElem? hr)
  refine ⟨fun ρ => ρ = [some d0, some (caseD es rs new), some (.int (k : Int)), some (rD r), v4, some (.tup (nats (ms.map (pcW es rs new k r)))), none, some (.tup (inz ms)), v8], ?_, fun ρ e => by subst e; exact wl_rr8 hq C hr hb hT B⟩
  refine lc_map (l := ms) (f := D.int) (fun _ => true) (fun m => .int (pcW es rs new k r m : Int)) ?_ (by have := B.1; omega) ?_
  · intro t m hm A B' hA hB
    refine ⟨fun _ => ?_, fun h => ab_tf h⟩
    have hm2 := B.2 m (List.mem_of_getElem? hm)
    refine ⟨es, rs, new, k, r, setW m r, 0, m, rfl, C.C.hr, hr, .inr ⟨rfl, by omega, hb, rfl⟩, ?_⟩
    exact ⟨es, rs.set k (setW m r), new, rfl, set_ok C.C (ok_setW hok (by omega) (by omega)), hA _ rfl rfl⟩
  · rw [filt_all]
    show _ = _
    rw [nats, List.map_map]
    rfl
theorem wl_rr6 (hq : RrQ n es rs new k q) (C : CsOk es rs new) (hr : rs[k]? = some r) (hb : isB r = true) {d0 : D} (hT : Reel (n + 20) d0) :
    m__law_rule_right_6 (RrE d1 es rs new k q x) [some d0, some (caseD es rs new), some (.int (k : Int)), some (rD r), v4, v5, none, v7, v8] := by
  have ru := C.ru r (List.mem_of_getElem? hr)
  refine ⟨fun ρ => ∃ (d0 : D) (ms : List Int), ρ = [some d0, some (caseD es rs new), some (.int (k : Int)), some (rD r), v4, v5, none, some (.tup (inz ms)), v8] ∧ BdOk ms ∧ Reel n d0, ?_, ?_⟩
  · cases r with
    | elder el t mo => cases hb
    | back w ap t mo =>
      refine ⟨.int w, rfl, d0, n, 1, w, rfl, hT, by decide, by decide, ru.2.2.1, ru.2.2.2, ?_⟩
      intro ms d0 B hT
      exact ⟨d0, ms, rfl, B, hT⟩
  · rintro ρ ⟨d0, ms, rfl, B, hT⟩
    exact wl_rr7 hq C hr hb hT B
theorem wl_rr5 (hq : RrQ n es rs new k q) (C : CsOk es rs new) (hr : rs[k]? = some r) {d0 : D} (hT : Reel (n + 20) d0) :
    m__law_rule_right_5 (RrE d1 es rs new k q x) [some d0, some (caseD es rs new), some (.int (k : Int)), some (rD r), v4, v5, none, v7, v8] := by
  refine ⟨fun ρ => isB r = true ∧ ρ = [some d0, some (caseD es rs new), some (.int (k : Int)), some (rD r), v4, v5, none, v7, v8], ?_, fun ρ e => by obtain ⟨hb, rfl⟩ := e; exact wl_rr6 hq C hr hb hT⟩
  cases r with
  | elder el t mo =>
    refine ⟨.str ELDER, rfl, fun _ => ?_, fun h => ab_tf h⟩
    refine ⟨1, es, rs, new, (k : Int), [1, 9], rfl, by decide, C, bd_two, ?_⟩
    rw [hD1e hr rfl]
    refine ⟨3, es, rs, new, (k : Int), [], rfl, by decide, C, bd_nil, ?_⟩
    rw [hD3e hr rfl]
    exact ⟨.tup [raisD WWIDE k, raisD WWIDE k], rfl, ⟨3, al_two (al_rais _ _) (al_rais _ _)⟩, Nat.le_of_ble_eq_true rfl, hq d0 (hT.le (by omega))⟩
  | back w ap t mo => exact ⟨.str BACK, rfl, fun h => ab_ft h, fun _ => ⟨rfl, rfl⟩⟩
theorem wl_rr4 (hq : RrQ n es rs new k q) (C : CsOk es rs new) (hr : rs[k]? = some r) {d0 : D} (hT : Reel (n + 20) d0) :
    m__law_rule_right_4 (RrE d1 es rs new k q x) [some d0, some (caseD es rs new), some (.int (k : Int)), some (rD r), v4, v5, none, v7, v8] := by
  refine ⟨fun ρ => ρ = [some d0, some (caseD es rs new), some (.int (k : Int)), some (rD r), v4, v5, none, v7, v8], ?_, fun ρ e => by subst e; exact wl_rr5 hq C hr hT⟩
  refine ⟨2, es, rs, new, (k : Int), [], rfl, by decide, C, bd_nil, ?_⟩
  rw [hD2 hr]
  refine ⟨es, rs, new, k, r, rfl, C, hr, ?_⟩
  exact ⟨tellD (.int (leM es rs new k r : Int)), rfl, al_tell trivial, Nat.le_of_ble_eq_true rfl, fun h => ab_ft h, fun _ => rfl⟩
theorem wl_rr3 (hq : RrQ n es rs new k q) (C : CsOk es rs new) (hr : rs[k]? = some r) {d0 : D} (hT : Reel (n + 20) d0) (B : BdOk ms) :
    m__law_rule_right_3 (RrE d1 es rs new k q x) [some d0, some (caseD es rs new), some (.int (k : Int)), some (rD r), some (.tup (inz ms)), some (.tup (nats (ms.map (pcM es rs new k r)))), none, v7, v8] := by
  refine ⟨fun ρ => ρ = [some d0, some (caseD es rs new), some (.int (k : Int)), some (rD r), some (.tup (inz ms)), some (.tup (nats (ms.map (pcM es rs new k r)))), none, v7, v8], ?_, fun ρ e => by subst e; exact wl_rr4 hq C hr hT⟩
  refine ⟨0, es, rs, new, (k : Int), ms, rfl, by decide, C, B, ?_⟩
  rw [hD0 hr]
  exact ⟨tellD (.tup (nats (ms.map (pcM es rs new k r)))), rfl, al_tell (al_nats _), by rw [sz_tell]; show sz.szs _ + 1 + 2 ≤ _; rw [szs_nats, List.length_map]; have := B.1; omega, fun h => ab_ft h, fun _ => rfl⟩
theorem wl_rr2 (hq : RrQ n es rs new k q) (C : CsOk es rs new) (hr : rs[k]? = some r) {d0 : D} (hT : Reel (n + 20) d0) (B : BdOk ms) :
    m__law_rule_right_2 (RrE d1 es rs new k q x) [some d0, some (caseD es rs new), some (.int (k : Int)), some (rD r), some (.tup (inz ms)), v5, none, v7, none] := by
  have hok := C.C.hru r (List.mem_of_getElem? hr)
  refine ⟨fun ρ => ρ = [some d0, some (caseD es rs new), some (.int (k : Int)), some (rD r), some (.tup (inz ms)), some (.tup (nats (ms.map (pcM es rs new k r)))), none, v7, none], ?_, fun ρ e => by subst e; exact wl_rr3 hq C hr hT B⟩
  refine lc_map (l := ms) (f := D.int) (fun _ => true) (fun m => .int (pcM es rs new k r m : Int)) ?_ (by have := B.1; omega) ?_
  · intro t m hm A B' hA hB
    refine ⟨fun _ => ?_, fun h => ab_tf h⟩
    have hm2 := B.2 m (List.mem_of_getElem? hm)
    refine ⟨es, rs, new, k, r, setM m r, m, 0, rfl, C.C.hr, hr, .inl ⟨by omega, rfl, rfl⟩, ?_⟩
    exact ⟨es, rs.set k (setM m r), new, rfl, set_ok C.C (ok_setM hok), hA _ rfl rfl⟩
  · rw [filt_all]
    show _ = _
    rw [nats, List.map_map]
    rfl
end
theorem wp__law_rule_right : WpOk [true, false, false] 6 sp__law_rule_right m__law_rule_right := by
  rintro ds q x - ⟨d0, n, es, rs, new, k, rfl, hT, C, hk, hq⟩
  have hq : RrQ n es rs new k q := hq
  have hr : rs[k]? = some rs[k] := List.getElem?_eq_getElem hk
  obtain ⟨r, er⟩ : ∃ r, rs[k] = r := ⟨_, rfl⟩
  rw [er] at hr
  have ru := C.ru r (List.mem_of_getElem? hr)
  refine ⟨.tup (rs.map rD), rfl, rD r, map_ix hr, ?_⟩
  refine ⟨fun ρ => ∃ (d0 : D) (ms : List Int), ρ = [some d0, some (caseD es rs new), some (.int (k : Int)), some (rD r), some (.tup (inz ms)), none, none, none, none] ∧ BdOk ms ∧ Reel (n + 20) d0, ?_, ?_⟩
  · have go : ∀ (ms : List Int) (d' : D), BdOk ms → Reel (n + 20) d' → ∃ (d0 : D) (ms' : List Int), [some d', some (caseD es rs new), some (.int (k : Int)), some (rD r), some (.tup (inz ms)), none, none, none, none] = [some d0, some (caseD es rs new), some (.int (k : Int)), some (rD r), some (.tup (inz ms')), none, none, none, none] ∧ BdOk ms' ∧ Reel (n + 20) d0 := fun ms d' B hT => ⟨d', ms, rfl, B, hT⟩
    cases r with
    | elder el t mo => exact ⟨.int mo, rfl, d0, n + 20, 2, mo, rfl, hT.le (by omega), by decide, by decide, by have : (2 : Int) ≤ mo := ru.1; omega, ru.2.1, fun ms d' B hT => go ms d' B hT⟩
    | back w ap t mo => exact ⟨.int mo, rfl, d0, n + 20, 2, mo, rfl, hT.le (by omega), by decide, by decide, by have : (2 : Int) ≤ mo := ru.1; omega, ru.2.1, fun ms d' B hT => go ms d' B hT⟩
  · rintro ρ ⟨d0, ms, rfl, B, hT⟩
    exact wl_rr2 hq C hr hT B
end Lw
end

-- text K39m
section
set_option Elab.async false
set_option linter.all false
set_option maxRecDepth 100000
set_option maxHeartbeats 1000000
namespace Lw
open PySem PySem.Spec PyProof.Rows L2 Mi
theorem wid_wid (r : Rule) : wid (wid r) = wid r := by cases r <;> rfl
theorem map_wid (rs : List Rule) : (rs.map wid).map wid = rs.map wid := by
  rw [List.map_map]
  exact List.map_congr_left fun r _ => wid_wid r
theorem szs_le {α : Type} (f : α → D) (c : Nat) (h : ∀ a, sz (f a) ≤ c) : ∀ l : List α, sz.szs (l.map f) ≤ c * l.length
  | [] => Nat.zero_le _
  | a :: l => by
    have h1 := szs_le f c h l
    have h2 := h a
    show sz (f a) + sz.szs (l.map f) ≤ c * (l.length + 1)
    rw [Nat.mul_succ]
    omega
theorem al_rD (r : Rule) : Al 2 (rD r) := by
  cases r <;> (intro y hy; simp only [List.mem_cons, List.not_mem_nil, or_false] at hy; rcases hy with rfl | rfl | rfl | rfl | rfl <;> trivial)
theorem sz_rD (r : Rule) : sz (rD r) ≤ 6 := by cases r <;> exact Nat.le_of_ble_eq_true rfl
theorem al_case (es : List Tx) (rs : List Rule) (new : Tx) : Al 4 (caseD es rs new) := fun y hy => by
  simp only [List.mem_cons, List.not_mem_nil, or_false] at hy
  rcases hy with rfl | rfl | rfl
  · intro z hz
    obtain ⟨e, _, rfl⟩ := List.mem_map.mp hz
    trivial
  · intro z hz
    obtain ⟨r, _, rfl⟩ := List.mem_map.mp hz
    exact al_rD r
  · trivial
theorem sz_case {es : List Tx} {rs : List Rule} {new : Tx} (C : CaseOk es rs new) : sz (caseD es rs new) ≤ 10000 := by
  have h1 := szs_le D.str 1 (fun _ => Nat.le_refl _) es
  have h2 := szs_le rD 6 sz_rD rs
  have := C.he
  have := C.hr
  show (sz.szs (es.map D.str) + 1) + ((sz.szs (rs.map rD) + 1) + (1 + 0)) + 1 ≤ _
  omega
section
variable {d1 : D} {n : Nat} {w : Bool} {es : List Tx} {rs : List Rule} {new : Tx} {q : D → List D → Prop} {x : Er → List D → Prop} {v3 v4 v5 v6 v7 : Option D}
abbrev CrE (d1 : D) (w : Bool) (q : D → List D → Prop) (x : Er → List D → Prop) : Es := endsOf [true, false] [d1, .bl w] q x
abbrev CrQ (n : Nat) (w : Bool) (q : D → List D → Prop) : Prop := ∀ d', Reel n d' → q (.bl true) [d', .bl w]
theorem hearNo {i : Int} {ms : List Int} {wh : Nat} (h : ¬ (0 ≤ i ∧ i < rs.length)) : hearD es rs new i ms wh = raisD WRULE i := by
  unfold hearD
  rw [ruleAt_no h]
theorem wl_cr7 (hq : CrQ n w q) (C : CaQ es rs new) {d0 : D} (hT : Reel (n + 1) d0) :
    m__law_case_right_7 (CrE d1 w q x) [some d0, some (.bl w), some (caseD es rs new), v3, v4, v5, v6, v7, none, none] := by
  have ln : (rs.map rD).length = rs.length := List.length_map ..
  refine ⟨fun ρ => ∃ (d0 : D) (v6 v7 : Option D), ρ = [some d0, some (.bl w), some (caseD es rs new), v3, v4, v5, v6, v7, none, none] ∧ Reel n d0, ?_, fun ρ e => by obtain ⟨d0, v6, v7, rfl, hT⟩ := e; exact hq d0 hT⟩
  refine ⟨.tup (rs.map rD), rfl, .tup (rs.map rD), rfl, ?_⟩
  refine ⟨d0, _, 9, rfl, hT, by decide, by decide, ?_⟩
  clear hT; intro v d0 hv gv hT
  refine ⟨fun t ρ => ∃ (v6 v7 : Option D), ρ = [some d0, some (.bl w), some (caseD es rs new), v3, v4, v5, v6, v7, none, none], ⟨v6, v7, rfl⟩, ?_, fun ρ e => by obtain ⟨v6, v7, rfl⟩ := e; exact ⟨d0, v6, v7, rfl, hT⟩⟩
  rintro t d ρ hd ⟨v6, v7, rfl⟩
  have key : ∃ i : Int, d = .int i ∧ ¬ (0 ≤ i ∧ i < rs.length) := by
    have := List.mem_of_getElem? hd
    simp only [List.mem_cons, List.not_mem_nil, or_false] at this
    rcases this with rfl | rfl | rfl
    · exact ⟨_, rfl, by rw [ln]; omega⟩
    · exact ⟨_, rfl, by omega⟩
    · exact ⟨_, rfl, by rw [ln]; omega⟩
  obtain ⟨i, rfl, hi⟩ := key
  refine ⟨bd_of (by decide) (by decide), ?_⟩
  refine lc_rng0 (ρ1 := [some d0, some (.bl w), some (caseD es rs new), v3, v4, v5, some (.int i), v7, none, none]) (fun _ => true) (fun _ => raisD WRULE i) ?_ (by decide) ?_
  · intro k hk A B hA hB
    have hk : k < 4 := hk
    refine ⟨fun _ => ?_, fun h => ab_tf h⟩
    refine ⟨k, es, rs, new, i, [2, 3], rfl, hk, C.1, ⟨by decide, by decide⟩, ?_⟩
    rw [hearNo hi]
    exact hA _ rfl rfl
  · rw [filt_all]
    have e1 : (List.range (4 : Int).toNat).map (fun _ => raisD WRULE i) = [raisD WRULE i, raisD WRULE i, raisD WRULE i, raisD WRULE i] := rfl
    rw [e1]
    refine ⟨⟨List.cons_ne_nil _ _, by decide, by decide, Nat.le_of_ble_eq_true rfl⟩, ?_⟩
    refine ⟨.tup [raisD WRULE i, raisD WRULE i, raisD WRULE i, raisD WRULE i], rfl, ⟨3, fun y hy => ?_⟩, Nat.le_of_ble_eq_true rfl, fun h => ab_ft h, fun _ => ⟨_, _, rfl⟩⟩
    simp only [List.mem_cons, List.not_mem_nil, or_false] at hy
    rcases hy with rfl | rfl | rfl | rfl <;> exact al_rais _ _
theorem wl_cr6 (hq : CrQ n w q) (C : CaQ es rs new) {d0 : D} (hT : Reel (n + 1500) d0) :
    m__law_case_right_6 (CrE d1 w q x) [some d0, some (.bl w), some (caseD es rs new), v3, v4, v5, v6, v7, none, none] := by
  have ln : (rs.map rD).length = rs.length := List.length_map ..
  have hr := C.2.1
  refine ⟨fun ρ => ∃ (d0 : D) (v6 v7 : Option D), ρ = [some d0, some (.bl w), some (caseD es rs new), v3, v4, v5, v6, v7, none, none] ∧ Reel (n + 1) d0, ?_, fun ρ e => by obtain ⟨d0, v6, v7, rfl, hT⟩ := e; exact wl_cr7 hq C hT⟩
  refine ⟨.tup (rs.map rD), rfl, bd_of (by omega) (by omega), ?_⟩
  refine ⟨fun t ρ => ∃ (d0 : D) (v6 : Option D), ρ = [some d0, some (.bl w), some (caseD es rs new), v3, v4, v5, v6, v7, none, none] ∧ Reel (n + 1 + 110 * (11 - t)) d0, ⟨d0, v6, rfl, hT.le (by omega)⟩, ?_, fun ρ e => by obtain ⟨d0, v6, rfl, hT⟩ := e; exact ⟨d0, v6, v7, rfl, hT.le (by omega)⟩⟩
  rintro t d ρ hd ⟨d0, v6, rfl, hT⟩
  obtain ⟨hk, rfl⟩ := rng0_get hd
  have hk : t < rs.length := by omega
  refine ⟨d0, n + 1 + 110 * (11 - (t + 1)), es, rs, new, t, rfl, hT.le (by omega), C.1, hk, ?_⟩
  intro d' hT
  exact ⟨fun h => ab_ft h, fun _ => ⟨d', some (.int (t : Int)), rfl, hT⟩⟩
theorem wl_cr4 (hq : CrQ n w q) (C : CaQ es rs new) {d0 : D} (hT : Reel (n + 1500) d0) :
    m__law_case_right_4 (CrE d1 w q x) [some d0, some (.bl w), some (caseD es rs new), v3, some (caseD es (rs.map wid) new), v5, v6, v7, none, none] := by
  have CC := C.1.C
  have CW := wid_ok CC
  refine ⟨es, rs, new, rfl, CC, es, rs.map wid, new, rfl, CW, ?_⟩
  refine ⟨fun ρ => ρ = [some d0, some (.bl w), some (caseD es rs new), v3, some (caseD es (rs.map wid) new), some (.int ((pcs es rs new : Int) - (pcs es (rs.map wid) new : Int))), v6, v7, none, none], ?_, fun ρ e => by subst e; exact wl_cr6 hq C hT⟩
  refine ⟨es, rs, new, rfl, CC, es, rs.map wid, new, rfl, CW, ?_⟩
  rw [map_wid]
  refine ⟨.tup [.int ((pcs es rs new : Int) - (pcs es (rs.map wid) new : Int)), .int 0], ?_, ⟨2, fun y hy => ?_⟩, Nat.le_of_ble_eq_true rfl, fun h => ab_ft h, fun _ => rfl⟩
  · rw [Int.sub_self]
  · simp only [List.mem_cons, List.not_mem_nil, or_false] at hy
    rcases hy with rfl | rfl <;> trivial
theorem wl_cr3 (hq : CrQ n w q) (C : CaQ es rs new) {d0 : D} (hT : Reel (n + 1500) d0) :
    m__law_case_right_3 (CrE d1 w q x) [some d0, some (.bl w), some (caseD es rs new), v3, some (caseD es (rs.map wid) new), v5, v6, v7, none, none] := by
  have CC := C.1.C
  have CW := wid_ok CC
  have hs := sz_case CW
  refine ⟨fun ρ => ρ = [some d0, some (.bl w), some (caseD es rs new), v3, some (caseD es (rs.map wid) new), v5, v6, v7, none, none], ?_, fun ρ e => by subst e; exact wl_cr4 hq C hT⟩
  refine ⟨es, rs, new, rfl, CC.hr, es, rs.map wid, new, rfl, CW.hr, ?_⟩
  rw [map_wid]
  exact ⟨.tup [caseD es (rs.map wid) new, caseD es (rs.map wid) new], rfl, ⟨5, al_two (al_case _ _ _) (al_case _ _ _)⟩, by show sz (caseD es (rs.map wid) new) + (sz (caseD es (rs.map wid) new) + 0) + 1 ≤ _; omega, fun h => ab_ft h, fun _ => rfl⟩
theorem wl_cr1 (hq : CrQ n w q) (C : CaQ es rs new) {d0 : D} (hT : Reel (n + 1500) d0) :
    m__law_case_right_1 (CrE d1 w q x) [some d0, some (.bl w), some (caseD es rs new), none, none, v5, v6, v7, none, none] := by
  refine ⟨fun ρ => ρ = [some d0, some (.bl w), some (caseD es rs new), some (.lst ((rs.map wid).map rD)), none, v5, v6, v7, none, none], ?_, ?_⟩
  · refine ⟨.tup (rs.map rD), rfl, ?_⟩
    refine lc_map (l := rs) (f := rD) (fun _ => true) (fun r => rD (wid r)) ?_ (by have := C.2.1; omega) ?_
    · intro t r hr A B hA hB
      refine ⟨fun _ => ?_, fun h => ab_tf h⟩
      cases r with
      | elder el tt mo => exact ⟨.str ELDER, rfl, fun _ => ⟨Nat.le_of_ble_eq_true rfl, hA _ rfl rfl⟩, fun h => ab_tf h⟩
      | back wd ap tt mo => exact ⟨.str BACK, rfl, fun h => ab_ft h, fun _ => ⟨Nat.le_of_ble_eq_true rfl, Nat.le_of_ble_eq_true rfl, hA _ rfl rfl⟩⟩
    · rw [filt_all]
      show _ = _
      rw [List.map_map]
      rfl
  · rintro ρ rfl
    refine ⟨fun ρ => ρ = [some d0, some (.bl w), some (caseD es rs new), some (.lst ((rs.map wid).map rD)), some (caseD es (rs.map wid) new), v5, v6, v7, none, none], ?_, fun ρ e => by subst e; exact wl_cr3 hq C hT⟩
    exact ⟨.tup (es.map D.str), rfl, .str new, rfl, rfl⟩
end
theorem wp__law_case_right : WpOk [true, false] 8 sp__law_case_right m__law_case_right := by
  rintro ds q x - ⟨d0, n, w, rfl, hT, hq⟩
  have hq : CrQ n w q := hq
  refine ⟨fun ρ => ∃ (d0 : D) (es : List Tx) (rs : List Rule) (new : Tx), ρ = [some d0, some (.bl w), some (caseD es rs new), none, none, none, none, none, none, none] ∧ CaQ es rs new ∧ Reel (n + 1500) d0, ?_, ?_⟩
  · refine ⟨d0, n + 1500, w, rfl, hT.le (by omega), ?_⟩
    intro es rs new d0 C hT
    exact ⟨d0, es, rs, new, rfl, C, hT⟩
  · rintro ρ ⟨d0, es, rs, new, rfl, C, hT⟩
    exact wl_cr1 hq C hT
end Lw
end

-- text K39n
section
set_option Elab.async false
set_option linter.all false
set_option maxRecDepth 100000
set_option maxHeartbeats 1000000
namespace Lw
open PySem PySem.Spec PyProof.Rows L2 Mi
abbrev ABC : Tx := [97, 98, 99, 100, 101, 102, 103, 104, 105, 106, 107, 108, 109, 110, 111, 112, 113, 114, 115, 116, 117]
def Wd (m : Nat) : Tx := ABC.take m
abbrev bR (w : Int) (b : Bool) (m : Int) : Rule := .back w b false m
abbrev rA (m1 m2 : Int) (w : Int) (b : Bool) : List Rule := [.elder 0 false m1, .elder 0 true m2, bR w b 300]
abbrev nw (m : Nat) : Tx := Wd m ++ Wd m
theorem fA2 : ∀ m, m < 8 → ∀ b, pcs [Wd (m + 3)] (rA 300 2 300 b) (nw (m + 3)) = 2 := by decide +kernel
theorem fA3 : ∀ m, m < 8 → ∀ b, pcs [Wd (m + 3)] (rA ((m + 3 : Nat) : Int) 2 300 b) (nw (m + 3)) = 2 := by decide +kernel
theorem fA4 : ∀ m, m < 8 → ∀ b, 2 < pcs [Wd (m + 3)] (rA ((m + 2 : Nat) : Int) 2 300 b) (nw (m + 3)) := by decide +kernel
theorem fA5 : ∀ m, m < 8 → ∀ b, pcs [Wd (m + 3)] (rA 300 2 1 b) (nw (m + 3)) = 2 := by decide +kernel
theorem fA6 : ∀ m, m < 8 → ∀ b, pcs [Wd (m + 3)] (rA 300 300 300 b) (nw (m + 3)) = 2 := by decide +kernel
theorem fB1 : ∀ m, m < 8 → ∀ b, pcs [] [bR 300 b 300] (nw (m + 3)) = m + 4 := by decide +kernel
theorem fB2 : ∀ m, m < 8 → ∀ b, pcs [] [bR ((m + 3 : Nat) : Int) b 300] (nw (m + 3)) = m + 4 := by decide +kernel
theorem fB3 : ∀ m, m < 8 → ∀ b, pcs [] [bR ((m + 2 : Nat) : Int) b 300] (nw (m + 3)) = 2 * (m + 3) := by decide +kernel
theorem fB4 : ∀ m, m < 8 → ∀ b, pcs [] [bR 300 b ((m + 3 : Nat) : Int)] (nw (m + 3)) ≤ m + 4 := by decide +kernel
theorem fB5 : ∀ m, m < 8 → ∀ b, m + 4 < pcs [] [bR 300 b ((m + 2 : Nat) : Int)] (nw (m + 3)) := by decide +kernel
abbrev rC (w : Int) : List Rule := [.elder 0 false 300, bR w false 300, .elder 0 true 3]
abbrev nC : Tx := [97, 98, 99, 98, 97, 97, 98, 97, 98]
abbrev eC : List Tx := [[97, 98, 99, 97, 98]]
theorem fS2 : pcs [[97, 98]] [.elder 0 false 2] [97, 98, 97, 98] = 2 := by decide +kernel
theorem fS9 : pcs [[97, 98]] [.elder 0 false 9] [97, 98, 97, 98] = 2 := by decide +kernel
theorem fC1 : pcs eC (rC 1) nC = 4 := by decide +kernel
theorem fC300 : pcs eC (rC 300) nC = 4 := by decide +kernel
theorem fCw : pcs eC [.elder 0 false 300, bR 300 false 300, .elder 0 true 300] nC = 4 := by decide +kernel
end Lw
end

-- text K39o
section
set_option Elab.async false
set_option linter.all false
set_option maxRecDepth 100000
set_option maxHeartbeats 1000000
namespace Lw
open PySem PySem.Spec PyProof.Rows L2 Mi
theorem Wd_len {m : Nat} (h : m < 8) : (Wd (m + 3)).length = m + 3 := by
  unfold Wd
  rw [List.length_take]
  show min (m + 3) 21 = _
  omega
theorem nw_len {m : Nat} (h : m < 8) : (nw (m + 3)).length = 2 * (m + 3) := by
  show (Wd (m + 3) ++ Wd (m + 3)).length = _
  rw [List.length_append, Wd_len h]
  omega
theorem csA {m : Nat} (h : m < 8) {m1 m2 w : Int} {b : Bool} (h1 : 2 ≤ m1 ∧ m1 ≤ 1000) (h2 : 2 ≤ m2 ∧ m2 ≤ 1000) (h3 : 1 ≤ w ∧ w ≤ 1000) : CsOk [Wd (m + 3)] (rA m1 m2 w b) (nw (m + 3)) := by
  have l1 := Wd_len h
  have l2 := nw_len h
  refine ⟨⟨Nat.le_of_ble_eq_true rfl, Nat.le_of_ble_eq_true rfl, by omega, fun e he => ?_, fun r hr => ?_⟩, by omega, fun r hr => ?_⟩
  · rw [List.mem_singleton] at he
    subst he
    omega
  · simp only [List.mem_cons, List.not_mem_nil, or_false] at hr
    rcases hr with rfl | rfl | rfl
    · exact Nat.zero_lt_one
    · exact Nat.zero_lt_one
    · exact ⟨by omega, by omega⟩
  · simp only [List.mem_cons, List.not_mem_nil, or_false] at hr
    rcases hr with rfl | rfl | rfl
    · exact ⟨h1.1, h1.2, by show (1 : Int) ≤ 1; decide, by show (1 : Int) ≤ 1000; decide⟩
    · exact ⟨h2.1, h2.2, by show (1 : Int) ≤ 1; decide, by show (1 : Int) ≤ 1000; decide⟩
    · exact ⟨by show (2 : Int) ≤ 300; decide, by show (300 : Int) ≤ 1000; decide, h3.1, h3.2⟩
theorem csB {m : Nat} (h : m < 8) {w mo : Int} {b : Bool} (h2 : 2 ≤ mo ∧ mo ≤ 1000) (h3 : 1 ≤ w ∧ w ≤ 1000) : CsOk [] [bR w b mo] (nw (m + 3)) := by
  have l2 := nw_len h
  refine ⟨⟨Nat.le_of_ble_eq_true rfl, Nat.le_of_ble_eq_true rfl, by omega, fun e he => (nomatch he), fun r hr => ?_⟩, by omega, fun r hr => ?_⟩
  · rw [List.mem_singleton] at hr
    subst hr
    exact ⟨by omega, by omega⟩
  · rw [List.mem_singleton] at hr
    subst hr
    exact ⟨h2.1, h2.2, h3.1, h3.2⟩
theorem st_le (f : Nat → Nat) (n : Nat) : ∀ k a, st f n k a ≤ k
  | 0, _ => Nat.le_refl _
  | k + 1, a => by
    unfold st
    split
    · have := st_le f n k (f a)
      omega
    · exact Nat.zero_le _
theorem pcs_le (es : List Tx) (rs : List Rule) (new : Tx) : pcs es rs new ≤ new.length := st_le _ _ _ _
section
variable {m : Nat} {b : Bool}
theorem lA0 (h : m < 8) : leM [Wd (m + 3)] (rA 300 2 300 b) (nw (m + 3)) 0 (.elder 0 false 300) = m + 3 := by
  have C := csA (b := b) h (m1 := 300) (m2 := 2) (w := 300) (by decide) (by decide) (by decide)
  refine leM_eq (C.ru (.elder 0 false 300) (by simp)) rfl (by omega) (by show (((m + 3 : Nat)) : Int) ≤ 300; omega) (fun c hc1 hc2 hc3 => ?_) (fun _ => ?_)
  · have e := pcM_le (es := [Wd (m + 3)]) (rs := rA 300 2 300 b) (new := nw (m + 3)) (k := 0) (r := .elder 0 false 300) (m1 := (c : Int)) (m2 := ((m + 2 : Nat) : Int)) (.inl (by omega))
    have f := fA4 m h b
    have g := fA2 m h b
    have e : pcs [Wd (m + 3)] (rA ((m + 2 : Nat) : Int) 2 300 b) (nw (m + 3)) ≤ _ := e
    omega
  · have f := fA3 m h b
    have g := fA2 m h b
    show pcs [Wd (m + 3)] (rA ((m + 3 : Nat) : Int) 2 300 b) (nw (m + 3)) ≤ _
    omega
theorem lA2 (h : m < 8) : leW [Wd (m + 3)] (rA 300 2 300 b) (nw (m + 3)) 2 (bR 300 b 300) = 1 := by
  have C := csA (b := b) h (m1 := 300) (m2 := 2) (w := 300) (by decide) (by decide) (by decide)
  refine leW_eq (C.ru (bR 300 b 300) (by simp)) rfl rfl (by omega) (by show (((1 : Nat)) : Int) ≤ 300; decide) (fun c hc1 hc2 hc3 => by omega) (fun _ => ?_)
  have f := fA5 m h b
  have g := fA2 m h b
  show pcs [Wd (m + 3)] (rA 300 2 1 b) (nw (m + 3)) ≤ _
  omega
theorem lA1 : leM [Wd (m + 3)] (rA 300 2 300 b) (nw (m + 3)) 1 (.elder 0 true 2) = 2 := rfl
/-- a width below the word's length lets nothing -/
theorem far (h : m < 8) {w : Int} (hw2 : w ≤ ((m + 2 : Nat) : Int)) : pcs [] [bR w b 300] (nw (m + 3)) = 2 * (m + 3) := by
  have f := fB3 m h b
  have e := pcW_le (es := []) (rs := [bR 300 b 300]) (new := nw (m + 3)) (k := 0) (r := bR 300 b 300) (m1 := w) (m2 := ((m + 2 : Nat) : Int)) (.inl hw2)
  have e : pcs [] [bR ((m + 2 : Nat) : Int) b 300] (nw (m + 3)) ≤ pcs [] [bR w b 300] (nw (m + 3)) := e
  have g := pcs_le [] [bR w b 300] (nw (m + 3))
  rw [nw_len h] at g
  omega
theorem lBw (h : m < 8) : leW [] [bR 300 b 300] (nw (m + 3)) 0 (bR 300 b 300) = m + 3 := by
  have C := csB (b := b) h (mo := 300) (w := 300) (by decide) (by decide)
  refine leW_eq (C.ru (bR 300 b 300) (by simp)) rfl rfl (by omega) (by show (((m + 3 : Nat)) : Int) ≤ 300; omega) (fun c hc1 hc2 hc3 => ?_) (fun _ => ?_)
  · have f := far (b := b) h (w := (c : Int)) (by omega)
    have g := fB1 m h b
    have hc3 : pcs [] [bR (c : Int) b 300] (nw (m + 3)) ≤ _ := hc3
    omega
  · have f := fB2 m h b
    have g := fB1 m h b
    show pcs [] [bR ((m + 3 : Nat) : Int) b 300] (nw (m + 3)) ≤ _
    omega
theorem lBm (h : m < 8) : leM [] [bR 300 b 300] (nw (m + 3)) 0 (bR 300 b 300) = m + 3 := by
  have C := csB (b := b) h (mo := 300) (w := 300) (by decide) (by decide)
  refine leM_eq (C.ru (bR 300 b 300) (by simp)) rfl (by omega) (by show (((m + 3 : Nat)) : Int) ≤ 300; omega) (fun c hc1 hc2 hc3 => ?_) (fun _ => ?_)
  · have e := pcM_le (es := []) (rs := [bR 300 b 300]) (new := nw (m + 3)) (k := 0) (r := bR 300 b 300) (m1 := (c : Int)) (m2 := ((m + 2 : Nat) : Int)) (.inl (by omega))
    have f := fB5 m h b
    have g := fB1 m h b
    have e : pcs [] [bR 300 b ((m + 2 : Nat) : Int)] (nw (m + 3)) ≤ _ := e
    omega
  · have f := fB4 m h b
    have g := fB1 m h b
    show pcs [] [bR 300 b ((m + 3 : Nat) : Int)] (nw (m + 3)) ≤ _
    omega
theorem lNw (h : m < 8) {w : Int} (h1 : 1 ≤ w) (h2 : w ≤ ((m + 2 : Nat) : Int)) : leW [] [bR w b 300] (nw (m + 3)) 0 (bR w b 300) = 1 := by
  have C := csB (b := b) h (mo := 300) (w := w) (by decide) (by omega)
  refine leW_eq (C.ru (bR w b 300) (by simp)) rfl rfl (by omega) (by show (((1 : Nat)) : Int) ≤ w; omega) (fun c hc1 hc2 hc3 => by omega) (fun _ => ?_)
  have f := far (b := b) h (w := ((1 : Nat) : Int)) (by omega)
  have g := far (b := b) h (w := w) h2
  show pcs [] [bR ((1 : Nat) : Int) b 300] (nw (m + 3)) ≤ _
  omega
end
end Lw
end

-- text K39p
section
set_option Elab.async false
set_option linter.all false
set_option maxRecDepth 100000
set_option maxHeartbeats 1000000
namespace Lw
open PySem PySem.Spec PyProof.Rows L2 Mi
section
variable {d1 : D} {n m : Nat} {b : Bool} {q : D → List D → Prop} {x : Er → List D → Prop} {v3 v4 v5 v6 v7 v8 v9 v10 v11 : Option D}
abbrev BoE (d1 : D) (q : D → List D → Prop) (x : Er → List D → Prop) : Es := endsOf [true] [d1] q x
abbrev BoQ (n : Nat) (q : D → List D → Prop) : Prop := ∀ d', Reel n d' → q (.bl true) [d']
theorem al_three {n : Nat} {a b c : D} (h : Al n a) (h2 : Al n b) (h3 : Al n c) : Al (n + 1) (.tup [a, b, c]) := fun y hy => by
  simp only [List.mem_cons, List.not_mem_nil, or_false] at hy
  rcases hy with rfl | rfl | rfl
  · exact h
  · exact h2
  · exact h3
theorem wl_bo16 (hq : BoQ n q) (h : m < 8) {d0 : D} (hT : Reel n d0) :
    m__law_bounded_16 (BoE d1 q x) [some d0, some (.int ((m + 3 : Nat) : Int)), some (.str (Wd (m + 3))), v3, v4, v5, v6, v7, v8, some (caseD [] [bR 300 b 300] (nw (m + 3))), v10, v11] := by
  have C := csB (b := b) h (mo := 300) (w := 300) (by decide) (by decide)
  have e1 : leW [] [bR 300 b 300] (nw (m + 3)) (Int.toNat ((0 : Nat) : Int)) (bR 300 b 300) = m + 3 := lBw h
  have e2 : leM [] [bR 300 b 300] (nw (m + 3)) (Int.toNat ((0 : Nat) : Int)) (bR 300 b 300) = m + 3 := lBm h
  have r0 : ruleAt [bR 300 b 300] ((0 : Nat) : Int) = some (bR 300 b 300) := rfl
  refine ⟨[], [bR 300 b 300], nw (m + 3), ((0 : Nat) : Int), rfl, C, ?_⟩
  rw [r0]
  conv => whnf
  rw [e1]
  refine ⟨[], [bR 300 b 300], nw (m + 3), ((0 : Nat) : Int), rfl, C, ?_⟩
  rw [r0]
  conv => whnf
  rw [e2]
  refine ⟨[], [bR 300 b 300], nw (m + 3), rfl, C.C, ?_⟩
  have e3 : (pcs [] [bR 300 b 300] (nw (m + 3)) : Int) - (pcs [] ([bR 300 b 300].map wid) (nw (m + 3)) : Int) = 0 := Int.sub_self _
  rw [e3]
  exact ⟨.tup [.int ((m + 3 : Nat) : Int), .int ((m + 3 : Nat) : Int), .int 0], rfl, ⟨2, al_three (n := 1) trivial trivial trivial⟩, Nat.le_of_ble_eq_true rfl, hq d0 hT⟩
theorem wl_bo14 (hq : BoQ n q) (h : m < 8) {w : Int} (h1 : 1 ≤ w) (h2 : w ≤ ((m + 2 : Nat) : Int)) {d0 : D} (hT : Reel n d0) :
    m__law_bounded_14 (BoE d1 q x) [some d0, some (.int ((m + 3 : Nat) : Int)), some (.str (Wd (m + 3))), v3, v4, v5, v6, v7, v8, some (caseD [] [bR 300 b 300] (nw (m + 3))), some (caseD [] [bR w b 300] (nw (m + 3))), v11] := by
  have C := csB (b := b) h (mo := 300) (w := w) (by decide) (by omega)
  have f2 := fB2 m h b
  have f1 := fB1 m h b
  have ff := far (b := b) h h2
  have r0 : ruleAt [bR w b 300] ((0 : Nat) : Int) = some (bR w b 300) := rfl
  have e0 : pcW [] [bR w b 300] (nw (m + 3)) (Int.toNat ((0 : Nat) : Int)) (bR w b 300) ((m + 3 : Nat) : Int) = m + 4 := f2
  have e1 : leW [] [bR w b 300] (nw (m + 3)) (Int.toNat ((0 : Nat) : Int)) (bR w b 300) = 1 := lNw h h1 h2
  have e3 : (pcs [] [bR w b 300] (nw (m + 3)) : Int) - (pcs [] ([bR w b 300].map wid) (nw (m + 3)) : Int) = ((m + 3 : Nat) : Int) - 1 := by
    have : pcs [] ([bR w b 300].map wid) (nw (m + 3)) = m + 4 := f1
    rw [this, ff]
    omega
  refine ⟨fun ρ => ρ = [some d0, some (.int ((m + 3 : Nat) : Int)), some (.str (Wd (m + 3))), v3, v4, v5, v6, v7, some (.tup [.tup [.int ((m + 4 : Nat) : Int)], .int 1, .int (((m + 3 : Nat) : Int) - 1)]), some (caseD [] [bR 300 b 300] (nw (m + 3))), some (caseD [] [bR w b 300] (nw (m + 3))), v11], ?_, ?_⟩
  · refine ⟨[], [bR w b 300], nw (m + 3), ((0 : Nat) : Int), [((m + 3 : Nat) : Int)], rfl, C, ⟨Nat.le_of_ble_eq_true rfl, fun c hc => by rw [List.mem_singleton] at hc; subst hc; omega⟩, ?_⟩
    rw [r0]
    conv => whnf
    rw [List.map_singleton, e0]
    refine ⟨[], [bR w b 300], nw (m + 3), ((0 : Nat) : Int), rfl, C, ?_⟩
    rw [r0]
    conv => whnf
    rw [e1]
    refine ⟨[], [bR w b 300], nw (m + 3), rfl, C.C, ?_⟩
    rw [e3]
    rfl
  · rintro ρ rfl
    refine ⟨fun ρ => ρ = [some d0, some (.int ((m + 3 : Nat) : Int)), some (.str (Wd (m + 3))), v3, v4, v5, v6, v7, some (.tup [.tup [.int ((m + 4 : Nat) : Int)], .int 1, .int (((m + 3 : Nat) : Int) - 1)]), some (caseD [] [bR 300 b 300] (nw (m + 3))), some (caseD [] [bR w b 300] (nw (m + 3))), v11], ?_, fun ρ e => by subst e; exact wl_bo16 hq h hT⟩
    refine ⟨.tup [.tup [.int ((m + 4 : Nat) : Int)], .int 1, .int (((m + 3 : Nat) : Int) - 1)], ?_, ⟨3, fun y hy => ?_⟩, Nat.le_of_ble_eq_true rfl, fun h => ab_ft h, fun _ => rfl⟩
    · rw [show ((m + 4 : Nat) : Int) = ((m + 3 : Nat) : Int) + 1 by omega]
    · simp only [List.mem_cons, List.not_mem_nil, or_false] at hy
      rcases hy with rfl | rfl | rfl
      · intro z hz
        rw [List.mem_singleton] at hz
        subst hz
        trivial
      · trivial
      · trivial
theorem wl_bo13 (hq : BoQ n q) (h : m < 8) {d0 : D} (hT : Reel (n + 1) d0) :
    m__law_bounded_13 (BoE d1 q x) [some d0, some (.int ((m + 3 : Nat) : Int)), some (.str (Wd (m + 3))), v3, v4, v5, v6, v7, v8, some (caseD [] [bR 300 b 300] (nw (m + 3))), v10, v11] := by
  refine ⟨fun ρ => ∃ (d0 : D) (w : Int), ρ = [some d0, some (.int ((m + 3 : Nat) : Int)), some (.str (Wd (m + 3))), v3, v4, v5, v6, v7, v8, some (caseD [] [bR 300 b 300] (nw (m + 3))), some (caseD [] [bR w b 300] (nw (m + 3))), v11] ∧ 1 ≤ w ∧ w ≤ ((m + 2 : Nat) : Int) ∧ Reel n d0, ?_, fun ρ e => by obtain ⟨d0, w, rfl, h1, h2, hT⟩ := e; exact wl_bo14 hq h h1 h2 hT⟩
  refine ⟨d0, n, ((m + 3 : Nat) : Int) - 1, rfl, hT, by omega, by omega, ?_⟩
  intro v d0 hv gv hT
  refine ⟨[], [bR 300 b 300], nw (m + 3), 0, bR 300 b 300, bR (1 + v) b 300, 0, 1 + v, rfl, Nat.le_of_ble_eq_true rfl, rfl, .inr ⟨rfl, by omega, rfl, rfl⟩, ?_⟩
  exact ⟨d0, 1 + v, rfl, by omega, by omega, hT⟩
theorem wl_bo11 (hq : BoQ n q) (h : m < 8) {d0 : D} (hT : Reel (n + 1) d0) :
    m__law_bounded_11 (BoE d1 q x) [some d0, some (.int ((m + 3 : Nat) : Int)), some (.str (Wd (m + 3))), some (rD (bR 300 b 300)), v4, v5, v6, v7, v8, v9, v10, v11] := by
  have C := csB (b := b) h (mo := 300) (w := 300) (by decide) (by decide)
  have f2 := fB2 m h b
  have f3 := fB3 m h b
  have l := Wd_len h
  have r0 : ruleAt [bR 300 b 300] ((0 : Nat) : Int) = some (bR 300 b 300) := rfl
  have e0 : pcW [] [bR 300 b 300] (nw (m + 3)) (Int.toNat ((0 : Nat) : Int)) (bR 300 b 300) ((m + 3 : Nat) : Int) = m + 4 := f2
  have e1 : pcW [] [bR 300 b 300] (nw (m + 3)) (Int.toNat ((0 : Nat) : Int)) (bR 300 b 300) (((m + 3 : Nat) : Int) - 1) = 2 * (m + 3) := by
    rw [show ((m + 3 : Nat) : Int) - 1 = ((m + 2 : Nat) : Int) by omega]
    exact f3
  refine ⟨by omega, ?_⟩
  refine ⟨fun ρ => ρ = [some d0, some (.int ((m + 3 : Nat) : Int)), some (.str (Wd (m + 3))), some (rD (bR 300 b 300)), v4, v5, v6, v7, v8, some (caseD [] [bR 300 b 300] (nw (m + 3))), v10, v11], ?_, fun ρ e => by subst e; exact wl_bo13 hq h hT⟩
  refine ⟨[], [bR 300 b 300], nw (m + 3), ((0 : Nat) : Int), [((m + 3 : Nat) : Int), ((m + 3 : Nat) : Int) - 1], rfl, C, ⟨Nat.le_of_ble_eq_true rfl, fun c hc => ?_⟩, ?_⟩
  · simp only [List.mem_cons, List.not_mem_nil, or_false] at hc
    rcases hc with rfl | rfl <;> omega
  rw [r0]
  conv => whnf
  rw [List.map_cons, List.map_singleton, e0, e1]
  refine ⟨cml_l (by decide) (by decide), .tup [.int ((m + 4 : Nat) : Int), .int ((2 * (m + 3) : Nat) : Int)], ?_, ⟨2, al_two (n := 1) trivial trivial⟩, Nat.le_of_ble_eq_true rfl, fun h => ab_ft h, fun _ => rfl⟩
  rw [show ((m + 3 : Nat) : Int) + 1 = ((m + 4 : Nat) : Int) by omega, show 2 * ((m + 3 : Nat) : Int) = ((2 * (m + 3) : Nat) : Int) by omega]
  rfl
def msL (m : Nat) : List Int := (List.range (m + 3)).map fun (i : Nat) => 2 + (i : Int)
def duL (m : Nat) (b : Bool) : List Nat := (msL m).map (pcM [Wd (m + 3)] (rA 300 2 300 b) (nw (m + 3)) 0 (.elder 0 false 300))
def duD (m : Nat) (b : Bool) : D := .tup (nats (duL m b))
theorem ms_bd (h : m < 8) : BdOk (msL m) := by
  refine ⟨by unfold msL; rw [List.length_map, List.length_range]; omega, fun y hy => ?_⟩
  obtain ⟨i, hi, rfl⟩ := List.mem_map.mp hy
  have := List.mem_range.mp hi
  omega
theorem ms_rng : rngI 2 (((m + 3 : Nat) : Int) + 2 - 2).toNat = inz (msL m) := by
  rw [show (((m + 3 : Nat) : Int) + 2 - 2).toNat = m + 3 by omega]
  unfold rngI msL inz
  rw [List.map_map]
  rfl
theorem al_du : Al 2 (duD m b) := al_nats _
theorem sz_du (h : m < 8) : sz (duD m b) ≤ 20 := by
  show sz.szs (nats (duL m b)) + 1 ≤ 20
  rw [szs_nats]
  unfold duL msL
  rw [List.length_map, List.length_map, List.length_range]
  omega
theorem wl_bo9 (hq : BoQ n q) (h : m < 8) {mo : Int} (h1 : 2 ≤ mo) (h2 : mo ≤ 300) {d0 : D} (hT : Reel (n + 1) d0) :
    m__law_bounded_9 (BoE d1 q x) [some d0, some (.int ((m + 3 : Nat) : Int)), some (.str (Wd (m + 3))), some (rD (bR 300 b 300)), v4, some (.tup (inz (msL m))), some (duD m b), some (caseD [Wd (m + 3)] (rA mo 2 300 b) (nw (m + 3))), v8, v9, v10, v11] := by
  have C := csA (b := b) h (m1 := mo) (m2 := 2) (w := 300) ⟨h1, by omega⟩ (by decide) (by decide)
  have r0 : ruleAt (rA mo 2 300 b) ((0 : Nat) : Int) = some (.elder 0 false mo) := rfl
  have f6 := fA6 m h b
  have e3 : (pcs [Wd (m + 3)] (rA mo 2 300 b) (nw (m + 3)) : Int) - (pcs [Wd (m + 3)] ((rA mo 2 300 b).map wid) (nw (m + 3)) : Int) = (pcs [Wd (m + 3)] (rA mo 2 300 b) (nw (m + 3)) : Int) - 2 := by
    have : pcs [Wd (m + 3)] ((rA mo 2 300 b).map wid) (nw (m + 3)) = 2 := f6
    rw [this]
    rfl
  refine ⟨fun ρ => ρ = [some d0, some (.int ((m + 3 : Nat) : Int)), some (.str (Wd (m + 3))), some (rD (bR 300 b 300)), v4, some (.tup (inz (msL m))), some (duD m b), some (caseD [Wd (m + 3)] (rA mo 2 300 b) (nw (m + 3))), some (.tup [duD m b, .int ((pcs [Wd (m + 3)] (rA mo 2 300 b) (nw (m + 3)) : Int) - 2), .int (leM [Wd (m + 3)] (rA mo 2 300 b) (nw (m + 3)) 0 (.elder 0 false mo) : Int)]), v9, v10, v11], ?_, ?_⟩
  · refine ⟨[Wd (m + 3)], rA mo 2 300 b, nw (m + 3), ((0 : Nat) : Int), msL m, rfl, C, ms_bd h, ?_⟩
    rw [r0]
    refine ⟨[Wd (m + 3)], rA mo 2 300 b, nw (m + 3), rfl, C.C, ?_⟩
    rw [e3]
    refine ⟨[Wd (m + 3)], rA mo 2 300 b, nw (m + 3), ((0 : Nat) : Int), rfl, C, ?_⟩
    rw [r0]
    rfl
  · rintro ρ rfl
    refine ⟨fun ρ => ρ = [some d0, some (.int ((m + 3 : Nat) : Int)), some (.str (Wd (m + 3))), some (rD (bR 300 b 300)), v4, some (.tup (inz (msL m))), some (duD m b), some (caseD [Wd (m + 3)] (rA mo 2 300 b) (nw (m + 3))), some (.tup [duD m b, .int ((pcs [Wd (m + 3)] (rA mo 2 300 b) (nw (m + 3)) : Int) - 2), .int (leM [Wd (m + 3)] (rA mo 2 300 b) (nw (m + 3)) 0 (.elder 0 false mo) : Int)]), v9, v10, v11], ?_, fun ρ e => by subst e; exact wl_bo11 hq h hT⟩
    refine ⟨[Wd (m + 3)], rA mo 2 300 b, nw (m + 3), rfl, C.C, ?_⟩
    refine ⟨[Wd (m + 3)], rA mo 2 300 b, nw (m + 3), 0, .elder 0 false mo, C, rfl, .inl ⟨rfl, ?_⟩⟩
    have hs := sz_du (b := b) h
    exact ⟨(.tup [duD m b, .int ((pcs [Wd (m + 3)] (rA mo 2 300 b) (nw (m + 3)) : Int) - 2), .int (leM [Wd (m + 3)] (rA mo 2 300 b) (nw (m + 3)) 0 (.elder 0 false mo) : Int)]), rfl, ⟨3, al_three al_du trivial trivial⟩, by show sz (duD m b) + (1 + (1 + 0)) + 1 ≤ _; omega, fun h => ab_ft h, fun _ => rfl⟩
theorem wl_bo7 (hq : BoQ n q) (h : m < 8) {d0 : D} (hT : Reel (n + 2) d0) :
    m__law_bounded_7 (BoE d1 q x) [some d0, some (.int ((m + 3 : Nat) : Int)), some (.str (Wd (m + 3))), some (rD (bR 300 b 300)), some (caseD [Wd (m + 3)] (rA 300 2 300 b) (nw (m + 3))), some (.tup (inz (msL m))), some (duD m b), v7, v8, v9, v10, v11] := by
  have C := csA (b := b) h (m1 := 300) (m2 := 2) (w := 300) (by decide) (by decide) (by decide)
  have r0 : ruleAt (rA 300 2 300 b) ((0 : Nat) : Int) = some (.elder 0 false 300) := rfl
  refine ⟨fun ρ => ρ = [some d0, some (.int ((m + 3 : Nat) : Int)), some (.str (Wd (m + 3))), some (rD (bR 300 b 300)), some (caseD [Wd (m + 3)] (rA 300 2 300 b) (nw (m + 3))), some (.tup (inz (msL m))), some (duD m b), v7, v8, v9, v10, v11], ?_, ?_⟩
  · refine ⟨[Wd (m + 3)], rA 300 2 300 b, nw (m + 3), ((0 : Nat) : Int), msL m, rfl, C, ms_bd h, ?_⟩
    rw [r0]
    have hs := sz_du (b := b) h
    exact ⟨duD m b, rfl, ⟨2, al_du⟩, by omega, fun h => ab_ft h, fun _ => rfl⟩
  · rintro ρ rfl
    refine ⟨fun ρ => ∃ (d0 : D) (mo : Int), ρ = [some d0, some (.int ((m + 3 : Nat) : Int)), some (.str (Wd (m + 3))), some (rD (bR 300 b 300)), some (caseD [Wd (m + 3)] (rA 300 2 300 b) (nw (m + 3))), some (.tup (inz (msL m))), some (duD m b), some (caseD [Wd (m + 3)] (rA mo 2 300 b) (nw (m + 3))), v8, v9, v10, v11] ∧ 2 ≤ mo ∧ mo ≤ 300 ∧ Reel (n + 1) d0, ?_, fun ρ e => by obtain ⟨d0, mo, rfl, h1, h2, hT⟩ := e; exact wl_bo9 hq h h1 h2 hT⟩
    refine ⟨d0, n + 1, ((m + 3 : Nat) : Int) - 2, rfl, hT, by omega, by omega, ?_⟩
    intro v d0 hv gv hT
    refine ⟨[Wd (m + 3)], rA 300 2 300 b, nw (m + 3), 0, .elder 0 false 300, .elder 0 false (2 + v), 2 + v, 0, rfl, Nat.le_of_ble_eq_true rfl, rfl, .inl ⟨by omega, rfl, rfl⟩, ?_⟩
    exact ⟨d0, 2 + v, rfl, by omega, by omega, hT⟩
theorem wl_bo5 (hq : BoQ n q) (h : m < 8) {d0 : D} (hT : Reel (n + 2) d0) :
    m__law_bounded_5 (BoE d1 q x) [some d0, some (.int ((m + 3 : Nat) : Int)), some (.str (Wd (m + 3))), some (rD (bR 300 b 300)), some (caseD [Wd (m + 3)] (rA 300 2 300 b) (nw (m + 3))), v5, v6, v7, v8, v9, v10, none] := by
  have C := csA (b := b) h (m1 := 300) (m2 := 2) (w := 300) (by decide) (by decide) (by decide)
  have B := ms_bd h
  refine ⟨⟨by omega, by omega, by omega, by omega, by omega⟩, ?_⟩
  rw [ms_rng]
  refine ⟨fun ρ => ρ = [some d0, some (.int ((m + 3 : Nat) : Int)), some (.str (Wd (m + 3))), some (rD (bR 300 b 300)), some (caseD [Wd (m + 3)] (rA 300 2 300 b) (nw (m + 3))), some (.tup (inz (msL m))), some (duD m b), v7, v8, v9, v10, none], ?_, fun ρ e => by subst e; exact wl_bo7 hq h hT⟩
  refine lc_map (l := msL m) (f := D.int) (fun _ => true) (fun y => .int (pcM [Wd (m + 3)] (rA 300 2 300 b) (nw (m + 3)) 0 (.elder 0 false 300) y : Int)) ?_ (by have := B.1; omega) ?_
  · intro t y hy A B' hA hB
    refine ⟨fun _ => ?_, fun h => ab_tf h⟩
    have hm2 := B.2 y (List.mem_of_getElem? hy)
    have C2 : CaseOk [Wd (m + 3)] ((rA 300 2 300 b).set 0 (.elder 0 false y)) (nw (m + 3)) := set_ok C.C (C.C.hru (.elder 0 false 300) (by simp))
    refine ⟨[Wd (m + 3)], rA 300 2 300 b, nw (m + 3), 0, .elder 0 false 300, .elder 0 false y, y, 0, rfl, Nat.le_of_ble_eq_true rfl, rfl, .inl ⟨by omega, rfl, rfl⟩, ?_⟩
    exact ⟨[Wd (m + 3)], (rA 300 2 300 b).set 0 (.elder 0 false y), nw (m + 3), rfl, C2, hA _ rfl rfl⟩
  · rw [filt_all]
    unfold duD duL
    rw [nats, List.map_map]
    rfl
theorem wl_bo4 (hq : BoQ n q) (h : m < 8) {d0 : D} (hT : Reel (n + 2) d0) :
    m__law_bounded_4 (BoE d1 q x) [some d0, some (.int ((m + 3 : Nat) : Int)), some (.str (Wd (m + 3))), some (rD (bR 300 b 300)), some (caseD [Wd (m + 3)] (rA 300 2 300 b) (nw (m + 3))), v5, v6, v7, v8, v9, v10, none] := by
  have C := csA (b := b) h (m1 := 300) (m2 := 2) (w := 300) (by decide) (by decide) (by decide)
  have r0 : ruleAt (rA 300 2 300 b) ((0 : Nat) : Int) = some (.elder 0 false 300) := rfl
  have r1 : ruleAt (rA 300 2 300 b) ((1 : Nat) : Int) = some (.elder 0 true 2) := rfl
  have r2 : ruleAt (rA 300 2 300 b) ((2 : Nat) : Int) = some (bR 300 b 300) := rfl
  have e0 : leM [Wd (m + 3)] (rA 300 2 300 b) (nw (m + 3)) (Int.toNat ((0 : Nat) : Int)) (.elder 0 false 300) = m + 3 := lA0 h
  have e1 : leM [Wd (m + 3)] (rA 300 2 300 b) (nw (m + 3)) (Int.toNat ((1 : Nat) : Int)) (.elder 0 true 2) = 2 := lA1
  have e2 : leW [Wd (m + 3)] (rA 300 2 300 b) (nw (m + 3)) (Int.toNat ((2 : Nat) : Int)) (bR 300 b 300) = 1 := lA2 h
  refine ⟨fun ρ => ρ = [some d0, some (.int ((m + 3 : Nat) : Int)), some (.str (Wd (m + 3))), some (rD (bR 300 b 300)), some (caseD [Wd (m + 3)] (rA 300 2 300 b) (nw (m + 3))), v5, v6, v7, v8, v9, v10, none], ?_, fun ρ e => by subst e; exact wl_bo5 hq h hT⟩
  refine ⟨[Wd (m + 3)], rA 300 2 300 b, nw (m + 3), ((0 : Nat) : Int), rfl, C, ?_⟩
  rw [r0]
  conv => whnf
  rw [e0]
  refine ⟨[Wd (m + 3)], rA 300 2 300 b, nw (m + 3), ((2 : Nat) : Int), rfl, C, ?_⟩
  rw [r2]
  conv => whnf
  rw [e2]
  refine ⟨[Wd (m + 3)], rA 300 2 300 b, nw (m + 3), ((1 : Nat) : Int), rfl, C, ?_⟩
  rw [r1]
  conv => whnf
  rw [e1]
  exact ⟨.tup [.int ((m + 3 : Nat) : Int), .int 1, .int 2], rfl, ⟨2, al_three (n := 1) trivial trivial trivial⟩, Nat.le_of_ble_eq_true rfl, fun h => ab_ft h, fun _ => rfl⟩
end
theorem wp__law_bounded : WpOk [true] 11 sp__law_bounded m__law_bounded := by
  rintro ds q x - ⟨d0, n, rfl, hT, hq⟩
  have hq : BoQ n q := hq
  refine ⟨fun ρ => ∃ (d0 : D) (m : Nat), ρ = [some d0, some (.int ((m + 3 : Nat) : Int)), none, none, none, none, none, none, none, none, none, none] ∧ m < 8 ∧ Reel (n + 3) d0, ?_, ?_⟩
  · refine ⟨d0, _, 8, rfl, hT, by decide, by decide, ?_⟩
    clear hT; intro v d0 hv gv hT
    obtain ⟨m, rfl⟩ : ∃ m : Nat, v = m := ⟨v.toNat, by omega⟩
    exact ⟨d0, m, by rw [show ((m + 3 : Nat) : Int) = 3 + (m : Int) by omega]; rfl, by omega, hT.le (by omega)⟩
  rintro ρ ⟨d0, m, rfl, hm, hT⟩
  have e : cutD ABC none (some ((m + 3 : Nat) : Int)) = Wd (m + 3) := cutD_hin
  refine ⟨fun ρ => ρ = [some d0, some (.int ((m + 3 : Nat) : Int)), some (.str (Wd (m + 3))), none, none, none, none, none, none, none, none, none], ?_, ?_⟩
  · rw [← e]
    rfl
  rintro ρ rfl
  refine ⟨fun ρ => ∃ (d0 : D) (b : Bool), ρ = [some d0, some (.int ((m + 3 : Nat) : Int)), some (.str (Wd (m + 3))), some (rD (bR 300 b 300)), none, none, none, none, none, none, none, none] ∧ Reel (n + 2) d0, ?_, ?_⟩
  · refine ⟨d0, _, 2, rfl, hT, by decide, by decide, ?_⟩
    clear hT; intro v d0 hv gv hT
    exact ⟨d0, decide (v = 0), rfl, hT⟩
  rintro ρ ⟨d0, b, rfl, hT⟩
  have l := Wd_len hm
  refine ⟨fun ρ => ρ = [some d0, some (.int ((m + 3 : Nat) : Int)), some (.str (Wd (m + 3))), some (rD (bR 300 b 300)), some (caseD [Wd (m + 3)] (rA 300 2 300 b) (nw (m + 3))), none, none, none, none, none, none, none], ?_, fun ρ e => by subst e; exact wl_bo4 hq hm hT⟩
  exact ⟨by omega, rfl⟩
end Lw
end

-- text K39q
section
set_option Elab.async false
set_option linter.all false
set_option maxRecDepth 100000
set_option maxHeartbeats 1000000
namespace Lw
open PySem PySem.Spec PyProof.Rows L2 Mi
abbrev eS : List Tx := [[97, 98]]
abbrev nS : Tx := [97, 98, 97, 98]
theorem csS : CsOk eS [.elder 0 false 9] nS := by
  refine ⟨⟨by decide, by decide, by decide, by decide, fun r hr => ?_⟩, by decide, fun r hr => ?_⟩
  · rw [List.mem_singleton] at hr
    subst hr
    exact Nat.zero_lt_one
  · rw [List.mem_singleton] at hr
    subst hr
    exact ⟨by show (2 : Int) ≤ 9; decide, by show (9 : Int) ≤ 1000; decide, by show (1 : Int) ≤ 1; decide, by show (1 : Int) ≤ 1000; decide⟩
theorem csC : CsOk eC (rC 300) nC := by
  refine ⟨⟨by decide, by decide, by decide, by decide, fun r hr => ?_⟩, by decide, fun r hr => ?_⟩
  · simp only [List.mem_cons, List.not_mem_nil, or_false] at hr
    rcases hr with rfl | rfl | rfl
    · exact Nat.zero_lt_one
    · exact ⟨by decide, by decide⟩
    · exact Nat.zero_lt_one
  · simp only [List.mem_cons, List.not_mem_nil, or_false] at hr
    rcases hr with rfl | rfl | rfl
    · exact ⟨by show (2 : Int) ≤ 300; decide, by show (300 : Int) ≤ 1000; decide, by show (1 : Int) ≤ 1; decide, by show (1 : Int) ≤ 1000; decide⟩
    · exact ⟨by show (2 : Int) ≤ 300; decide, by show (300 : Int) ≤ 1000; decide, by show (1 : Int) ≤ 300; decide, by show (300 : Int) ≤ 1000; decide⟩
    · exact ⟨by show (2 : Int) ≤ 3; decide, by show (3 : Int) ≤ 1000; decide, by show (1 : Int) ≤ 1; decide, by show (1 : Int) ≤ 1000; decide⟩
theorem lS : leM eS [.elder 0 false 9] nS 0 (.elder 0 false 9) = 2 := by
  refine leM_eq (csS.ru _ (by simp)) rfl (by omega) (by show (((2 : Nat)) : Int) ≤ 9; decide) (fun c hc1 hc2 hc3 => by omega) (fun _ => ?_)
  show pcs eS [.elder 0 false 2] nS ≤ pcs eS [.elder 0 false 9] nS
  rw [fS2, fS9]
  exact Nat.le_refl _
theorem lC : leW eC (rC 300) nC 1 (bR 300 false 300) = 1 := by
  refine leW_eq (csC.ru (bR 300 false 300) (by simp)) rfl rfl (by omega) (by show (((1 : Nat)) : Int) ≤ 300; decide) (fun c hc1 hc2 hc3 => by omega) (fun _ => ?_)
  show pcs eC (rC 1) nC ≤ pcs eC (rC 300) nC
  rw [fC1, fC300]
  exact Nat.le_refl _
section
variable {ns : List Int} {q : D → List D → Prop} {x : Er → List D → Prop} {v3 : Option D}
abbrev LE (ns : List Int) (q : D → List D → Prop) (x : Er → List D → Prop) : Es := endsOf [false] [.rol (inz ns)] q x
theorem wl_7 (hq : q (.bl true) [.rol (inz ns)]) {d0 : D} {w : Bool} :
    m_law_7 (LE ns q x) [some (.rol (inz ns)), some d0, some (.bl w), v3, some (caseD eS [.elder 0 false 9] nS), some (.tup ((rC 300).map rD)), some (caseD eC (rC 300) nC), none] := by
  have r0 : ruleAt [.elder 0 false 9] ((0 : Nat) : Int) = some (.elder 0 false 9) := rfl
  have r1 : ruleAt (rC 300) ((1 : Nat) : Int) = some (bR 300 false 300) := rfl
  have e1 : [2, 9].map (pcM eS [.elder 0 false 9] nS (Int.toNat ((0 : Nat) : Int)) (.elder 0 false 9)) = [2, 2] := by
    show [pcs eS [.elder 0 false 2] nS, pcs eS [.elder 0 false 9] nS] = _
    rw [fS2, fS9]
  have e2 : leM eS [.elder 0 false 9] nS (Int.toNat ((0 : Nat) : Int)) (.elder 0 false 9) = 2 := lS
  have e3 : [1, 300].map (pcW eC (rC 300) nC (Int.toNat ((1 : Nat) : Int)) (bR 300 false 300)) = [4, 4] := by
    show [pcs eC (rC 1) nC, pcs eC (rC 300) nC] = _
    rw [fC1, fC300]
  have e4 : leW eC (rC 300) nC (Int.toNat ((1 : Nat) : Int)) (bR 300 false 300) = 1 := lC
  have e5 : (pcs eC (rC 300) nC : Int) - (pcs eC ((rC 300).map wid) nC : Int) = 0 := by
    have : pcs eC ((rC 300).map wid) nC = 4 := fCw
    rw [this, fC300]
    rfl
  refine ⟨eS, [.elder 0 false 9], nS, ((0 : Nat) : Int), [2, 9], rfl, csS, ⟨by decide, by decide⟩, ?_⟩
  rw [r0]
  conv => whnf
  rw [e1]
  refine ⟨eS, [.elder 0 false 9], nS, ((0 : Nat) : Int), rfl, csS, ?_⟩
  rw [r0]
  conv => whnf
  rw [e2]
  refine ⟨eC, rC 300, nC, ((1 : Nat) : Int), [1, 300], rfl, csC, ⟨by decide, by decide⟩, ?_⟩
  rw [r1]
  conv => whnf
  rw [e3]
  refine ⟨eC, rC 300, nC, ((1 : Nat) : Int), rfl, csC, ?_⟩
  rw [r1]
  conv => whnf
  rw [e4]
  refine ⟨eC, rC 300, nC, rfl, csC.C, ?_⟩
  rw [e5]
  refine ⟨by decide, ?_⟩
  refine ⟨.tup [.tup [.int 2, .int 2], .int 2, .tup [.int 4, .int 4], .int 1, .int 0], rfl, ⟨3, fun y hy => ?_⟩, by decide, hq⟩
  simp only [List.mem_cons, List.not_mem_nil, or_false] at hy
  rcases hy with rfl | rfl | rfl | rfl | rfl
  · exact al_two (n := 1) trivial trivial
  · trivial
  · exact al_two (n := 1) trivial trivial
  · trivial
  · trivial
theorem wl_3 (hq : q (.bl true) [.rol (inz ns)]) {d0 : D} {w : Bool} (hT : Reel 200 d0) :
    m_law_3 (LE ns q x) [some (.rol (inz ns)), some d0, some (.bl w), v3, none, none, none, none] := by
  refine ⟨d0, 100, rfl, hT, ?_⟩
  intro d0 hT
  refine ⟨fun h => ab_ft h, fun _ => ?_⟩
  exact ⟨fun ρ => ρ = [some (.rol (inz ns)), some d0, some (.bl w), v3, some (caseD eS [.elder 0 false 9] nS), some (.tup ((rC 300).map rD)), some (caseD eC (rC 300) nC), none], rfl, fun ρ e => by subst e; exact wl_7 hq⟩
theorem wl_2 (hq : q (.bl true) [.rol (inz ns)]) {d0 : D} {w : Bool} (hT : Reel 10000 d0) :
    m_law_2 (LE ns q x) [some (.rol (inz ns)), some d0, some (.bl w), none, none, none, none, none] := by
  refine ⟨bd_of (by decide) (by decide), ?_⟩
  refine ⟨fun t ρ => ∃ (d0 : D) (v3 : Option D), ρ = [some (.rol (inz ns)), some d0, some (.bl w), v3, none, none, none, none] ∧ Reel (200 + 4000 * (2 - t)) d0, ⟨d0, none, rfl, hT.le (by decide)⟩, ?_, fun ρ e => by obtain ⟨d0, v3, rfl, hT⟩ := e; exact wl_3 hq (hT.le (by omega))⟩
  rintro t d ρ hd ⟨d0, v3, rfl, hT⟩
  obtain ⟨hk, rfl⟩ := rng0_get hd
  have hk : t < 2 := hk
  refine ⟨fun _ => ?_, fun _ => ?_⟩
  · refine ⟨d0, 200 + 4000 * (2 - (t + 1)), _, rfl, hT.le (by omega), ?_⟩
    intro d' hT
    exact ⟨fun h => ab_ft h, fun _ => ⟨d', _, rfl, hT⟩⟩
  · refine ⟨d0, 200 + 4000 * (2 - (t + 1)), _, rfl, hT.le (by omega), ?_⟩
    intro d' hT
    exact ⟨fun h => ab_ft h, fun _ => ⟨d', _, rfl, hT⟩⟩
end
theorem wp_law : WpOk [false] 7 sp_law m_law := by
  rintro ds q x - ⟨ns, rfl, _, hq⟩
  refine ⟨ns, rfl, fun d0 hT => ?_⟩
  refine ⟨fun ρ => ∃ (d0 : D) (w : Bool), ρ = [some (.rol (inz ns)), some d0, some (.bl w), none, none, none, none, none] ∧ Reel 10000 d0, ?_, fun ρ e => by obtain ⟨d0, w, rfl, hT⟩ := e; exact wl_2 hq hT⟩
  have hT : Reel (999999 + 1) d0 := hT
  refine ⟨d0, _, 7, rfl, hT, by decide, by decide, ?_⟩
  clear hT; intro v d0 hv gv hT
  exact ⟨d0, _, rfl, hT.le (by decide)⟩
end Lw
end

-- text Der_k39
section
set_option Elab.async false
set_option linter.all false
set_option maxRecDepth 100000
set_option maxHeartbeats 4000000
namespace Lw
open PySem PySem.Spec PyProof.Rows L2 Mi
def topS (i : Nat) : Stmt := PySem.Challenge.pw_saidbefore_k39_thresholds.main.body.getD i (.Pass ⟨0, 0, 0, 0⟩)
abbrev s_is_number : Stmt := topS 8
theorem sc_is_number : FnScope ["thing"] ["thing"] (defScope s_is_number) := ⟨rfl, rfl, rfl, by decide +kernel, rfl, by decide +kernel, by decide +kernel⟩
abbrev s_check_stretch : Stmt := topS 9
theorem sc_check_stretch : FnScope ["text", "thing"] ["text", "thing"] (defScope s_check_stretch) := ⟨rfl, rfl, rfl, by decide +kernel, rfl, by decide +kernel, by decide +kernel⟩
abbrev s_is_turning : Stmt := topS 12
theorem sc_is_turning : FnScope ["rule"] ["rule"] (defScope s_is_turning) := ⟨rfl, rfl, rfl, by decide +kernel, rfl, by decide +kernel, by decide +kernel⟩
abbrev s__heard_by : Stmt := topS 14
theorem sc__heard_by : FnScope ["case", "number", "first", "many", "elders", "rules", "new", "rule", "part", "low", "high", "at"] ["case", "number", "first", "many"] (defScope s__heard_by) := ⟨rfl, rfl, rfl, by decide +kernel, rfl, by decide +kernel, by decide +kernel⟩
abbrev s_is_heard : Stmt := topS 15
theorem sc_is_heard : FnScope ["case", "stretch", "many", "number"] ["case", "stretch"] (defScope s_is_heard) := ⟨rfl, rfl, rfl, by decide +kernel, rfl, by decide +kernel, by decide +kernel⟩
abbrev s_reach_table : Stmt := topS 16
theorem sc_reach_table : FnScope ["case", "new", "told", "end", "first"] ["case"] (defScope s_reach_table) := ⟨rfl, rfl, rfl, by decide +kernel, rfl, by decide +kernel, by decide +kernel⟩
abbrev s_greedy_cuts : Stmt := topS 18
theorem sc_greedy_cuts : FnScope ["case", "reach", "told", "at"] ["case"] (defScope s_greedy_cuts) := ⟨rfl, rfl, rfl, by decide +kernel, rfl, by decide +kernel, by decide +kernel⟩
abbrev s_fewest_count : Stmt := topS 19
theorem sc_fewest_count : FnScope ["case"] ["case"] (defScope s_fewest_count) := ⟨rfl, rfl, rfl, by decide +kernel, rfl, by decide +kernel, by decide +kernel⟩
abbrev s_piece_count : Stmt := topS 20
theorem sc_piece_count : FnScope ["case"] ["case"] (defScope s_piece_count) := ⟨rfl, rfl, rfl, by decide +kernel, rfl, by decide +kernel, by decide +kernel⟩
abbrev s__with : Stmt := topS 22
theorem sc__with : FnScope ["case", "number", "rule", "elders", "rules", "new"] ["case", "number", "rule"] (defScope s__with) := ⟨rfl, rfl, rfl, by decide +kernel, rfl, by decide +kernel, by decide +kernel⟩
abbrev s__check_rule : Stmt := topS 23
theorem sc__check_rule : FnScope ["case", "number"] ["case", "number"] (defScope s__check_rule) := ⟨rfl, rfl, rfl, by decide +kernel, rfl, by decide +kernel, by decide +kernel⟩
abbrev s_pieces_by_most : Stmt := topS 24
theorem sc_pieces_by_most : FnScope ["case", "number", "mosts", "rule", "most"] ["case", "number", "mosts"] (defScope s_pieces_by_most) := ⟨rfl, rfl, rfl, by decide +kernel, rfl, by decide +kernel, by decide +kernel⟩
abbrev s_pieces_by_wide : Stmt := topS 25
theorem sc_pieces_by_wide : FnScope ["case", "number", "wides", "rule", "wide"] ["case", "number", "wides"] (defScope s_pieces_by_wide) := ⟨rfl, rfl, rfl, by decide +kernel, rfl, by decide +kernel, by decide +kernel⟩
abbrev s_least_most : Stmt := topS 26
theorem sc_least_most : FnScope ["case", "number", "rule", "goal", "low", "high", "middle"] ["case", "number"] (defScope s_least_most) := ⟨rfl, rfl, rfl, by decide +kernel, rfl, by decide +kernel, by decide +kernel⟩
abbrev s_least_wide : Stmt := topS 27
theorem sc_least_wide : FnScope ["case", "number", "rule", "goal", "low", "high", "middle"] ["case", "number"] (defScope s_least_wide) := ⟨rfl, rfl, rfl, by decide +kernel, rfl, by decide +kernel, by decide +kernel⟩
abbrev s_widest_case : Stmt := topS 28
theorem sc_widest_case : FnScope ["case", "elders", "rules", "new", "told", "rule"] ["case"] (defScope s_widest_case) := ⟨rfl, rfl, rfl, by decide +kernel, rfl, by decide +kernel, by decide +kernel⟩
abbrev s_lost_by_bounds : Stmt := topS 29
theorem sc_lost_by_bounds : FnScope ["case"] ["case"] (defScope s_lost_by_bounds) := ⟨rfl, rfl, rfl, by decide +kernel, rfl, by decide +kernel, by decide +kernel⟩
abbrev s__law_reel : Stmt := topS 31
theorem sc__law_reel : FnScope ["script", "cell"] ["script"] (defScope s__law_reel) := ⟨rfl, rfl, rfl, by decide +kernel, rfl, by decide +kernel, by decide +kernel⟩
abbrev s__law_roll : Stmt := topS 32
theorem sc__law_roll : FnScope ["reel", "many", "cell", "digit"] ["reel", "many"] (defScope s__law_roll) := ⟨rfl, rfl, rfl, by decide +kernel, rfl, by decide +kernel, by decide +kernel⟩
abbrev s__law_same : Stmt := topS 33
theorem sc__law_same : FnScope ["told", "due", "rest", "one", "two", "k"] ["told", "due"] (defScope s__law_same) := ⟨rfl, rfl, rfl, by decide +kernel, rfl, by decide +kernel, by decide +kernel⟩
abbrev s__law_letters : Stmt := topS 34
theorem sc__law_letters : FnScope ["reel", "signs", "k"] ["reel"] (defScope s__law_letters) := ⟨rfl, rfl, rfl, by decide +kernel, rfl, by decide +kernel, by decide +kernel⟩
abbrev s__law_word : Stmt := topS 35
theorem sc__law_word : FnScope ["reel", "letters", "size", "k"] ["reel", "letters", "size"] (defScope s__law_word) := ⟨rfl, rfl, rfl, by decide +kernel, rfl, by decide +kernel, by decide +kernel⟩
abbrev s__law_new : Stmt := topS 36
theorem sc__law_new : FnScope ["reel", "letters", "elders", "size", "text", "lap", "way", "given", "first", "part"] ["reel", "letters", "elders", "size"] (defScope s__law_new) := ⟨rfl, rfl, rfl, by decide +kernel, rfl, by decide +kernel, by decide +kernel⟩
abbrev s__law_rule : Stmt := topS 37
theorem sc__law_rule : FnScope ["reel", "elders", "most", "turned", "wide"] ["reel", "elders"] (defScope s__law_rule) := ⟨rfl, rfl, rfl, by decide +kernel, rfl, by decide +kernel, by decide +kernel⟩
abbrev s__law_case : Stmt := topS 38
theorem sc__law_case : FnScope ["reel", "long", "letters", "elders", "rules", "k"] ["reel", "long"] (defScope s__law_case) := ⟨rfl, rfl, rfl, by decide +kernel, rfl, by decide +kernel, by decide +kernel⟩
abbrev s__law_sourced : Stmt := topS 39
theorem sc__law_sourced : FnScope ["case", "rule", "i", "j", "at", "new", "given", "turned", "x", "place"] ["case", "rule", "i", "j", "at"] (defScope s__law_sourced) := ⟨rfl, rfl, rfl, by decide +kernel, rfl, by decide +kernel, by decide +kernel⟩
abbrev s__law_heard : Stmt := topS 40
theorem sc__law_heard : FnScope ["case", "i", "j", "rule", "given", "at"] ["case", "i", "j"] (defScope s__law_heard) := ⟨rfl, rfl, rfl, by decide +kernel, rfl, by decide +kernel, by decide +kernel⟩
abbrev s__law_reach : Stmt := topS 41
theorem sc__law_reach : FnScope ["case", "told", "i", "j"] ["case"] (defScope s__law_reach) := ⟨rfl, rfl, rfl, by decide +kernel, rfl, by decide +kernel, by decide +kernel⟩
abbrev s__law_pieces : Stmt := topS 43
theorem sc__law_pieces : FnScope ["case", "reach", "place", "many"] ["case"] (defScope s__law_pieces) := ⟨rfl, rfl, rfl, by decide +kernel, rfl, by decide +kernel, by decide +kernel⟩
abbrev s__law_with : Stmt := topS 44
theorem sc__law_with : FnScope ["case", "number", "most", "wide", "rule", "new"] ["case", "number", "most", "wide"] (defScope s__law_with) := ⟨rfl, rfl, rfl, by decide +kernel, rfl, by decide +kernel, by decide +kernel⟩
abbrev s__law_all_same : Stmt := topS 45
theorem sc__law_all_same : FnScope ["told", "due", "rest", "one", "two", "k"] ["told", "due"] (defScope s__law_all_same) := ⟨rfl, rfl, rfl, by decide +kernel, rfl, by decide +kernel, by decide +kernel⟩
abbrev s__law_told : Stmt := topS 46
theorem sc__law_told : FnScope ["which", "case", "number", "bounds", "e"] ["which", "case", "number", "bounds"] (defScope s__law_told) := ⟨rfl, rfl, rfl, by decide +kernel, rfl, by decide +kernel, by decide +kernel⟩
abbrev s__law_bounds : Stmt := topS 47
theorem sc__law_bounds : FnScope ["reel", "low", "own", "told", "lap", "way"] ["reel", "low", "own"] (defScope s__law_bounds) := ⟨rfl, rfl, rfl, by decide +kernel, rfl, by decide +kernel, by decide +kernel⟩
abbrev s__law_least : Stmt := topS 48
theorem sc__law_least : FnScope ["case", "number", "low", "turn", "own", "bound", "changed"] ["case", "number", "low", "turn"] (defScope s__law_least) := ⟨rfl, rfl, rfl, by decide +kernel, rfl, by decide +kernel, by decide +kernel⟩
abbrev s__law_least_most : Stmt := topS 50
theorem sc__law_least_most : FnScope ["case", "number"] ["case", "number"] (defScope s__law_least_most) := ⟨rfl, rfl, rfl, by decide +kernel, rfl, by decide +kernel, by decide +kernel⟩
abbrev s__law_rule_right : Stmt := topS 49
theorem sc__law_rule_right : FnScope ["reel", "case", "number", "rule", "mosts", "due", "wide", "wides", "most"] ["reel", "case", "number"] (defScope s__law_rule_right) := ⟨rfl, rfl, rfl, by decide +kernel, rfl, by decide +kernel, by decide +kernel⟩
abbrev s__law_case_right : Stmt := topS 51
theorem sc__law_case_right : FnScope ["reel", "long", "case", "widest", "wide", "lost", "number", "told", "rule", "which"] ["reel", "long"] (defScope s__law_case_right) := ⟨rfl, rfl, rfl, by decide +kernel, rfl, by decide +kernel, by decide +kernel⟩
abbrev s__law_bounded : Stmt := topS 52
theorem sc__law_bounded : FnScope ["reel", "many", "word", "back", "case", "mosts", "due", "low", "told", "alone", "near", "most"] ["reel"] (defScope s__law_bounded) := ⟨rfl, rfl, rfl, by decide +kernel, rfl, by decide +kernel, by decide +kernel⟩
abbrev s_law : Stmt := topS 53
theorem sc_law : FnScope ["script", "reel", "long", "lap", "short", "rules", "case", "told"] ["script"] (defScope s_law) := ⟨rfl, rfl, rfl, by decide +kernel, rfl, by decide +kernel, by decide +kernel⟩
abbrev si_NoSuch : Stmt := inClass (topS 6) 0
theorem sci_NoSuch : FnScope ["self", "word", "name"] ["self", "word", "name"] (defScope si_NoSuch) := ⟨rfl, rfl, rfl, by decide +kernel, rfl, by decide +kernel, by decide +kernel⟩
structure Top (K : Frg) (mg : Str → Option Value) : Prop where
  t_is_number : Mi.Tx K mg "is_number" s_is_number ["thing"]
  t_check_stretch : Mi.Tx K mg "check_stretch" s_check_stretch ["text", "thing"]
  t_is_turning : Mi.Tx K mg "is_turning" s_is_turning ["rule"]
  t__heard_by : Mi.Tx K mg "_heard_by" s__heard_by ["case", "number", "first", "many"]
  t_is_heard : Mi.Tx K mg "is_heard" s_is_heard ["case", "stretch"]
  t_reach_table : Mi.Tx K mg "reach_table" s_reach_table ["case"]
  t_greedy_cuts : Mi.Tx K mg "greedy_cuts" s_greedy_cuts ["case"]
  t_fewest_count : Mi.Tx K mg "fewest_count" s_fewest_count ["case"]
  t_piece_count : Mi.Tx K mg "piece_count" s_piece_count ["case"]
  t__with : Mi.Tx K mg "_with" s__with ["case", "number", "rule"]
  t__check_rule : Mi.Tx K mg "_check_rule" s__check_rule ["case", "number"]
  t_pieces_by_most : Mi.Tx K mg "pieces_by_most" s_pieces_by_most ["case", "number", "mosts"]
  t_pieces_by_wide : Mi.Tx K mg "pieces_by_wide" s_pieces_by_wide ["case", "number", "wides"]
  t_least_most : Mi.Tx K mg "least_most" s_least_most ["case", "number"]
  t_least_wide : Mi.Tx K mg "least_wide" s_least_wide ["case", "number"]
  t_widest_case : Mi.Tx K mg "widest_case" s_widest_case ["case"]
  t_lost_by_bounds : Mi.Tx K mg "lost_by_bounds" s_lost_by_bounds ["case"]
  t__law_reel : Mi.Tx K mg "_law_reel" s__law_reel ["script"]
  t__law_roll : Mi.Tx K mg "_law_roll" s__law_roll ["reel", "many"]
  t__law_same : Mi.Tx K mg "_law_same" s__law_same ["told", "due"]
  t__law_letters : Mi.Tx K mg "_law_letters" s__law_letters ["reel"]
  t__law_word : Mi.Tx K mg "_law_word" s__law_word ["reel", "letters", "size"]
  t__law_new : Mi.Tx K mg "_law_new" s__law_new ["reel", "letters", "elders", "size"]
  t__law_rule : Mi.Tx K mg "_law_rule" s__law_rule ["reel", "elders"]
  t__law_case : Mi.Tx K mg "_law_case" s__law_case ["reel", "long"]
  t__law_sourced : Mi.Tx K mg "_law_sourced" s__law_sourced ["case", "rule", "i", "j", "at"]
  t__law_heard : Mi.Tx K mg "_law_heard" s__law_heard ["case", "i", "j"]
  t__law_reach : Mi.Tx K mg "_law_reach" s__law_reach ["case"]
  t__law_pieces : Mi.Tx K mg "_law_pieces" s__law_pieces ["case"]
  t__law_with : Mi.Tx K mg "_law_with" s__law_with ["case", "number", "most", "wide"]
  t__law_all_same : Mi.Tx K mg "_law_all_same" s__law_all_same ["told", "due"]
  t__law_told : Mi.Tx K mg "_law_told" s__law_told ["which", "case", "number", "bounds"]
  t__law_bounds : Mi.Tx K mg "_law_bounds" s__law_bounds ["reel", "low", "own"]
  t__law_least : Mi.Tx K mg "_law_least" s__law_least ["case", "number", "low", "turn"]
  t__law_least_most : Mi.Tx K mg "_law_least_most" s__law_least_most ["case", "number"]
  t__law_rule_right : Mi.Tx K mg "_law_rule_right" s__law_rule_right ["reel", "case", "number"]
  t__law_case_right : Mi.Tx K mg "_law_case_right" s__law_case_right ["reel", "long"]
  t__law_bounded : Mi.Tx K mg "_law_bounded" s__law_bounded ["reel"]
  t_law : Mi.Tx K mg "law" s_law ["script"]
  n_abs : mg "abs" = none
  n_bool : mg "bool" = none
  n_int : mg "int" = none
  n_isinstance : mg "isinstance" = none
  n_len : mg "len" = none
  n_max : mg "max" = none
  n_min : mg "min" = none
  n_range : mg "range" = none
  n_str : mg "str" = none
  n_tuple : mg "tuple" = none
  c_MOST_WIDE : ∃ t, mg "MOST_WIDE" = some (.int 300 t)
  x_NoSuch : Mi.XTx K mg 12 "NoSuch.__init__" si_NoSuch ["self", "word", "name"]
  y_SaidError : Mi.XBs K mg 0
  y_DataError : Mi.XBs K mg 1
  y_AskError : Mi.XBs K mg 2
  y_CallError : Mi.XBs K mg 3
  y_TextError : Mi.XBs K mg 4
  y_NoSuch : Mi.XBs K mg 12
section
variable {P : Program} {w : World} {K : Frg} {mg : Str → Option Value} {base : Heap}
theorem xok_NoSuch (T : Top K mg) : XOk P w K mg base 12 ["self", "word", "name"] (spI2 K (fname 1) (fname 2)) := xok_of T.x_NoSuch fun f fd F => xinit2 F sci_NoSuch fun cdv A outer s H E => (pss_cons (ps_ost (pv 0) (pv 1)) (pss_one (ps_ost (pv 0) (pv 2))))
theorem fo_is_number (T : Top K mg) {f : Addr} {fd : FuncData} (F : Fun K "is_number" "is_number" s_is_number f fd) : FnOk P w K mg base (L2N.CX P w) 1 f fd ["thing"] (spOf K [false] sp_is_number) := by
  refine fn_ok [false] sp_is_number F sc_is_number rfl (fun cdv A outer s H E hr => ?_)
  have nd := sc_is_number.nd
  have hu := hr.units
  have tk : L2N.Takes (cxOf (L2N.CX P w) P w K mg base ["thing"] "is_number" (defScope s_is_number) f cdv A outer s H E) (fun cls d _ H => E cls d H) := L2N.takes_of rfl rfl rfl rfl
  exact bd_mk (t := m_is_number) (pss_one (ps_ret (pe_and (pe_callB call_isi (by rfl) T.n_isinstance (by decide +kernel) (pa_cons (pv 0) (pa_cons (pe_bltn (v := .ty "int") (by rfl) T.n_int (by decide +kernel) rfl) pa_nil))) (pe_one (pe_not (pe_callB call_isi (by rfl) T.n_isinstance (by decide +kernel) (pa_cons (pv 0) (pa_cons (pe_bltn (v := .ty "bool") (by rfl) T.n_bool (by decide +kernel) rfl) pa_nil)))))))) (ss_ret (sim_andV (sim_isi .int sim_varF) (sim_notV (sim_isi .bool sim_varF)))) wp_is_number
theorem ok_is_number (T : Top K mg) : Ok P w K mg base "is_number" s_is_number ["thing"] [false] 1 sp_is_number := ok_of T.t_is_number fun _ _ F => fo_is_number T F
theorem fo_check_stretch (T : Top K mg) {f : Addr} {fd : FuncData} (F : Fun K "check_stretch" "check_stretch" s_check_stretch f fd) : FnOk P w K mg base (L2N.CX P w) 3 f fd ["text", "thing"] (spOf K [false, false] sp_check_stretch) := by
  obtain ⟨f_is_number, fd_is_number, G_is_number⟩ := ok_is_number (P := P) (w := w) (base := base) T
  obtain ⟨C_NoSuch, fI_NoSuch, fd_NoSuch, gm_NoSuch, ox_NoSuch, gx_NoSuch, iC_NoSuch, tI_NoSuch, F_NoSuch, b_NoSuch⟩ := xok_NoSuch (P := P) (w := w) (base := base) T
  refine fn_ok [false, false] sp_check_stretch F sc_check_stretch rfl (fun cdv A outer s H E hr => ?_)
  have nd := sc_check_stretch.nd
  have hu := hr.units
  have tk : L2N.Takes (cxOf (L2N.CX P w) P w K mg base ["text", "thing"] "check_stretch" (defScope s_check_stretch) f cdv A outer s H E) (fun cls d _ H => E cls d H) := L2N.takes_of rfl rfl rfl rfl
  exact bd_mk (t := m_check_stretch) (pss_cons (ps_if (PW.pt (pw_or (pt_not (pt_val (pe_callB call_isi (by rfl) T.n_isinstance (by decide +kernel) (pa_cons (pv 1) (pa_cons (pe_bltn (v := .ty "tuple") (by rfl) T.n_tuple (by decide +kernel) rfl) pa_nil))))) (pw_or1 (pt_cmpR (op_neX hu) (pe_callB call_lenA (by rfl) T.n_len PySem.boot_len (pa_cons (pv 1) pa_nil)) pe_int (nomark _))))) (pss_one (L2N.ps_raise rfl tk (pmk_oexN ox_NoSuch iC_NoSuch tI_NoSuch F_NoSuch (hr.mono (by first | decide | omega)) b_NoSuch passF rfl gm_NoSuch (pa_cons pe_str (pa_cons (pv 1) pa_nil))))) pss_nil) (pss_cons (ps_if (PW.pt (pw_or (pt_not (pt_val (pe_callS G_is_number.2.2.2.2 (hr.mono (by first | decide | omega)) rfl G_is_number.1 G_is_number.2.1 G_is_number.2.2.1 (fun σ => L2N.passAt tk σ) (pa_cons (pe_ix ix_seq (pv 1) pe_int (fun _ _ => rfl)) pa_nil)))) (pw_or1 (pt_not (pt_val (pe_callS G_is_number.2.2.2.2 (hr.mono (by first | decide | omega)) rfl G_is_number.1 G_is_number.2.1 G_is_number.2.2.1 (fun σ => L2N.passAt tk σ) (pa_cons (pe_ix ix_seq (pv 1) pe_int (fun _ _ => rfl)) pa_nil))))))) (pss_one (L2N.ps_raise rfl tk (pmk_oexN ox_NoSuch iC_NoSuch tI_NoSuch F_NoSuch (hr.mono (by first | decide | omega)) b_NoSuch passF rfl gm_NoSuch (pa_cons pe_str (pa_cons (pv 1) pa_nil))))) pss_nil) (pss_cons (ps_if (pt_not (pt_chain3 (op_leA) (op_ltA) (op_leA) pe_int (pe_ix ix_seq (pv 1) pe_int (fun _ _ => rfl)) (pe_ix ix_seq (pv 1) pe_int (fun _ _ => rfl)) (pe_callB call_lenA (by rfl) T.n_len PySem.boot_len (pa_cons (pv 0) pa_nil)))) (pss_one (L2N.ps_raise rfl tk (pmk_oexN ox_NoSuch iC_NoSuch tI_NoSuch F_NoSuch (hr.mono (by first | decide | omega)) b_NoSuch passF rfl gm_NoSuch (pa_cons pe_str (pa_cons (pv 1) pa_nil))))) pss_nil) (pss_one (ps_ret (pe_op op_sub (pe_ix ix_seq (pv 1) pe_int (fun _ _ => rfl)) (pe_ix ix_seq (pv 1) pe_int (fun _ _ => rfl)))))))) (ss_cons (ss_if (simt_or (simt_not (simt_B (sim_isi .tup sim_varF))) (simt_test (sim_op rs_neA (sim_cb cs_len (sima_cons sim_varF sima_nil)) sim_int))) (ss_raise2 ox_NoSuch gx_NoSuch (sima_cons (sim_str [115, 116, 114, 101, 116, 99, 104] (by decide +kernel) (by decide)) (sima_cons sim_varF sima_nil))) ss_nil) (ss_cons (ss_if (simt_or (simt_not (simt_B (sim_call0 (sima_cons (sim_op rs_ix sim_varF sim_int) sima_nil)))) (simt_not (simt_B (sim_call0 (sima_cons (sim_op rs_ix sim_varF sim_int) sima_nil))))) (ss_raise2 ox_NoSuch gx_NoSuch (sima_cons (sim_str [115, 116, 114, 101, 116, 99, 104] (by decide +kernel) (by decide)) (sima_cons sim_varF sima_nil))) ss_nil) (ss_cons (ss_if (simt_not (simt_test (sim_chain3 rs_le rs_lt rs_le sim_int (sim_op rs_ix sim_varF sim_int) (sim_op rs_ix sim_varF sim_int) (sim_cb cs_len (sima_cons sim_varF sima_nil))))) (ss_raise2 ox_NoSuch gx_NoSuch (sima_cons (sim_str [115, 116, 114, 101, 116, 99, 104] (by decide +kernel) (by decide)) (sima_cons sim_varF sima_nil))) ss_nil) (ss_ret (sim_op rs_sub (sim_op rs_ix sim_varF sim_int) (sim_op rs_ix sim_varF sim_int)))))) wp_check_stretch
theorem ok_check_stretch (T : Top K mg) : Ok P w K mg base "check_stretch" s_check_stretch ["text", "thing"] [false, false] 3 sp_check_stretch := ok_of T.t_check_stretch fun _ _ F => fo_check_stretch T F
theorem fo_is_turning (T : Top K mg) {f : Addr} {fd : FuncData} (F : Fun K "is_turning" "is_turning" s_is_turning f fd) : FnOk P w K mg base (L2N.CX P w) 1 f fd ["rule"] (spOf K [false] sp_is_turning) := by
  refine fn_ok [false] sp_is_turning F sc_is_turning rfl (fun cdv A outer s H E hr => ?_)
  have nd := sc_is_turning.nd
  have hu := hr.units
  have tk : L2N.Takes (cxOf (L2N.CX P w) P w K mg base ["rule"] "is_turning" (defScope s_is_turning) f cdv A outer s H E) (fun cls d _ H => E cls d H) := L2N.takes_of rfl rfl rfl rfl
  exact bd_mk (t := m_is_turning) (pss_one (ps_ret (pe_ix ix_seq (pv 0) (pe_un un_neg pe_int) (fun _ _ => rfl)))) (ss_ret (sim_op rs_ix sim_varF (sim_un us_neg sim_int))) wp_is_turning
theorem ok_is_turning (T : Top K mg) : Ok P w K mg base "is_turning" s_is_turning ["rule"] [false] 1 sp_is_turning := ok_of T.t_is_turning fun _ _ F => fo_is_turning T F
theorem fo__heard_by (T : Top K mg) {f : Addr} {fd : FuncData} (F : Fun K "_heard_by" "_heard_by" s__heard_by f fd) : FnOk P w K mg base (L2N.CX P w) 2 f fd ["case", "number", "first", "many"] (spOf K [false, false, false, false] sp__heard_by) := by
  obtain ⟨f_is_turning, fd_is_turning, G_is_turning⟩ := ok_is_turning (P := P) (w := w) (base := base) T
  refine fn_ok [false, false, false, false] sp__heard_by F sc__heard_by rfl (fun cdv A outer s H E hr => ?_)
  have nd := sc__heard_by.nd
  have hu := hr.units
  have tk : L2N.Takes (cxOf (L2N.CX P w) P w K mg base ["case", "number", "first", "many", "elders", "rules", "new", "rule", "part", "low", "high", "at"] "_heard_by" (defScope s__heard_by) f cdv A outer s H E) (fun cls d _ H => E cls d H) := L2N.takes_of rfl rfl rfl rfl
  exact bd_mk (t := m__heard_by) (pss_cons (ps_asg (pv 0) (pg_tup rfl (pgs_cons (pg_name (i := 4) nd rfl (by first | exact Or.inl rfl | exact Or.inr rfl)) (pgs_cons (pg_name (i := 5) nd rfl (by first | exact Or.inl rfl | exact Or.inr rfl)) (pgs_cons (pg_name (i := 6) nd rfl (by first | exact Or.inl rfl | exact Or.inr rfl)) pgs_nil))))) (pss_cons (ps_set (i := 7) nd rfl (by first | exact Or.inl rfl | exact Or.inr rfl) (pe_ix ix_seq (pv 5) (pv 1) (fun _ _ => rfl))) (pss_cons (ps_if (pt_cmpR (op_gtA) (pv 3) (pe_ix ix_seq (pv 7) (pe_un un_neg pe_int) (fun _ _ => rfl)) (nomark _)) (pss_one (ps_ret pe_bl)) pss_nil) (pss_cons (ps_set (i := 8) nd rfl (by first | exact Or.inl rfl | exact Or.inr rfl) (pe_slice sl_any (pv 6) (po_some (pv 2)) (po_some (pe_op op_addA (pv 2) (pv 3))))) (pss_cons (ps_if (pt_val (pe_callS G_is_turning.2.2.2.2 (hr.mono (by first | decide | omega)) rfl G_is_turning.1 G_is_turning.2.1 G_is_turning.2.2.1 (fun σ => L2N.passAt tk σ) (pa_cons (pv 7) pa_nil))) (pss_one (ps_set (i := 8) nd rfl (by first | exact Or.inl rfl | exact Or.inr rfl) (pe_rev (pv 8)))) pss_nil) (pss_cons (ps_if (pt_cmpR (op_eqX hu) (pe_ix ix_seq (pv 7) pe_int (fun _ _ => rfl)) pe_str (nomark _)) (pss_one (ps_ret (pe_cmpR (op_inX) (pv 8) (pe_ix ix_seq (pv 4) (pe_ix ix_seq (pv 7) pe_int (fun _ _ => rfl)) (fun _ _ => rfl)) (by rfl)))) pss_nil) (pss_cons (ps_set (i := 9) nd rfl (by first | exact Or.inl rfl | exact Or.inr rfl) (pe_op op_sub (pv 2) (pe_ix ix_seq (pv 7) pe_int (fun _ _ => rfl)))) (pss_cons (ps_set (i := 10) nd rfl (by first | exact Or.inl rfl | exact Or.inr rfl) (pe_op op_sub (pv 2) pe_int)) (pss_cons (ps_if (pt_val (pe_callS G_is_turning.2.2.2.2 (hr.mono (by first | decide | omega)) rfl G_is_turning.1 G_is_turning.2.1 G_is_turning.2.2.1 (fun σ => L2N.passAt tk σ) (pa_cons (pv 7) pa_nil))) (pss_one (ps_set (i := 9) nd rfl (by first | exact Or.inl rfl | exact Or.inr rfl) (pe_op op_sub (pe_op op_addA (pv 9) (pv 3)) pe_int))) pss_nil) (pss_cons (ps_if (PW.pt (pw_or (pt_val (pe_callS G_is_turning.2.2.2.2 (hr.mono (by first | decide | omega)) rfl G_is_turning.1 G_is_turning.2.1 G_is_turning.2.2.1 (fun σ => L2N.passAt tk σ) (pa_cons (pv 7) pa_nil))) (pw_or1 (pt_val (pe_ix ix_seq (pv 7) pe_int (fun _ _ => rfl)))))) (pss_one (ps_set (i := 10) nd rfl (by first | exact Or.inl rfl | exact Or.inr rfl) (pe_op op_sub (pv 2) (pv 3)))) pss_nil) (pss_cons (ps_for (passes_of rfl) rfl (pi_range2 rfl T.n_range (pa_cons (pe_callB (call_max2 rfl) (by rfl) T.n_max (by decide +kernel) (pa_cons pe_int (pa_cons (pv 9) pa_nil))) (pa_cons (pe_op op_addA (pv 10) pe_int) pa_nil))) (pg_name (i := 11) nd rfl (by first | exact Or.inl rfl | exact Or.inr rfl)) (pss_one (ps_if (pt_cmpR (op_eqX hu) (pe_slice sl_any (pv 6) (po_some (pv 11)) (po_some (pe_op op_addA (pv 11) (pv 3)))) (pv 8) (nomark _)) (pss_one (ps_ret pe_bl)) pss_nil))) (pss_one (ps_ret pe_bl))))))))))))) (ss_cons (ss_asg sim_varF (g_tup [4, 5, 6])) (ss_cons (ss_asg (sim_op rs_ix sim_varF sim_varF) (g_name 7)) (ss_cons (ss_if (simt_test (sim_op rs_gt sim_varF (sim_op rs_ix sim_varF (sim_un us_neg sim_int)))) (ss_ret sim_bl) ss_nil) (ss_cons (ss_asg (sim_sl sim_varF (sim_part sim_varF) (sim_part (sim_op rs_add sim_varF sim_varF))) (g_name 8)) (ss_cut (ss_if (simt_B (sim_call0 (sima_cons sim_varF sima_nil))) (ss_asg (sim_rev sim_varF) (g_name 8)) ss_nil) (ss_cons (ss_if (simt_test (sim_op rs_eqA (sim_op rs_ix sim_varF sim_int) (sim_str [101, 108, 100, 101, 114] (by decide +kernel) (by decide)))) (ss_ret (sim_op rs_inA sim_varF (sim_op rs_ix sim_varF (sim_op rs_ix sim_varF sim_int)))) ss_nil) (ss_cons (ss_asg (sim_op rs_sub sim_varF (sim_op rs_ix sim_varF sim_int)) (g_name 9)) (ss_cons (ss_asg (sim_op rs_sub sim_varF sim_int) (g_name 10)) (ss_cut (ss_if (simt_B (sim_call0 (sima_cons sim_varF sima_nil))) (ss_asg (sim_op rs_sub (sim_op rs_add sim_varF sim_varF) sim_int) (g_name 9)) ss_nil) (ss_cut (ss_if (simt_or (simt_B (sim_call0 (sima_cons sim_varF sima_nil))) (simt_B (sim_op rs_ix sim_varF sim_int))) (ss_asg (sim_op rs_sub sim_varF sim_varF) (g_name 10)) ss_nil) (ss_cons (ss_for (simi_rng2 (sim_cb cs_I2 (sima_cons sim_int (sima_cons sim_varF sima_nil))) (sim_op rs_add sim_varF sim_int)) (g_name 11) (ss_if (simt_test (sim_op rs_eqA (sim_sl sim_varF (sim_part sim_varF) (sim_part (sim_op rs_add sim_varF sim_varF))) sim_varF)) (ss_ret sim_bl) ss_nil)) (ss_ret sim_bl)))))))))))) wp__heard_by
theorem ok__heard_by (T : Top K mg) : Ok P w K mg base "_heard_by" s__heard_by ["case", "number", "first", "many"] [false, false, false, false] 2 sp__heard_by := ok_of T.t__heard_by fun _ _ F => fo__heard_by T F
theorem fo_is_heard (T : Top K mg) {f : Addr} {fd : FuncData} (F : Fun K "is_heard" "is_heard" s_is_heard f fd) : FnOk P w K mg base (L2N.CX P w) 4 f fd ["case", "stretch"] (spOf K [false, false] sp_is_heard) := by
  obtain ⟨f_check_stretch, fd_check_stretch, G_check_stretch⟩ := ok_check_stretch (P := P) (w := w) (base := base) T
  obtain ⟨f__heard_by, fd__heard_by, G__heard_by⟩ := ok__heard_by (P := P) (w := w) (base := base) T
  refine fn_ok [false, false] sp_is_heard F sc_is_heard rfl (fun cdv A outer s H E hr => ?_)
  have nd := sc_is_heard.nd
  have hu := hr.units
  have tk : L2N.Takes (cxOf (L2N.CX P w) P w K mg base ["case", "stretch", "many", "number"] "is_heard" (defScope s_is_heard) f cdv A outer s H E) (fun cls d _ H => E cls d H) := L2N.takes_of rfl rfl rfl rfl
  exact bd_mk (t := m_is_heard) (pss_cons (ps_set (i := 2) nd rfl (by first | exact Or.inl rfl | exact Or.inr rfl) (pe_callS G_check_stretch.2.2.2.2 (hr.mono (by first | decide | omega)) rfl G_check_stretch.1 G_check_stretch.2.1 G_check_stretch.2.2.1 (fun σ => L2N.passAt tk σ) (pa_cons (pe_ix ix_seq (pv 0) pe_int (fun _ _ => rfl)) (pa_cons (pv 1) pa_nil)))) (pss_cons (ps_if (pt_cmpR (op_eqX hu) (pv 2) pe_int (nomark _)) (pss_one (ps_ret pe_bl)) pss_nil) (pss_cons (ps_for (passes_of rfl) rfl (pi_range1 rfl T.n_range (pa_cons (pe_callB call_lenA (by rfl) T.n_len PySem.boot_len (pa_cons (pe_ix ix_seq (pv 0) pe_int (fun _ _ => rfl)) pa_nil)) pa_nil)) (pg_name (i := 3) nd rfl (by first | exact Or.inl rfl | exact Or.inr rfl)) (pss_one (ps_if (pt_val (pe_callS G__heard_by.2.2.2.2 (hr.mono (by first | decide | omega)) rfl G__heard_by.1 G__heard_by.2.1 G__heard_by.2.2.1 (fun σ => L2N.passAt tk σ) (pa_cons (pv 0) (pa_cons (pv 3) (pa_cons (pe_ix ix_seq (pv 1) pe_int (fun _ _ => rfl)) (pa_cons (pv 2) pa_nil)))))) (pss_one (ps_ret pe_bl)) pss_nil))) (pss_one (ps_ret pe_bl))))) (ss_cons (ss_asg (sim_call0 (sima_cons (sim_op rs_ix sim_varF sim_int) (sima_cons sim_varF sima_nil))) (g_name 2)) (ss_cons (ss_if (simt_test (sim_op rs_eqA sim_varF sim_int)) (ss_ret sim_bl) ss_nil) (ss_cons (ss_for (simi_rng1 (sim_cb cs_len (sima_cons (sim_op rs_ix sim_varF sim_int) sima_nil))) (g_name 3) (ss_if (simt_B (sim_call0 (sima_cons sim_varF (sima_cons sim_varF (sima_cons (sim_op rs_ix sim_varF sim_int) (sima_cons sim_varF sima_nil)))))) (ss_ret sim_bl) ss_nil)) (ss_ret sim_bl)))) wp_is_heard
theorem ok_is_heard (T : Top K mg) : Ok P w K mg base "is_heard" s_is_heard ["case", "stretch"] [false, false] 4 sp_is_heard := ok_of T.t_is_heard fun _ _ F => fo_is_heard T F
theorem fo_reach_table (T : Top K mg) {f : Addr} {fd : FuncData} (F : Fun K "reach_table" "reach_table" s_reach_table f fd) : FnOk P w K mg base (L2N.CX P w) 5 f fd ["case"] (spOf K [false] sp_reach_table) := by
  obtain ⟨f_is_heard, fd_is_heard, G_is_heard⟩ := ok_is_heard (P := P) (w := w) (base := base) T
  refine fn_ok [false] sp_reach_table F sc_reach_table rfl (fun cdv A outer s H E hr => ?_)
  have nd := sc_reach_table.nd
  have hu := hr.units
  have tk : L2N.Takes (cxOf (L2N.CX P w) P w K mg base ["case", "new", "told", "end", "first"] "reach_table" (defScope s_reach_table) f cdv A outer s H E) (fun cls d _ H => E cls d H) := L2N.takes_of rfl rfl rfl rfl
  exact bd_mk (t := m_reach_table) (pss_cons (ps_set (i := 1) nd rfl (by first | exact Or.inl rfl | exact Or.inr rfl) (pe_ix ix_seq (pv 0) pe_int (fun _ _ => rfl))) (pss_cons (ps_set (i := 2) nd rfl (by first | exact Or.inl rfl | exact Or.inr rfl) (pe_lst pa_nil)) (pss_cons (ps_set (i := 3) nd rfl (by first | exact Or.inl rfl | exact Or.inr rfl) pe_int) (pss_cons (ps_for (passes_of rfl) rfl (pi_range1 rfl T.n_range (pa_cons (pe_callB call_lenA (by rfl) T.n_len PySem.boot_len (pa_cons (pv 1) pa_nil)) pa_nil)) (pg_name (i := 4) nd rfl (by first | exact Or.inl rfl | exact Or.inr rfl)) (pss_cons (ps_set (i := 3) nd rfl (by first | exact Or.inl rfl | exact Or.inr rfl) (pe_callB (call_max2 rfl) (by rfl) T.n_max (by decide +kernel) (pa_cons (pv 3) (pa_cons (pe_op op_addA (pv 4) pe_int) pa_nil)))) (pss_cons (ps_while (passes_of rfl) (PW.pt (pw_and (pt_cmpR (op_ltA) (pv 3) (pe_callB call_lenA (by rfl) T.n_len PySem.boot_len (pa_cons (pv 1) pa_nil)) (nomark _)) (pw_and1 (pt_val (pe_callS G_is_heard.2.2.2.2 (hr.mono (by first | decide | omega)) rfl G_is_heard.1 G_is_heard.2.1 G_is_heard.2.2.1 (fun σ => L2N.passAt tk σ) (pa_cons (pv 0) (pa_cons (pe_tup (pa_cons (pv 4) (pa_cons (pe_op op_addA (pv 3) pe_int) pa_nil))) pa_nil))))))) (pss_one (ps_set (i := 3) nd rfl (by first | exact Or.inl rfl | exact Or.inr rfl) (pe_op op_addA (pv 3) pe_int)))) (pss_one (ps_expr (pe_bm PySem.F.plainAttrs_list PySem.F.slot_list_append PySem.F.type_list_append mt_append (pv 2) (pa_cons (pv 3) pa_nil))))))) (pss_one (ps_ret (pe_callTy call_tuple_of (by rfl) T.n_tuple (by decide +kernel) (pa_cons (pv 2) pa_nil)))))))) (ss_cons (ss_asg (sim_op rs_ix sim_varF sim_int) (g_name 1)) (ss_cons (ss_setM (i := 2) (simn_lst 0 sima_nil)) (ss_cons (ss_asg sim_int (g_name 3)) (ss_cons (ss_for (simi_rng1 (sim_cb cs_len (sima_cons sim_varF sima_nil))) (g_name 4) (ss_cons (ss_asg (sim_cb cs_I2 (sima_cons sim_varF (sima_cons (sim_op rs_add sim_varF sim_int) sima_nil))) (g_name 3)) (ss_cons (ss_while (simt_and (simt_test (sim_op rs_lt sim_varF (sim_cb cs_len (sima_cons sim_varF sima_nil)))) (simt_B (sim_call0 (sima_cons sim_varF (sima_cons (sim_tup 2 (sima_cons sim_varF (sima_cons (sim_op rs_add sim_varF sim_int) sima_nil))) sima_nil))))) (ss_asg (sim_op rs_add sim_varF sim_int) (g_name 3))) (ss_append sim_varF)))) (ss_ret (sim_cb cs_tuple (sima_cons sim_var sima_nil))))))) wp_reach_table
theorem ok_reach_table (T : Top K mg) : Ok P w K mg base "reach_table" s_reach_table ["case"] [false] 5 sp_reach_table := ok_of T.t_reach_table fun _ _ F => fo_reach_table T F
theorem fo_greedy_cuts (T : Top K mg) {f : Addr} {fd : FuncData} (F : Fun K "greedy_cuts" "greedy_cuts" s_greedy_cuts f fd) : FnOk P w K mg base (L2N.CX P w) 6 f fd ["case"] (spOf K [false] sp_greedy_cuts) := by
  obtain ⟨f_reach_table, fd_reach_table, G_reach_table⟩ := ok_reach_table (P := P) (w := w) (base := base) T
  refine fn_ok [false] sp_greedy_cuts F sc_greedy_cuts rfl (fun cdv A outer s H E hr => ?_)
  have nd := sc_greedy_cuts.nd
  have hu := hr.units
  have tk : L2N.Takes (cxOf (L2N.CX P w) P w K mg base ["case", "reach", "told", "at"] "greedy_cuts" (defScope s_greedy_cuts) f cdv A outer s H E) (fun cls d _ H => E cls d H) := L2N.takes_of rfl rfl rfl rfl
  exact bd_mk (t := m_greedy_cuts) (pss_cons (ps_set (i := 1) nd rfl (by first | exact Or.inl rfl | exact Or.inr rfl) (pe_callS G_reach_table.2.2.2.2 (hr.mono (by first | decide | omega)) rfl G_reach_table.1 G_reach_table.2.1 G_reach_table.2.2.1 (fun σ => L2N.passAt tk σ) (pa_cons (pv 0) pa_nil))) (pss_cons (ps_set (i := 2) nd rfl (by first | exact Or.inl rfl | exact Or.inr rfl) (pe_lst pa_nil)) (pss_cons (ps_set (i := 3) nd rfl (by first | exact Or.inl rfl | exact Or.inr rfl) pe_int) (pss_cons (ps_while (passes_of rfl) (PW.pt (pw_and (pt_cmpR (op_ltA) (pv 3) (pe_callB call_lenA (by rfl) T.n_len PySem.boot_len (pa_cons (pv 1) pa_nil)) (nomark _)) (pw_and1 (pt_cmpR (op_ltA) (pe_ix ix_seq (pv 1) (pv 3) (fun _ _ => rfl)) (pe_callB call_lenA (by rfl) T.n_len PySem.boot_len (pa_cons (pv 1) pa_nil)) (nomark _))))) (pss_cons (ps_set (i := 3) nd rfl (by first | exact Or.inl rfl | exact Or.inr rfl) (pe_ix ix_seq (pv 1) (pv 3) (fun _ _ => rfl))) (pss_one (ps_expr (pe_bm PySem.F.plainAttrs_list PySem.F.slot_list_append PySem.F.type_list_append mt_append (pv 2) (pa_cons (pv 3) pa_nil)))))) (pss_one (ps_ret (pe_callTy call_tuple_of (by rfl) T.n_tuple (by decide +kernel) (pa_cons (pv 2) pa_nil)))))))) (ss_cons (ss_asg (sim_call0 (sima_cons sim_varF sima_nil)) (g_name 1)) (ss_cons (ss_setM (i := 2) (simn_lst 0 sima_nil)) (ss_cons (ss_asg sim_int (g_name 3)) (ss_cons (ss_while (simt_and (simt_test (sim_op rs_lt sim_varF (sim_cb cs_len (sima_cons sim_varF sima_nil)))) (simt_test (sim_op rs_lt (sim_op rs_ix sim_varF sim_varF) (sim_cb cs_len (sima_cons sim_varF sima_nil))))) (ss_cons (ss_asg (sim_op rs_ix sim_varF sim_varF) (g_name 3)) (ss_append sim_varF))) (ss_ret (sim_cb cs_tuple (sima_cons sim_var sima_nil))))))) wp_greedy_cuts
theorem ok_greedy_cuts (T : Top K mg) : Ok P w K mg base "greedy_cuts" s_greedy_cuts ["case"] [false] 6 sp_greedy_cuts := ok_of T.t_greedy_cuts fun _ _ F => fo_greedy_cuts T F
theorem fo_fewest_count (T : Top K mg) {f : Addr} {fd : FuncData} (F : Fun K "fewest_count" "fewest_count" s_fewest_count f fd) : FnOk P w K mg base (L2N.CX P w) 7 f fd ["case"] (spOf K [false] sp_fewest_count) := by
  obtain ⟨f_greedy_cuts, fd_greedy_cuts, G_greedy_cuts⟩ := ok_greedy_cuts (P := P) (w := w) (base := base) T
  refine fn_ok [false] sp_fewest_count F sc_fewest_count rfl (fun cdv A outer s H E hr => ?_)
  have nd := sc_fewest_count.nd
  have hu := hr.units
  have tk : L2N.Takes (cxOf (L2N.CX P w) P w K mg base ["case"] "fewest_count" (defScope s_fewest_count) f cdv A outer s H E) (fun cls d _ H => E cls d H) := L2N.takes_of rfl rfl rfl rfl
  exact bd_mk (t := m_fewest_count) (pss_one (ps_ret (pe_callB call_lenA (by rfl) T.n_len PySem.boot_len (pa_cons (pe_callS G_greedy_cuts.2.2.2.2 (hr.mono (by first | decide | omega)) rfl G_greedy_cuts.1 G_greedy_cuts.2.1 G_greedy_cuts.2.2.1 (fun σ => L2N.passAt tk σ) (pa_cons (pv 0) pa_nil)) pa_nil)))) (ss_ret (sim_cb cs_len (sima_cons (sim_call0 (sima_cons sim_varF sima_nil)) sima_nil))) wp_fewest_count
theorem ok_fewest_count (T : Top K mg) : Ok P w K mg base "fewest_count" s_fewest_count ["case"] [false] 7 sp_fewest_count := ok_of T.t_fewest_count fun _ _ F => fo_fewest_count T F
theorem fo_piece_count (T : Top K mg) {f : Addr} {fd : FuncData} (F : Fun K "piece_count" "piece_count" s_piece_count f fd) : FnOk P w K mg base (L2N.CX P w) 8 f fd ["case"] (spOf K [false] sp_piece_count) := by
  obtain ⟨f_fewest_count, fd_fewest_count, G_fewest_count⟩ := ok_fewest_count (P := P) (w := w) (base := base) T
  refine fn_ok [false] sp_piece_count F sc_piece_count rfl (fun cdv A outer s H E hr => ?_)
  have nd := sc_piece_count.nd
  have hu := hr.units
  have tk : L2N.Takes (cxOf (L2N.CX P w) P w K mg base ["case"] "piece_count" (defScope s_piece_count) f cdv A outer s H E) (fun cls d _ H => E cls d H) := L2N.takes_of rfl rfl rfl rfl
  exact bd_mk (t := m_piece_count) (pss_one (ps_ret (pe_ifExp (pt_cmpR (op_eqX hu) (pe_ix ix_seq (pv 0) pe_int (fun _ _ => rfl)) pe_str (nomark _)) pe_int (pe_op op_addA (pe_callS G_fewest_count.2.2.2.2 (hr.mono (by first | decide | omega)) rfl G_fewest_count.1 G_fewest_count.2.1 G_fewest_count.2.2.1 (fun σ => L2N.passAt tk σ) (pa_cons (pv 0) pa_nil)) pe_int)))) (ss_ret (sim_ifE (simt_test (sim_op rs_eqA (sim_op rs_ix sim_varF sim_int) (sim_str [] (by decide +kernel) (by decide)))) sim_int (sim_op rs_add (sim_call0 (sima_cons sim_varF sima_nil)) sim_int))) wp_piece_count
theorem ok_piece_count (T : Top K mg) : Ok P w K mg base "piece_count" s_piece_count ["case"] [false] 8 sp_piece_count := ok_of T.t_piece_count fun _ _ F => fo_piece_count T F
theorem fo__with (T : Top K mg) {f : Addr} {fd : FuncData} (F : Fun K "_with" "_with" s__with f fd) : FnOk P w K mg base (L2N.CX P w) 1 f fd ["case", "number", "rule"] (spOf K [false, false, false] sp__with) := by
  refine fn_ok [false, false, false] sp__with F sc__with rfl (fun cdv A outer s H E hr => ?_)
  have nd := sc__with.nd
  have hu := hr.units
  have tk : L2N.Takes (cxOf (L2N.CX P w) P w K mg base ["case", "number", "rule", "elders", "rules", "new"] "_with" (defScope s__with) f cdv A outer s H E) (fun cls d _ H => E cls d H) := L2N.takes_of rfl rfl rfl rfl
  exact bd_mk (t := m__with) (pss_cons (ps_asg (pv 0) (pg_tup rfl (pgs_cons (pg_name (i := 3) nd rfl (by first | exact Or.inl rfl | exact Or.inr rfl)) (pgs_cons (pg_name (i := 4) nd rfl (by first | exact Or.inl rfl | exact Or.inr rfl)) (pgs_cons (pg_name (i := 5) nd rfl (by first | exact Or.inl rfl | exact Or.inr rfl)) pgs_nil))))) (pss_one (ps_ret (pe_tup (pa_cons (pv 3) (pa_cons (pe_op op_addA (pe_op op_addA (pe_slice sl_any (pv 4) po_none (po_some (pv 1))) (pe_tup (pa_cons (pv 2) pa_nil))) (pe_slice sl_any (pv 4) (po_some (pe_op op_addA (pv 1) pe_int)) po_none)) (pa_cons (pv 5) pa_nil))))))) (ss_cons (ss_asg sim_varF (g_tup [3, 4, 5])) (ss_ret (sim_tup 3 (sima_cons sim_varF (sima_cons (sim_op rs_add (sim_op rs_add (sim_sl sim_varF sim_no (sim_part sim_varF)) (sim_tup 1 (sima_cons sim_varF sima_nil))) (sim_sl sim_varF (sim_part (sim_op rs_add sim_varF sim_int)) sim_no)) (sima_cons sim_varF sima_nil)))))) wp__with
theorem ok__with (T : Top K mg) : Ok P w K mg base "_with" s__with ["case", "number", "rule"] [false, false, false] 1 sp__with := ok_of T.t__with fun _ _ F => fo__with T F
theorem fo__check_rule (T : Top K mg) {f : Addr} {fd : FuncData} (F : Fun K "_check_rule" "_check_rule" s__check_rule f fd) : FnOk P w K mg base (L2N.CX P w) 3 f fd ["case", "number"] (spOf K [false, false] sp__check_rule) := by
  obtain ⟨C_NoSuch, fI_NoSuch, fd_NoSuch, gm_NoSuch, ox_NoSuch, gx_NoSuch, iC_NoSuch, tI_NoSuch, F_NoSuch, b_NoSuch⟩ := xok_NoSuch (P := P) (w := w) (base := base) T
  refine fn_ok [false, false] sp__check_rule F sc__check_rule rfl (fun cdv A outer s H E hr => ?_)
  have nd := sc__check_rule.nd
  have hu := hr.units
  have tk : L2N.Takes (cxOf (L2N.CX P w) P w K mg base ["case", "number"] "_check_rule" (defScope s__check_rule) f cdv A outer s H E) (fun cls d _ H => E cls d H) := L2N.takes_of rfl rfl rfl rfl
  exact bd_mk (t := m__check_rule) (pss_one (ps_if (PW.pt (pw_or (pt_val (pe_callB call_isi (by rfl) T.n_isinstance (by decide +kernel) (pa_cons (pv 1) (pa_cons (pe_bltn (v := .ty "bool") (by rfl) T.n_bool (by decide +kernel) rfl) pa_nil)))) (pw_or (pt_not (pt_val (pe_callB call_isi (by rfl) T.n_isinstance (by decide +kernel) (pa_cons (pv 1) (pa_cons (pe_bltn (v := .ty "int") (by rfl) T.n_int (by decide +kernel) rfl) pa_nil))))) (pw_or1 (pt_not (pt_chain (op_leA) (op_ltA) pe_int (pv 1) (pe_callB call_lenA (by rfl) T.n_len PySem.boot_len (pa_cons (pe_ix ix_seq (pv 0) pe_int (fun _ _ => rfl)) pa_nil)))))))) (pss_one (L2N.ps_raise rfl tk (pmk_oexN ox_NoSuch iC_NoSuch tI_NoSuch F_NoSuch (hr.mono (by first | decide | omega)) b_NoSuch passF rfl gm_NoSuch (pa_cons pe_str (pa_cons (pv 1) pa_nil))))) pss_nil)) (ss_if (simt_or (simt_B (sim_isi .bool sim_varF)) (simt_or (simt_not (simt_B (sim_isi .int sim_varF))) (simt_not (simt_test (sim_chain rs_le rs_lt sim_int sim_varF (sim_cb cs_len (sima_cons (sim_op rs_ix sim_varF sim_int) sima_nil))))))) (ss_raise2 ox_NoSuch gx_NoSuch (sima_cons (sim_str [114, 117, 108, 101] (by decide +kernel) (by decide)) (sima_cons sim_varF sima_nil))) ss_nil) wp__check_rule
theorem ok__check_rule (T : Top K mg) : Ok P w K mg base "_check_rule" s__check_rule ["case", "number"] [false, false] 3 sp__check_rule := ok_of T.t__check_rule fun _ _ F => fo__check_rule T F
theorem fo_pieces_by_most (T : Top K mg) {f : Addr} {fd : FuncData} (F : Fun K "pieces_by_most" "pieces_by_most" s_pieces_by_most f fd) : FnOk P w K mg base (L2N.CX P w) 9 f fd ["case", "number", "mosts"] (spOf K [false, false, false] sp_pieces_by_most) := by
  obtain ⟨f__check_rule, fd__check_rule, G__check_rule⟩ := ok__check_rule (P := P) (w := w) (base := base) T
  obtain ⟨f_piece_count, fd_piece_count, G_piece_count⟩ := ok_piece_count (P := P) (w := w) (base := base) T
  obtain ⟨f__with, fd__with, G__with⟩ := ok__with (P := P) (w := w) (base := base) T
  refine fn_ok [false, false, false] sp_pieces_by_most F sc_pieces_by_most rfl (fun cdv A outer s H E hr => ?_)
  have nd := sc_pieces_by_most.nd
  have hu := hr.units
  have tk : L2N.Takes (cxOf (L2N.CX P w) P w K mg base ["case", "number", "mosts", "rule", "most"] "pieces_by_most" (defScope s_pieces_by_most) f cdv A outer s H E) (fun cls d _ H => E cls d H) := L2N.takes_of rfl rfl rfl rfl
  exact bd_mk (t := m_pieces_by_most) (pss_cons (ps_expr (pe_callS G__check_rule.2.2.2.2 (hr.mono (by first | decide | omega)) rfl G__check_rule.1 G__check_rule.2.1 G__check_rule.2.2.1 (fun σ => L2N.passAt tk σ) (pa_cons (pv 0) (pa_cons (pv 1) pa_nil)))) (pss_cons (ps_set (i := 3) nd rfl (by first | exact Or.inl rfl | exact Or.inr rfl) (pe_ix ix_seq (pe_ix ix_seq (pv 0) pe_int (fun _ _ => rfl)) (pv 1) (fun _ _ => rfl))) (pss_one (ps_ret (pe_callTy call_tuple_of (by rfl) T.n_tuple (by decide +kernel) (pa_cons (pe_lc (own := [("most", 4)]) (g := (gName 4)) rfl nd (pi_any (pv 2)) (blkOk_by (N := ["case", "number", "mosts", "rule", "most"]) (sc := defScope s_pieces_by_most) (by decide +kernel)) (fun _ _ _ _ _ => (pg_name (i := 4) nd rfl (by first | exact Or.inl rfl | exact Or.inr rfl))) (fun _ _ _ _ _ => pts_nil) (fun _ _ _ _ _ => (pe_callS G_piece_count.2.2.2.2 (hr.mono (by first | decide | omega)) rfl G_piece_count.1 G_piece_count.2.1 G_piece_count.2.2.1 (fun σ => L2N.passAt takes0N σ) (pa_cons (pe_callS G__with.2.2.2.2 (hr.mono (by first | decide | omega)) rfl G__with.1 G__with.2.1 G__with.2.2.1 (fun σ => L2N.passAt takes0N σ) (pa_cons (pv 0) (pa_cons (pv 1) (pa_cons (pe_op op_addA (pe_slice sl_any (pv 3) po_none (po_some (pe_un un_neg pe_int))) (pe_tup (pa_cons (pv 4) pa_nil))) pa_nil)))) pa_nil)))) pa_nil)))))) (ss_cons (ss_expr (sim_call0 (sima_cons sim_varF (sima_cons sim_varF sima_nil)))) (ss_cons (ss_asg (sim_op rs_ix (sim_op rs_ix sim_varF sim_int) sim_varF) (g_name 3)) (ss_ret (sim_cb cs_tuple (sima_cons (SimN.fz (simn_lc (simi_any sim_varF) (g_name 4) simt_yes (sim_call0 (sima_cons (sim_call0 (sima_cons sim_varF (sima_cons sim_varF (sima_cons (sim_op rs_add (sim_sl sim_varF sim_no (sim_part (sim_un us_neg sim_int))) (sim_tup 1 (sima_cons sim_varF sima_nil))) sima_nil)))) sima_nil)))) sima_nil))))) wp_pieces_by_most
theorem ok_pieces_by_most (T : Top K mg) : Ok P w K mg base "pieces_by_most" s_pieces_by_most ["case", "number", "mosts"] [false, false, false] 9 sp_pieces_by_most := ok_of T.t_pieces_by_most fun _ _ F => fo_pieces_by_most T F
theorem fo_pieces_by_wide (T : Top K mg) {f : Addr} {fd : FuncData} (F : Fun K "pieces_by_wide" "pieces_by_wide" s_pieces_by_wide f fd) : FnOk P w K mg base (L2N.CX P w) 9 f fd ["case", "number", "wides"] (spOf K [false, false, false] sp_pieces_by_wide) := by
  obtain ⟨f__check_rule, fd__check_rule, G__check_rule⟩ := ok__check_rule (P := P) (w := w) (base := base) T
  obtain ⟨f_piece_count, fd_piece_count, G_piece_count⟩ := ok_piece_count (P := P) (w := w) (base := base) T
  obtain ⟨f__with, fd__with, G__with⟩ := ok__with (P := P) (w := w) (base := base) T
  obtain ⟨C_NoSuch, fI_NoSuch, fd_NoSuch, gm_NoSuch, ox_NoSuch, gx_NoSuch, iC_NoSuch, tI_NoSuch, F_NoSuch, b_NoSuch⟩ := xok_NoSuch (P := P) (w := w) (base := base) T
  refine fn_ok [false, false, false] sp_pieces_by_wide F sc_pieces_by_wide rfl (fun cdv A outer s H E hr => ?_)
  have nd := sc_pieces_by_wide.nd
  have hu := hr.units
  have tk : L2N.Takes (cxOf (L2N.CX P w) P w K mg base ["case", "number", "wides", "rule", "wide"] "pieces_by_wide" (defScope s_pieces_by_wide) f cdv A outer s H E) (fun cls d _ H => E cls d H) := L2N.takes_of rfl rfl rfl rfl
  exact bd_mk (t := m_pieces_by_wide) (pss_cons (ps_expr (pe_callS G__check_rule.2.2.2.2 (hr.mono (by first | decide | omega)) rfl G__check_rule.1 G__check_rule.2.1 G__check_rule.2.2.1 (fun σ => L2N.passAt tk σ) (pa_cons (pv 0) (pa_cons (pv 1) pa_nil)))) (pss_cons (ps_set (i := 3) nd rfl (by first | exact Or.inl rfl | exact Or.inr rfl) (pe_ix ix_seq (pe_ix ix_seq (pv 0) pe_int (fun _ _ => rfl)) (pv 1) (fun _ _ => rfl))) (pss_cons (ps_if (pt_cmpR (op_neX hu) (pe_ix ix_seq (pv 3) pe_int (fun _ _ => rfl)) pe_str (nomark _)) (pss_one (L2N.ps_raise rfl tk (pmk_oexN ox_NoSuch iC_NoSuch tI_NoSuch F_NoSuch (hr.mono (by first | decide | omega)) b_NoSuch passF rfl gm_NoSuch (pa_cons pe_str (pa_cons (pv 1) pa_nil))))) pss_nil) (pss_one (ps_ret (pe_callTy call_tuple_of (by rfl) T.n_tuple (by decide +kernel) (pa_cons (pe_lc (own := [("wide", 4)]) (g := (gName 4)) rfl nd (pi_any (pv 2)) (blkOk_by (N := ["case", "number", "wides", "rule", "wide"]) (sc := defScope s_pieces_by_wide) (by decide +kernel)) (fun _ _ _ _ _ => (pg_name (i := 4) nd rfl (by first | exact Or.inl rfl | exact Or.inr rfl))) (fun _ _ _ _ _ => pts_nil) (fun _ _ _ _ _ => (pe_callS G_piece_count.2.2.2.2 (hr.mono (by first | decide | omega)) rfl G_piece_count.1 G_piece_count.2.1 G_piece_count.2.2.1 (fun σ => L2N.passAt takes0N σ) (pa_cons (pe_callS G__with.2.2.2.2 (hr.mono (by first | decide | omega)) rfl G__with.1 G__with.2.1 G__with.2.2.1 (fun σ => L2N.passAt takes0N σ) (pa_cons (pv 0) (pa_cons (pv 1) (pa_cons (pe_op op_addA (pe_op op_addA (pe_slice sl_any (pv 3) po_none (po_some pe_int)) (pe_tup (pa_cons (pv 4) pa_nil))) (pe_slice sl_any (pv 3) (po_some pe_int) po_none)) pa_nil)))) pa_nil)))) pa_nil))))))) (ss_cons (ss_expr (sim_call0 (sima_cons sim_varF (sima_cons sim_varF sima_nil)))) (ss_cons (ss_asg (sim_op rs_ix (sim_op rs_ix sim_varF sim_int) sim_varF) (g_name 3)) (ss_cons (ss_if (simt_test (sim_op rs_neA (sim_op rs_ix sim_varF sim_int) (sim_str [98, 97, 99, 107] (by decide +kernel) (by decide)))) (ss_raise2 ox_NoSuch gx_NoSuch (sima_cons (sim_str [119, 105, 100, 101] (by decide +kernel) (by decide)) (sima_cons sim_varF sima_nil))) ss_nil) (ss_ret (sim_cb cs_tuple (sima_cons (SimN.fz (simn_lc (simi_any sim_varF) (g_name 4) simt_yes (sim_call0 (sima_cons (sim_call0 (sima_cons sim_varF (sima_cons sim_varF (sima_cons (sim_op rs_add (sim_op rs_add (sim_sl sim_varF sim_no (sim_part sim_int)) (sim_tup 1 (sima_cons sim_varF sima_nil))) (sim_sl sim_varF (sim_part sim_int) sim_no)) sima_nil)))) sima_nil)))) sima_nil)))))) wp_pieces_by_wide
theorem okf_pieces_by_wide (T : Top K mg) : OkF P w K mg base "pieces_by_wide" s_pieces_by_wide ["case", "number", "wides"] [false, false, false] 9 sp_pieces_by_wide := okf_of T.t_pieces_by_wide fun _ _ F => fo_pieces_by_wide T F
theorem ok_pieces_by_wide (T : Top K mg) : Ok P w K mg base "pieces_by_wide" s_pieces_by_wide ["case", "number", "wides"] [false, false, false] 9 sp_pieces_by_wide := ok_of T.t_pieces_by_wide fun _ _ F => fo_pieces_by_wide T F
theorem fo_least_most (T : Top K mg) {f : Addr} {fd : FuncData} (F : Fun K "least_most" "least_most" s_least_most f fd) : FnOk P w K mg base (L2N.CX P w) 9 f fd ["case", "number"] (spOf K [false, false] sp_least_most) := by
  obtain ⟨f__check_rule, fd__check_rule, G__check_rule⟩ := ok__check_rule (P := P) (w := w) (base := base) T
  obtain ⟨f_piece_count, fd_piece_count, G_piece_count⟩ := ok_piece_count (P := P) (w := w) (base := base) T
  obtain ⟨f__with, fd__with, G__with⟩ := ok__with (P := P) (w := w) (base := base) T
  refine fn_ok [false, false] sp_least_most F sc_least_most rfl (fun cdv A outer s H E hr => ?_)
  have nd := sc_least_most.nd
  have hu := hr.units
  have tk : L2N.Takes (cxOf (L2N.CX P w) P w K mg base ["case", "number", "rule", "goal", "low", "high", "middle"] "least_most" (defScope s_least_most) f cdv A outer s H E) (fun cls d _ H => E cls d H) := L2N.takes_of rfl rfl rfl rfl
  exact bd_mk (t := m_least_most) (pss_cons (ps_expr (pe_callS G__check_rule.2.2.2.2 (hr.mono (by first | decide | omega)) rfl G__check_rule.1 G__check_rule.2.1 G__check_rule.2.2.1 (fun σ => L2N.passAt tk σ) (pa_cons (pv 0) (pa_cons (pv 1) pa_nil)))) (pss_cons (ps_set (i := 2) nd rfl (by first | exact Or.inl rfl | exact Or.inr rfl) (pe_ix ix_seq (pe_ix ix_seq (pv 0) pe_int (fun _ _ => rfl)) (pv 1) (fun _ _ => rfl))) (pss_cons (ps_set (i := 3) nd rfl (by first | exact Or.inl rfl | exact Or.inr rfl) (pe_callS G_piece_count.2.2.2.2 (hr.mono (by first | decide | omega)) rfl G_piece_count.1 G_piece_count.2.1 G_piece_count.2.2.1 (fun σ => L2N.passAt tk σ) (pa_cons (pv 0) pa_nil))) (pss_cons (ps_set (i := 4) nd rfl (by first | exact Or.inl rfl | exact Or.inr rfl) pe_int) (pss_cons (ps_set (i := 5) nd rfl (by first | exact Or.inl rfl | exact Or.inr rfl) (pe_ix ix_seq (pv 2) (pe_un un_neg pe_int) (fun _ _ => rfl))) (pss_cons (ps_while (passes_of rfl) (pt_cmpR (op_ltA) (pv 4) (pv 5) (nomark _)) (pss_cons (ps_set (i := 6) nd rfl (by first | exact Or.inl rfl | exact Or.inr rfl) (pe_op op_fdivW (pe_op op_addA (pv 4) (pv 5)) pe_int)) (pss_one (ps_if (pt_cmpR (op_leA) (pe_callS G_piece_count.2.2.2.2 (hr.mono (by first | decide | omega)) rfl G_piece_count.1 G_piece_count.2.1 G_piece_count.2.2.1 (fun σ => L2N.passAt tk σ) (pa_cons (pe_callS G__with.2.2.2.2 (hr.mono (by first | decide | omega)) rfl G__with.1 G__with.2.1 G__with.2.2.1 (fun σ => L2N.passAt tk σ) (pa_cons (pv 0) (pa_cons (pv 1) (pa_cons (pe_op op_addA (pe_slice sl_any (pv 2) po_none (po_some (pe_un un_neg pe_int))) (pe_tup (pa_cons (pv 6) pa_nil))) pa_nil)))) pa_nil)) (pv 3) (nomark _)) (pss_one (ps_set (i := 5) nd rfl (by first | exact Or.inl rfl | exact Or.inr rfl) (pv 6))) (pss_one (ps_set (i := 4) nd rfl (by first | exact Or.inl rfl | exact Or.inr rfl) (pe_op op_addA (pv 6) pe_int))))))) (pss_one (ps_ret (pv 4))))))))) (ss_cons (ss_expr (sim_call0 (sima_cons sim_varF (sima_cons sim_varF sima_nil)))) (ss_cons (ss_asg (sim_op rs_ix (sim_op rs_ix sim_varF sim_int) sim_varF) (g_name 2)) (ss_cut (ss_asg (sim_call0 (sima_cons sim_varF sima_nil)) (g_name 3)) (ss_cons (ss_asg sim_int (g_name 4)) (ss_cut (ss_asg (sim_op rs_ix sim_varF (sim_un us_neg sim_int)) (g_name 5)) (ss_cons (ss_while (simt_test (sim_op rs_lt sim_varF sim_varF)) (ss_cons (ss_asg (sim_op rs_div (sim_op rs_add sim_varF sim_varF) sim_int) (g_name 6)) (ss_if (simt_test (sim_op rs_le (sim_call0 (sima_cons (sim_call0 (sima_cons sim_varF (sima_cons sim_varF (sima_cons (sim_op rs_add (sim_sl sim_varF sim_no (sim_part (sim_un us_neg sim_int))) (sim_tup 1 (sima_cons sim_varF sima_nil))) sima_nil)))) sima_nil)) sim_varF)) (ss_asg sim_varF (g_name 5)) (ss_asg (sim_op rs_add sim_varF sim_int) (g_name 4))))) (ss_ret sim_varF))))))) wp_least_most
theorem okf_least_most (T : Top K mg) : OkF P w K mg base "least_most" s_least_most ["case", "number"] [false, false] 9 sp_least_most := okf_of T.t_least_most fun _ _ F => fo_least_most T F
theorem ok_least_most (T : Top K mg) : Ok P w K mg base "least_most" s_least_most ["case", "number"] [false, false] 9 sp_least_most := ok_of T.t_least_most fun _ _ F => fo_least_most T F
theorem fo_least_wide (T : Top K mg) {f : Addr} {fd : FuncData} (F : Fun K "least_wide" "least_wide" s_least_wide f fd) : FnOk P w K mg base (L2N.CX P w) 9 f fd ["case", "number"] (spOf K [false, false] sp_least_wide) := by
  obtain ⟨f__check_rule, fd__check_rule, G__check_rule⟩ := ok__check_rule (P := P) (w := w) (base := base) T
  obtain ⟨f_piece_count, fd_piece_count, G_piece_count⟩ := ok_piece_count (P := P) (w := w) (base := base) T
  obtain ⟨f__with, fd__with, G__with⟩ := ok__with (P := P) (w := w) (base := base) T
  obtain ⟨C_NoSuch, fI_NoSuch, fd_NoSuch, gm_NoSuch, ox_NoSuch, gx_NoSuch, iC_NoSuch, tI_NoSuch, F_NoSuch, b_NoSuch⟩ := xok_NoSuch (P := P) (w := w) (base := base) T
  refine fn_ok [false, false] sp_least_wide F sc_least_wide rfl (fun cdv A outer s H E hr => ?_)
  have nd := sc_least_wide.nd
  have hu := hr.units
  have tk : L2N.Takes (cxOf (L2N.CX P w) P w K mg base ["case", "number", "rule", "goal", "low", "high", "middle"] "least_wide" (defScope s_least_wide) f cdv A outer s H E) (fun cls d _ H => E cls d H) := L2N.takes_of rfl rfl rfl rfl
  have key : T2 (npOf [false, false]) (fun cls d _ H => E cls d H) (cxOf (L2N.CX P w) P w K mg base ["case", "number", "rule", "goal", "low", "high", "middle"] "least_wide" (defScope s_least_wide) f cdv A outer s H E) (defBody s_least_wide) m_least_wide := by
    refine t_cons ⟨_, (ps_expr (pe_callS G__check_rule.2.2.2.2 (hr.mono (by first | decide | omega)) rfl G__check_rule.1 G__check_rule.2.1 G__check_rule.2.2.1 (fun σ => L2N.passAt tk σ) (pa_cons (pv 0) (pa_cons (pv 1) pa_nil)))), (ss_expr (sim_call0 (sima_cons sim_varF (sima_cons sim_varF sima_nil))))⟩ ?_
    refine t_cons ⟨_, (ps_set (i := 2) nd rfl (by first | exact Or.inl rfl | exact Or.inr rfl) (pe_ix ix_seq (pe_ix ix_seq (pv 0) pe_int (fun _ _ => rfl)) (pv 1) (fun _ _ => rfl))), (ss_asg (sim_op rs_ix (sim_op rs_ix sim_varF sim_int) sim_varF) (g_name 2))⟩ ?_
    refine t_cons ⟨_, (ps_if (pt_cmpR (op_neX hu) (pe_ix ix_seq (pv 2) pe_int (fun _ _ => rfl)) pe_str (nomark _)) (pss_one (L2N.ps_raise rfl tk (pmk_oexN ox_NoSuch iC_NoSuch tI_NoSuch F_NoSuch (hr.mono (by first | decide | omega)) b_NoSuch passF rfl gm_NoSuch (pa_cons pe_str (pa_cons (pv 1) pa_nil))))) pss_nil), (ss_if (simt_test (sim_op rs_neA (sim_op rs_ix sim_varF sim_int) (sim_str [98, 97, 99, 107] (by decide +kernel) (by decide)))) (ss_raise2 ox_NoSuch gx_NoSuch (sima_cons (sim_str [119, 105, 100, 101] (by decide +kernel) (by decide)) (sima_cons sim_varF sima_nil))) ss_nil)⟩ ?_
    refine t_cons ⟨_, (ps_set (i := 3) nd rfl (by first | exact Or.inl rfl | exact Or.inr rfl) (pe_callS G_piece_count.2.2.2.2 (hr.mono (by first | decide | omega)) rfl G_piece_count.1 G_piece_count.2.1 G_piece_count.2.2.1 (fun σ => L2N.passAt tk σ) (pa_cons (pv 0) pa_nil))), (ss_asg (sim_call0 (sima_cons sim_varF sima_nil)) (g_name 3))⟩ ?_
    refine t_cons ⟨_, (ps_set (i := 4) nd rfl (by first | exact Or.inl rfl | exact Or.inr rfl) pe_int), (ss_asg sim_int (g_name 4))⟩ ?_
    refine t_cut ⟨_, (ps_set (i := 5) nd rfl (by first | exact Or.inl rfl | exact Or.inr rfl) (pe_ix ix_seq (pv 2) pe_int (fun _ _ => rfl))), (ss_asg (sim_op rs_ix sim_varF sim_int) (g_name 5))⟩ ?_
    refine t_cons (t1_arg (fun te hp hs => ⟨_, (ps_while (passes_of rfl) (pt_cmpR (op_ltA) (pv 4) (pv 5) (nomark _)) (pss_cons (ps_set (i := 6) nd rfl (by first | exact Or.inl rfl | exact Or.inr rfl) (pe_op op_fdivW (pe_op op_addA (pv 4) (pv 5)) pe_int)) (pss_one (ps_if (pt_cmpR (op_leA) (pe_callS G_piece_count.2.2.2.2 (hr.mono (by first | decide | omega)) rfl G_piece_count.1 G_piece_count.2.1 G_piece_count.2.2.1 (fun σ => L2N.passAt tk σ) (pa_cons (pe_callS G__with.2.2.2.2 (hr.mono (by first | decide | omega)) rfl G__with.1 G__with.2.1 G__with.2.2.1 (fun σ => L2N.passAt tk σ) (pa_cons (pv 0) (pa_cons (pv 1) (pa_cons hp pa_nil)))) pa_nil)) (pv 3) (nomark _)) (pss_one (ps_set (i := 5) nd rfl (by first | exact Or.inl rfl | exact Or.inr rfl) (pv 6))) (pss_one (ps_set (i := 4) nd rfl (by first | exact Or.inl rfl | exact Or.inr rfl) (pe_op op_addA (pv 6) pe_int))))))), (ss_while (simt_test (sim_op rs_lt sim_varF sim_varF)) (ss_cons (ss_asg (sim_op rs_div (sim_op rs_add sim_varF sim_varF) sim_int) (g_name 6)) (ss_if (simt_test (sim_op rs_le (sim_call0 (sima_cons (sim_call0 (sima_cons sim_varF (sima_cons sim_varF (sima_cons hs sima_nil)))) sima_nil)) sim_varF)) (ss_asg sim_varF (g_name 5)) (ss_asg (sim_op rs_add sim_varF sim_int) (g_name 4)))))⟩) ⟨_, (pe_op op_addA (pe_op op_addA (pe_slice sl_any (pv 2) po_none (po_some pe_int)) (pe_tup (pa_cons (pv 6) pa_nil))) (pe_slice sl_any (pv 2) (po_some pe_int) po_none)), (sim_op rs_add (sim_op rs_add (sim_sl sim_varF sim_no (sim_part sim_int)) (sim_tup 1 (sima_cons sim_varF sima_nil))) (sim_sl sim_varF (sim_part sim_int) sim_no))⟩) ?_
    exact t_one ⟨_, (ps_ret (pv 4)), (ss_ret sim_varF)⟩
  obtain ⟨Tx, hP, hS⟩ := key
  exact bd_mk (t := m_least_wide) hP hS wp_least_wide
theorem ok_least_wide (T : Top K mg) : Ok P w K mg base "least_wide" s_least_wide ["case", "number"] [false, false] 9 sp_least_wide := ok_of T.t_least_wide fun _ _ F => fo_least_wide T F
theorem fo_widest_case (T : Top K mg) {f : Addr} {fd : FuncData} (F : Fun K "widest_case" "widest_case" s_widest_case f fd) : FnOk P w K mg base (L2N.CX P w) 1 f fd ["case"] (spOf K [false] sp_widest_case) := by
  obtain ⟨t_MOST_WIDE, gm_MOST_WIDE⟩ := T.c_MOST_WIDE
  refine fn_ok [false] sp_widest_case F sc_widest_case rfl (fun cdv A outer s H E hr => ?_)
  have nd := sc_widest_case.nd
  have hu := hr.units
  have tk : L2N.Takes (cxOf (L2N.CX P w) P w K mg base ["case", "elders", "rules", "new", "told", "rule"] "widest_case" (defScope s_widest_case) f cdv A outer s H E) (fun cls d _ H => E cls d H) := L2N.takes_of rfl rfl rfl rfl
  exact bd_mk (t := m_widest_case) (pss_cons (ps_asg (pv 0) (pg_tup rfl (pgs_cons (pg_name (i := 1) nd rfl (by first | exact Or.inl rfl | exact Or.inr rfl)) (pgs_cons (pg_name (i := 2) nd rfl (by first | exact Or.inl rfl | exact Or.inr rfl)) (pgs_cons (pg_name (i := 3) nd rfl (by first | exact Or.inl rfl | exact Or.inr rfl)) pgs_nil))))) (pss_cons (ps_set (i := 4) nd rfl (by first | exact Or.inl rfl | exact Or.inr rfl) (pe_lst pa_nil)) (pss_cons (ps_for (passes_of rfl) rfl (pi_any (pv 2)) (pg_name (i := 5) nd rfl (by first | exact Or.inl rfl | exact Or.inr rfl)) (pss_one (ps_if (pt_cmpR (op_eqX hu) (pe_ix ix_seq (pv 5) pe_int (fun _ _ => rfl)) pe_str (nomark _)) (pss_one (ps_expr (pe_bm PySem.F.plainAttrs_list PySem.F.slot_list_append PySem.F.type_list_append mt_append (pv 4) (pa_cons (pe_op op_addA (pe_slice sl_any (pv 5) po_none (po_some (pe_un un_neg pe_int))) (pe_tup (pa_cons (pe_glob (v := .int 300) rfl gm_MOST_WIDE ⟨_, rfl⟩) pa_nil))) pa_nil)))) (pss_one (ps_expr (pe_bm PySem.F.plainAttrs_list PySem.F.slot_list_append PySem.F.type_list_append mt_append (pv 4) (pa_cons (pe_op op_addA (pe_op op_addA (pe_tup (pa_cons pe_str (pa_cons (pe_glob (v := .int 300) rfl gm_MOST_WIDE ⟨_, rfl⟩) pa_nil))) (pe_slice sl_any (pv 5) (po_some pe_int) (po_some (pe_un un_neg pe_int)))) (pe_tup (pa_cons (pe_glob (v := .int 300) rfl gm_MOST_WIDE ⟨_, rfl⟩) pa_nil))) pa_nil))))))) (pss_one (ps_ret (pe_tup (pa_cons (pv 1) (pa_cons (pe_callTy call_tuple_of (by rfl) T.n_tuple (by decide +kernel) (pa_cons (pv 4) pa_nil)) (pa_cons (pv 3) pa_nil))))))))) (ss_cons (ss_asg sim_varF (g_tup [1, 2, 3])) (ss_cons (ss_setM (i := 4) (simn_lst 0 sima_nil)) (ss_cons (ss_for (simi_any sim_varF) (g_name 5) (ss_if (simt_test (sim_op rs_eqA (sim_op rs_ix sim_varF sim_int) (sim_str [101, 108, 100, 101, 114] (by decide +kernel) (by decide)))) (ss_append (sim_op rs_add (sim_sl sim_varF sim_no (sim_part (sim_un us_neg sim_int))) (sim_tup 1 (sima_cons sim_int sima_nil)))) (ss_append (sim_op rs_add (sim_op rs_add (sim_tup 2 (sima_cons (sim_str [98, 97, 99, 107] (by decide +kernel) (by decide)) (sima_cons sim_int sima_nil))) (sim_sl sim_varF (sim_part sim_int) (sim_part (sim_un us_neg sim_int)))) (sim_tup 1 (sima_cons sim_int sima_nil)))))) (ss_ret (sim_tup 3 (sima_cons sim_varF (sima_cons (sim_cb cs_tuple (sima_cons sim_var sima_nil)) (sima_cons sim_varF sima_nil)))))))) wp_widest_case
theorem okf_widest_case (T : Top K mg) : OkF P w K mg base "widest_case" s_widest_case ["case"] [false] 1 sp_widest_case := okf_of T.t_widest_case fun _ _ F => fo_widest_case T F
theorem ok_widest_case (T : Top K mg) : Ok P w K mg base "widest_case" s_widest_case ["case"] [false] 1 sp_widest_case := ok_of T.t_widest_case fun _ _ F => fo_widest_case T F
theorem fo_lost_by_bounds (T : Top K mg) {f : Addr} {fd : FuncData} (F : Fun K "lost_by_bounds" "lost_by_bounds" s_lost_by_bounds f fd) : FnOk P w K mg base (L2N.CX P w) 9 f fd ["case"] (spOf K [false] sp_lost_by_bounds) := by
  obtain ⟨f_piece_count, fd_piece_count, G_piece_count⟩ := ok_piece_count (P := P) (w := w) (base := base) T
  obtain ⟨f_widest_case, fd_widest_case, G_widest_case⟩ := ok_widest_case (P := P) (w := w) (base := base) T
  refine fn_ok [false] sp_lost_by_bounds F sc_lost_by_bounds rfl (fun cdv A outer s H E hr => ?_)
  have nd := sc_lost_by_bounds.nd
  have hu := hr.units
  have tk : L2N.Takes (cxOf (L2N.CX P w) P w K mg base ["case"] "lost_by_bounds" (defScope s_lost_by_bounds) f cdv A outer s H E) (fun cls d _ H => E cls d H) := L2N.takes_of rfl rfl rfl rfl
  exact bd_mk (t := m_lost_by_bounds) (pss_one (ps_ret (pe_op op_sub (pe_callS G_piece_count.2.2.2.2 (hr.mono (by first | decide | omega)) rfl G_piece_count.1 G_piece_count.2.1 G_piece_count.2.2.1 (fun σ => L2N.passAt tk σ) (pa_cons (pv 0) pa_nil)) (pe_callS G_piece_count.2.2.2.2 (hr.mono (by first | decide | omega)) rfl G_piece_count.1 G_piece_count.2.1 G_piece_count.2.2.1 (fun σ => L2N.passAt tk σ) (pa_cons (pe_callS G_widest_case.2.2.2.2 (hr.mono (by first | decide | omega)) rfl G_widest_case.1 G_widest_case.2.1 G_widest_case.2.2.1 (fun σ => L2N.passAt tk σ) (pa_cons (pv 0) pa_nil)) pa_nil))))) (ss_ret (sim_op rs_sub (sim_call0 (sima_cons sim_varF sima_nil)) (sim_call0 (sima_cons (sim_call0 (sima_cons sim_varF sima_nil)) sima_nil)))) wp_lost_by_bounds
theorem okf_lost_by_bounds (T : Top K mg) : OkF P w K mg base "lost_by_bounds" s_lost_by_bounds ["case"] [false] 9 sp_lost_by_bounds := okf_of T.t_lost_by_bounds fun _ _ F => fo_lost_by_bounds T F
theorem ok_lost_by_bounds (T : Top K mg) : Ok P w K mg base "lost_by_bounds" s_lost_by_bounds ["case"] [false] 9 sp_lost_by_bounds := ok_of T.t_lost_by_bounds fun _ _ F => fo_lost_by_bounds T F
theorem fo__law_reel (T : Top K mg) {f : Addr} {fd : FuncData} (F : Fun K "_law_reel" "_law_reel" s__law_reel f fd) : FnOk P w K mg base (L2N.CX P w) 1 f fd ["script"] (spOf K [false] sp__law_reel) := by
  refine fn_ok [false] sp__law_reel F sc__law_reel rfl (fun cdv A outer s H E hr => ?_)
  have nd := sc__law_reel.nd
  have hu := hr.units
  have tk : L2N.Takes (cxOf (L2N.CX P w) P w K mg base ["script", "cell"] "_law_reel" (defScope s__law_reel) f cdv A outer s H E) (fun cls d _ H => E cls d H) := L2N.takes_of rfl rfl rfl rfl
  exact bd_mk (t := m__law_reel) (pss_one (ps_ret (pe_lst (pa_cons (pe_lc (own := [("cell", 1)]) (g := (gName 1)) rfl nd (pi_any (pe_slice sl_any (pv 0) po_none (po_some pe_int))) (blkOk_by (N := ["script", "cell"]) (sc := defScope s__law_reel) (by decide +kernel)) (fun _ _ _ _ _ => (pg_name (i := 1) nd rfl (by first | exact Or.inl rfl | exact Or.inr rfl))) (fun _ _ _ _ _ => pts_nil) (fun _ _ _ _ _ => (pe_callTy call_int1 (by rfl) T.n_int (by decide +kernel) (pa_cons (pv 1) pa_nil)))) (pa_cons pe_int (pa_cons pe_int (pa_cons pe_int (pa_cons pe_int pa_nil)))))))) (ss_retW (SimN.own (simn_lst 5 (sima_cons (SimN.fz (simn_lc (simi_any (sim_sl sim_varF sim_no (sim_part sim_int))) (g_name 1) simt_yes (sim_cb cs_int (sima_cons sim_varF sima_nil)))) (sima_cons sim_int (sima_cons sim_int (sima_cons sim_int (sima_cons sim_int sima_nil)))))))) wp__law_reel
theorem ok__law_reel (T : Top K mg) : Ok P w K mg base "_law_reel" s__law_reel ["script"] [false] 1 sp__law_reel := ok_of T.t__law_reel fun _ _ F => fo__law_reel T F
theorem fo__law_roll (T : Top K mg) {f : Addr} {fd : FuncData} (F : Fun K "_law_roll" "_law_roll" s__law_roll f fd) : FnOk P w K mg base (L2N.CX P w) 1 f fd ["reel", "many"] (spOf K [true, false] sp__law_roll) := by
  refine fn_ok [true, false] sp__law_roll F sc__law_roll rfl (fun cdv A outer s H E hr => ?_)
  have nd := sc__law_roll.nd
  have hu := hr.units
  have tk : L2N.Takes (cxOf (L2N.CX P w) P w K mg base ["reel", "many", "cell", "digit"] "_law_roll" (defScope s__law_roll) f cdv A outer s H E) (fun cls d _ H => E cls d H) := L2N.takes_of rfl rfl rfl rfl
  exact bd_mk (t := m__law_roll) (pss_cons (ps_asg (pe_op op_addA (pe_ix ix_seq (pv 0) pe_int (fun _ _ => rfl)) pe_int) (pg_sub (pv 0) pe_int set_list)) (pss_cons (ps_if (PW.pt (pw_and (pt_cmpR (op_eqX hu) (pe_ix ix_seq (pv 0) pe_int (fun _ _ => rfl)) pe_int (nomark _)) (pw_and1 (pt_cmpR (op_ltA) (pe_ix ix_seq (pv 0) pe_int (fun _ _ => rfl)) (pe_callB call_lenA (by rfl) T.n_len PySem.boot_len (pa_cons (pe_ix ix_seq (pv 0) pe_int (fun _ _ => rfl)) pa_nil)) (nomark _))))) (pss_cons (ps_set (i := 2) nd rfl (by first | exact Or.inl rfl | exact Or.inr rfl) (pe_callB call_abs (by rfl) T.n_abs (by decide +kernel) (pa_cons (pe_ix ix_seq (pe_ix ix_seq (pv 0) pe_int (fun _ _ => rfl)) (pe_ix ix_seq (pv 0) pe_int (fun _ _ => rfl)) (fun _ _ => rfl)) pa_nil))) (pss_cons (ps_asg (pe_op op_addA (pe_ix ix_seq (pv 0) pe_int (fun _ _ => rfl)) pe_int) (pg_sub (pv 0) pe_int set_list)) (pss_cons (ps_asg (pe_op op_modN (pe_callTy call_int1 (by rfl) T.n_int (by decide +kernel) (pa_cons (pe_op op_addA (pe_op op_addA (pe_op op_mulA (pe_ix ix_seq (pv 0) pe_int (fun _ _ => rfl)) pe_int) (pe_op op_mulA (pe_op op_modN (pe_callTy call_int1 (by rfl) T.n_int (by decide +kernel) (pa_cons (pv 2) pa_nil)) pe_int) pe_int)) (pe_ix ix_seq (pv 0) pe_int (fun _ _ => rfl))) pa_nil)) pe_int) (pg_sub (pv 0) pe_int set_list)) (pss_one (ps_if (pt_cmpR (op_geA) (pv 2) (pe_op op_pow pe_int pe_int) (nomark _)) (pss_one (ps_asg (pv 2) (pg_sub (pv 0) pe_int set_list))) pss_nil))))) pss_nil) (pss_cons (ps_if (pt_cmpR (op_gtA) (pe_ix ix_seq (pv 0) pe_int (fun _ _ => rfl)) pe_int (nomark _)) (pss_cons (ps_set (i := 3) nd rfl (by first | exact Or.inl rfl | exact Or.inr rfl) (pe_op op_modN (pe_callTy call_int1 (by rfl) T.n_int (by decide +kernel) (pa_cons (pe_ix ix_seq (pv 0) pe_int (fun _ _ => rfl)) pa_nil)) (pv 1))) (pss_cons (ps_asg (pe_op op_fdivW (pe_ix ix_seq (pv 0) pe_int (fun _ _ => rfl)) (pv 1)) (pg_sub (pv 0) pe_int set_list)) (pss_one (ps_ret (pv 3))))) pss_nil) (pss_cons (ps_asg (pe_op op_modN (pe_callTy call_int1 (by rfl) T.n_int (by decide +kernel) (pa_cons (pe_op op_addA (pe_op op_addA (pe_op op_mulA (pe_ix ix_seq (pv 0) pe_int (fun _ _ => rfl)) pe_int) (pe_op op_mulA (pe_op op_mulA (pe_ix ix_seq (pv 0) pe_int (fun _ _ => rfl)) (pe_ix ix_seq (pv 0) pe_int (fun _ _ => rfl))) pe_int)) pe_int) pa_nil)) pe_int) (pg_sub (pv 0) pe_int set_list)) (pss_one (ps_ret (pe_op op_modN (pe_callTy call_int1 (by rfl) T.n_int (by decide +kernel) (pa_cons (pe_op op_fdivW (pe_ix ix_seq (pv 0) pe_int (fun _ _ => rfl)) pe_int) pa_nil)) (pv 1)))))))) (ss_cons (ss_setIx (sim_op rs_add (sim_op rs_ix sim_var sim_int) sim_int) sim_int) (ss_cut (ss_if (simt_and (simt_test (sim_op rs_eqA (sim_op rs_ix sim_var sim_int) sim_int)) (simt_test (sim_op rs_lt (sim_op rs_ix sim_var sim_int) (sim_cb cs_len (sima_cons (sim_op rs_ix sim_var sim_int) sima_nil))))) (ss_cons (ss_asg (sim_cb cs_I1 (sima_cons (sim_op rs_ix (sim_op rs_ix sim_var sim_int) (sim_op rs_ix sim_var sim_int)) sima_nil)) (g_name 2)) (ss_cons (ss_setIx (sim_op rs_add (sim_op rs_ix sim_var sim_int) sim_int) sim_int) (ss_cons (ss_setIx (sim_op rs_mod (sim_cb cs_int (sima_cons (sim_op rs_add (sim_op rs_add (sim_op rs_mul (sim_op rs_ix sim_var sim_int) sim_int) (sim_op rs_mul (sim_op rs_mod (sim_cb cs_int (sima_cons sim_varF sima_nil)) sim_int) sim_int)) (sim_op rs_ix sim_var sim_int)) sima_nil)) sim_int) sim_int) (ss_if (simt_test (sim_op rs_ge sim_varF (sim_op rs_pow sim_int sim_int))) (ss_setIx sim_varF sim_int) ss_nil)))) ss_nil) (ss_cons (ss_if (simt_test (sim_op rs_gt (sim_op rs_ix sim_var sim_int) sim_int)) (ss_cons (ss_asg (sim_op rs_mod (sim_cb cs_int (sima_cons (sim_op rs_ix sim_var sim_int) sima_nil)) sim_varF) (g_name 3)) (ss_cons (ss_setIx (sim_op rs_div (sim_op rs_ix sim_var sim_int) sim_varF) sim_int) (ss_ret sim_varF))) ss_nil) (ss_cons (ss_setIx (sim_op rs_mod (sim_cb cs_int (sima_cons (sim_op rs_add (sim_op rs_add (sim_op rs_mul (sim_op rs_ix sim_var sim_int) sim_int) (sim_op rs_mul (sim_op rs_mul (sim_op rs_ix sim_var sim_int) (sim_op rs_ix sim_var sim_int)) sim_int)) sim_int) sima_nil)) sim_int) sim_int) (ss_ret (sim_op rs_mod (sim_cb cs_int (sima_cons (sim_op rs_div (sim_op rs_ix sim_var sim_int) sim_int) sima_nil)) sim_varF)))))) wp__law_roll
theorem ok__law_roll (T : Top K mg) : Ok P w K mg base "_law_roll" s__law_roll ["reel", "many"] [true, false] 1 sp__law_roll := ok_of T.t__law_roll fun _ _ F => fo__law_roll T F
theorem fo__law_same (T : Top K mg) {f : Addr} {fd : FuncData} (F : Fun K "_law_same" "_law_same" s__law_same f fd) : FnOk P w K mg base (L2N.CX P w) 1 f fd ["told", "due"] (spOf K [false, false] sp__law_sm) := by
  refine fn_ok [false, false] sp__law_sm F sc__law_same rfl (fun cdv A outer s H E hr => ?_)
  have nd := sc__law_same.nd
  have hu := hr.units
  have tk : L2N.Takes (cxOf (L2N.CX P w) P w K mg base ["told", "due", "rest", "one", "two", "k"] "_law_same" (defScope s__law_same) f cdv A outer s H E) (fun cls d _ H => E cls d H) := L2N.takes_of rfl rfl rfl rfl
  exact bd_mk (t := m__law_same) (pss_cons (ps_set (i := 2) nd rfl (by first | exact Or.inl rfl | exact Or.inr rfl) (pe_lst (pa_cons (pe_tup (pa_cons (pv 0) (pa_cons (pv 1) pa_nil))) pa_nil))) (pss_cons (ps_while (passes_of rfl) (pt_cmpR (op_gtA) (pe_callB call_lenA (by rfl) T.n_len PySem.boot_len (pa_cons (pv 2) pa_nil)) pe_int (nomark _)) (pss_cons (ps_asg (pe_bm0 PySem.F.plainAttrs_list PySem.F.slot_list_pop PySem.F.type_list_pop mt_pop (pv 2)) (pg_tup rfl (pgs_cons (pg_name (i := 3) nd rfl (by first | exact Or.inl rfl | exact Or.inr rfl)) (pgs_cons (pg_name (i := 4) nd rfl (by first | exact Or.inl rfl | exact Or.inr rfl)) pgs_nil)))) (pss_one (ps_if (pt_cmpR op_isN (pv 4) pe_non (nomark _)) (pss_one (ps_if (pt_cmpR op_notN (pv 3) pe_non (nomark _)) (pss_one (ps_ret pe_bl)) pss_nil)) (pss_one (ps_if (pt_val (pe_callB call_isi (by rfl) T.n_isinstance (by decide +kernel) (pa_cons (pv 4) (pa_cons (pe_bltn (v := .ty "bool") (by rfl) T.n_bool (by decide +kernel) rfl) pa_nil)))) (pss_one (ps_if (PW.pt (pw_or (pt_not (pt_val (pe_callB call_isi (by rfl) T.n_isinstance (by decide +kernel) (pa_cons (pv 3) (pa_cons (pe_bltn (v := .ty "bool") (by rfl) T.n_bool (by decide +kernel) rfl) pa_nil))))) (pw_or1 (pt_cmpR (op_neX hu) (pv 3) (pv 4) (nomark _))))) (pss_one (ps_ret pe_bl)) pss_nil)) (pss_one (ps_if (pt_val (pe_callB call_isi (by rfl) T.n_isinstance (by decide +kernel) (pa_cons (pv 4) (pa_cons (pe_bltn (v := .ty "int") (by rfl) T.n_int (by decide +kernel) rfl) pa_nil)))) (pss_one (ps_if (PW.pt (pw_or (pt_not (pt_val (pe_callB call_isi (by rfl) T.n_isinstance (by decide +kernel) (pa_cons (pv 3) (pa_cons (pe_bltn (v := .ty "int") (by rfl) T.n_int (by decide +kernel) rfl) pa_nil))))) (pw_or (pt_val (pe_callB call_isi (by rfl) T.n_isinstance (by decide +kernel) (pa_cons (pv 3) (pa_cons (pe_bltn (v := .ty "bool") (by rfl) T.n_bool (by decide +kernel) rfl) pa_nil)))) (pw_or1 (pt_cmpR (op_neX hu) (pv 3) (pv 4) (nomark _)))))) (pss_one (ps_ret pe_bl)) pss_nil)) (pss_cons (ps_if (PW.pt (pw_or (pt_not (pt_val (pe_callB call_isi (by rfl) T.n_isinstance (by decide +kernel) (pa_cons (pv 3) (pa_cons (pe_bltn (v := .ty "tuple") (by rfl) T.n_tuple (by decide +kernel) rfl) pa_nil))))) (pw_or1 (pt_cmpR (op_neX hu) (pe_callB call_lenA (by rfl) T.n_len PySem.boot_len (pa_cons (pv 3) pa_nil)) (pe_callB call_lenA (by rfl) T.n_len PySem.boot_len (pa_cons (pv 4) pa_nil)) (nomark _))))) (pss_one (ps_ret pe_bl)) pss_nil) (pss_one (ps_expr (pe_bm PySem.F.plainAttrs_list PySem.F.slot_list_extend PySem.F.type_list_extend (MtR.or mt_extend mt_extT) (pv 2) (pa_cons (pe_lc (own := [("k", 5)]) (g := (gName 5)) rfl nd (pi_range1 rfl T.n_range (pa_cons (pe_callB call_lenA (by rfl) T.n_len PySem.boot_len (pa_cons (pv 4) pa_nil)) pa_nil)) (blkOk_by (N := ["told", "due", "rest", "one", "two", "k"]) (sc := defScope s__law_same) (by decide +kernel)) (fun _ _ _ _ _ => (pg_name (i := 5) nd rfl (by first | exact Or.inl rfl | exact Or.inr rfl))) (fun _ _ _ _ _ => pts_nil) (fun _ _ _ _ _ => (pe_tup (pa_cons (pe_ix ix_seq (pv 3) (pv 5) (fun _ _ => rfl)) (pa_cons (pe_ix ix_seq (pv 4) (pv 5) (fun _ _ => rfl)) pa_nil))))) pa_nil))))))))))))) (pss_one (ps_ret pe_bl)))) (ss_cons (ss_setM (i := 2) (simn_lst 1 (sima_cons (sim_tup 2 (sima_cons sim_varF (sima_cons sim_varF sima_nil))) sima_nil))) (ss_cons (ss_while (simt_test (sim_op rs_gt (sim_cb cs_len (sima_cons sim_var sima_nil)) sim_int)) (ss_cons (ss_asg sim_pop (g_tup [3, 4])) (ss_if (simt_test (sim_op rs_isN sim_varF sim_non)) (ss_if (simt_test (sim_op rs_notN sim_varF sim_non)) (ss_ret sim_bl) ss_nil) (ss_if (simt_B (sim_isi .bool sim_varF)) (ss_if (simt_or (simt_not (simt_B (sim_isi .bool sim_varF))) (simt_test (sim_op rs_neA sim_varF sim_varF))) (ss_ret sim_bl) ss_nil) (ss_if (simt_B (sim_isi .int sim_varF)) (ss_if (simt_or (simt_not (simt_B (sim_isi .int sim_varF))) (simt_or (simt_B (sim_isi .bool sim_varF)) (simt_test (sim_op rs_neA sim_varF sim_varF)))) (ss_ret sim_bl) ss_nil) (ss_cons (ss_if (simt_or (simt_not (simt_B (sim_isi .tup sim_varF))) (simt_test (sim_op rs_neA (sim_cb cs_len (sima_cons sim_varF sima_nil)) (sim_cb cs_len (sima_cons sim_varF sima_nil))))) (ss_ret sim_bl) ss_nil) (ss_extendA (SimN.fz (simn_lc (simi_rng1 (sim_cb cs_len (sima_cons sim_varF sima_nil))) (g_name 5) simt_yes (sim_tup 2 (sima_cons (sim_op rs_ix sim_varF sim_varF) (sima_cons (sim_op rs_ix sim_varF sim_varF) sima_nil)))))))))))) (ss_ret sim_bl))) wp__law_same
theorem ok__law_same (T : Top K mg) : Ok P w K mg base "_law_same" s__law_same ["told", "due"] [false, false] 1 sp__law_sm := ok_of T.t__law_same fun _ _ F => fo__law_same T F
theorem fo__law_letters (T : Top K mg) {f : Addr} {fd : FuncData} (F : Fun K "_law_letters" "_law_letters" s__law_letters f fd) : FnOk P w K mg base (L2N.CX P w) 2 f fd ["reel"] (spOf K [true] sp__law_letters) := by
  obtain ⟨f__law_roll, fd__law_roll, G__law_roll⟩ := ok__law_roll (P := P) (w := w) (base := base) T
  refine fn_ok [true] sp__law_letters F sc__law_letters rfl (fun cdv A outer s H E hr => ?_)
  have nd := sc__law_letters.nd
  have hu := hr.units
  have tk : L2N.Takes (cxOf (L2N.CX P w) P w K mg base ["reel", "signs", "k"] "_law_letters" (defScope s__law_letters) f cdv A outer s H E) (fun cls d _ H => E cls d H) := L2N.takes_of rfl rfl rfl rfl
  exact bd_mk (t := m__law_letters) (pss_cons (ps_set (i := 1) nd rfl (by first | exact Or.inl rfl | exact Or.inr rfl) pe_str) (pss_cons (ps_set (i := 1) nd rfl (by first | exact Or.inl rfl | exact Or.inr rfl) (pe_op op_addA (pv 1) pe_str)) (pss_one (ps_ret (pe_lc (own := [("k", 2)]) (g := (gName 2)) rfl nd (pi_range1 rfl T.n_range (pa_cons (pe_op op_addA pe_int (pe_callS G__law_roll.2.2.2.2 (hr.mono (by first | decide | omega)) rfl G__law_roll.1 G__law_roll.2.1 G__law_roll.2.2.1 (fun σ => L2N.passAt tk σ) (pa_cons (pv 0) (pa_cons pe_int pa_nil)))) pa_nil)) (blkOk_by (N := ["reel", "signs", "k"]) (sc := defScope s__law_letters) (by decide +kernel)) (fun _ _ _ _ _ => (pg_name (i := 2) nd rfl (by first | exact Or.inl rfl | exact Or.inr rfl))) (fun _ _ _ _ _ => pts_nil) (fun _ _ _ _ _ => (pe_ix ix_seq (pv 1) (pe_callS G__law_roll.2.2.2.2 (hr.mono (by first | decide | omega)) rfl G__law_roll.1 G__law_roll.2.1 G__law_roll.2.2.1 (fun σ => L2N.passAt takes0N σ) (pa_cons (pv 0) (pa_cons pe_int pa_nil))) (fun _ _ => rfl)))))))) (ss_cons (ss_asg (sim_str [32, 33, 34, 35, 36, 38, 39, 40, 41, 42, 43, 44, 45, 46, 47, 48, 49, 50, 51, 52, 53, 54, 55, 56, 57, 58, 59, 60, 61, 62, 63, 64, 65, 66, 67, 68, 69, 70, 71, 72, 73, 74, 75, 76, 77, 78, 79, 80, 81, 82, 83, 84, 85, 86, 87, 88, 89, 90, 91, 92, 93, 94, 95, 96] (by decide +kernel) (by decide)) (g_name 1)) (ss_cons (ss_asg (sim_op rs_add sim_varF (sim_str [97, 98, 99, 100, 101, 102, 103, 104, 105, 106, 107, 108, 109, 110, 111, 112, 113, 114, 115, 116, 117, 118, 119, 120, 121, 122, 123, 124, 125, 126] (by decide +kernel) (by decide))) (g_name 1)) (ss_ret (SimN.fz (simn_lc (simi_rng1 (sim_op rs_add sim_int (sim_call (simc_ref (simc_val sim_int simc_nil))))) (g_name 2) simt_yes (sim_op rs_ix sim_varF (sim_call (simc_ref (simc_val sim_int simc_nil))))))))) wp__law_letters
theorem ok__law_letters (T : Top K mg) : Ok P w K mg base "_law_letters" s__law_letters ["reel"] [true] 2 sp__law_letters := ok_of T.t__law_letters fun _ _ F => fo__law_letters T F
theorem fo__law_word (T : Top K mg) {f : Addr} {fd : FuncData} (F : Fun K "_law_word" "_law_word" s__law_word f fd) : FnOk P w K mg base (L2N.CX P w) 2 f fd ["reel", "letters", "size"] (spOf K [true, false, false] sp__law_word) := by
  obtain ⟨f__law_roll, fd__law_roll, G__law_roll⟩ := ok__law_roll (P := P) (w := w) (base := base) T
  refine fn_ok [true, false, false] sp__law_word F sc__law_word rfl (fun cdv A outer s H E hr => ?_)
  have nd := sc__law_word.nd
  have hu := hr.units
  have tk : L2N.Takes (cxOf (L2N.CX P w) P w K mg base ["reel", "letters", "size", "k"] "_law_word" (defScope s__law_word) f cdv A outer s H E) (fun cls d _ H => E cls d H) := L2N.takes_of rfl rfl rfl rfl
  exact bd_mk (t := m__law_word) (pss_one (ps_ret (pe_join pe_str (pe_lc (own := [("k", 3)]) (g := (gName 3)) rfl nd (pi_range1 rfl T.n_range (pa_cons (pv 2) pa_nil)) (blkOk_by (N := ["reel", "letters", "size", "k"]) (sc := defScope s__law_word) (by decide +kernel)) (fun _ _ _ _ _ => (pg_name (i := 3) nd rfl (by first | exact Or.inl rfl | exact Or.inr rfl))) (fun _ _ _ _ _ => pts_nil) (fun _ _ _ _ _ => (pe_ix ix_seq (pv 1) (pe_callS G__law_roll.2.2.2.2 (hr.mono (by first | decide | omega)) rfl G__law_roll.1 G__law_roll.2.1 G__law_roll.2.2.1 (fun σ => L2N.passAt takes0N σ) (pa_cons (pv 0) (pa_cons (pe_callB call_lenA (by rfl) T.n_len PySem.boot_len (pa_cons (pv 1) pa_nil)) pa_nil))) (fun _ _ => rfl))))))) (ss_ret (sim_join (sim_str [] (by decide +kernel) (by decide)) (SimN.fz (simn_lc (simi_rng1 sim_varF) (g_name 3) simt_yes (sim_op rs_ix sim_varF (sim_call (simc_ref (simc_val (sim_cb cs_len (sima_cons sim_varF sima_nil)) simc_nil)))))))) wp__law_word
theorem ok__law_word (T : Top K mg) : Ok P w K mg base "_law_word" s__law_word ["reel", "letters", "size"] [true, false, false] 2 sp__law_word := ok_of T.t__law_word fun _ _ F => fo__law_word T F
theorem fo__law_new (T : Top K mg) {f : Addr} {fd : FuncData} (F : Fun K "_law_new" "_law_new" s__law_new f fd) : FnOk P w K mg base (L2N.CX P w) 2 f fd ["reel", "letters", "elders", "size"] (spOf K [true, false, false, false] sp__law_new) := by
  obtain ⟨f__law_roll, fd__law_roll, G__law_roll⟩ := ok__law_roll (P := P) (w := w) (base := base) T
  refine fn_ok [true, false, false, false] sp__law_new F sc__law_new rfl (fun cdv A outer s H E hr => ?_)
  have nd := sc__law_new.nd
  have hu := hr.units
  have tk : L2N.Takes (cxOf (L2N.CX P w) P w K mg base ["reel", "letters", "elders", "size", "text", "lap", "way", "given", "first", "part"] "_law_new" (defScope s__law_new) f cdv A outer s H E) (fun cls d _ H => E cls d H) := L2N.takes_of rfl rfl rfl rfl
  exact bd_mk (t := m__law_new) (pss_cons (ps_set (i := 4) nd rfl (by first | exact Or.inl rfl | exact Or.inr rfl) pe_str) (pss_cons (ps_for (passes_of rfl) rfl (pi_range1 rfl T.n_range (pa_cons (pv 3) pa_nil)) (pg_name (i := 5) nd rfl (by first | exact Or.inl rfl | exact Or.inr rfl)) (pss_cons (ps_if (pt_cmpR (op_geA) (pe_callB call_lenA (by rfl) T.n_len PySem.boot_len (pa_cons (pv 4) pa_nil)) (pv 3) (nomark _)) (pss_one ps_break) pss_nil) (pss_cons (ps_set (i := 6) nd rfl (by first | exact Or.inl rfl | exact Or.inr rfl) (pe_callS G__law_roll.2.2.2.2 (hr.mono (by first | decide | omega)) rfl G__law_roll.1 G__law_roll.2.1 G__law_roll.2.2.1 (fun σ => L2N.passAt tk σ) (pa_cons (pv 0) (pa_cons pe_int pa_nil)))) (pss_cons (ps_set (i := 7) nd rfl (by first | exact Or.inl rfl | exact Or.inr rfl) (pe_ifExp (PW.pt (pw_or (pt_cmpR (op_eqX hu) (pv 6) pe_int (nomark _)) (pw_or1 (pt_cmpR (op_eqX hu) (pe_callB call_lenA (by rfl) T.n_len PySem.boot_len (pa_cons (pv 2) pa_nil)) pe_int (nomark _))))) (pv 4) (pe_ix ix_seq (pv 2) (pe_callS G__law_roll.2.2.2.2 (hr.mono (by first | decide | omega)) rfl G__law_roll.1 G__law_roll.2.1 G__law_roll.2.2.1 (fun σ => L2N.passAt tk σ) (pa_cons (pv 0) (pa_cons (pe_callB call_lenA (by rfl) T.n_len PySem.boot_len (pa_cons (pv 2) pa_nil)) pa_nil))) (fun _ _ => rfl)))) (pss_one (ps_if (PW.pt (pw_and (pt_cmpR (op_ltA) (pv 6) pe_int (nomark _)) (pw_and1 (pt_cmpR (op_gtA) (pe_callB call_lenA (by rfl) T.n_len PySem.boot_len (pa_cons (pv 7) pa_nil)) pe_int (nomark _))))) (pss_cons (ps_set (i := 8) nd rfl (by first | exact Or.inl rfl | exact Or.inr rfl) (pe_callS G__law_roll.2.2.2.2 (hr.mono (by first | decide | omega)) rfl G__law_roll.1 G__law_roll.2.1 G__law_roll.2.2.1 (fun σ => L2N.passAt tk σ) (pa_cons (pv 0) (pa_cons (pe_callB call_lenA (by rfl) T.n_len PySem.boot_len (pa_cons (pv 7) pa_nil)) pa_nil)))) (pss_cons (ps_set (i := 9) nd rfl (by first | exact Or.inl rfl | exact Or.inr rfl) (pe_slice sl_any (pv 7) (po_some (pv 8)) (po_some (pe_op op_addA (pe_op op_addA (pv 8) pe_int) (pe_callS G__law_roll.2.2.2.2 (hr.mono (by first | decide | omega)) rfl G__law_roll.1 G__law_roll.2.1 G__law_roll.2.2.1 (fun σ => L2N.passAt tk σ) (pa_cons (pv 0) (pa_cons pe_int pa_nil))))))) (pss_one (ps_set (i := 4) nd rfl (by first | exact Or.inl rfl | exact Or.inr rfl) (pe_op op_addA (pv 4) (pe_ifExp (pt_cmpR (op_eqX hu) (pe_callS G__law_roll.2.2.2.2 (hr.mono (by first | decide | omega)) rfl G__law_roll.1 G__law_roll.2.1 G__law_roll.2.2.1 (fun σ => L2N.passAt tk σ) (pa_cons (pv 0) (pa_cons pe_int pa_nil))) pe_int (nomark _)) (pe_rev (pv 9)) (pv 9))))))) (pss_one (ps_set (i := 4) nd rfl (by first | exact Or.inl rfl | exact Or.inr rfl) (pe_op op_addA (pv 4) (pe_ix ix_seq (pv 1) (pe_callS G__law_roll.2.2.2.2 (hr.mono (by first | decide | omega)) rfl G__law_roll.1 G__law_roll.2.1 G__law_roll.2.2.1 (fun σ => L2N.passAt tk σ) (pa_cons (pv 0) (pa_cons (pe_callB call_lenA (by rfl) T.n_len PySem.boot_len (pa_cons (pv 1) pa_nil)) pa_nil))) (fun _ _ => rfl))))))))))) (pss_one (ps_ret (pe_slice sl_any (pv 4) po_none (po_some (pv 3))))))) (ss_cons (ss_asg (sim_str [] (by decide +kernel) (by decide)) (g_name 4)) (ss_cons (ss_for (simi_rng1 sim_varF) (g_name 5) (ss_cons (ss_if (simt_test (sim_op rs_ge (sim_cb cs_len (sima_cons sim_varF sima_nil)) sim_varF)) ss_brk ss_nil) (ss_cons (ss_asg (sim_call (simc_ref (simc_val sim_int simc_nil))) (g_name 6)) (ss_cons (ss_asg (sim_ifE (simt_or (simt_test (sim_op rs_eqA sim_varF sim_int)) (simt_test (sim_op rs_eqA (sim_cb cs_len (sima_cons sim_varF sima_nil)) sim_int))) sim_varF (sim_op rs_ix sim_varF (sim_call (simc_ref (simc_val (sim_cb cs_len (sima_cons sim_varF sima_nil)) simc_nil))))) (g_name 7)) (ss_if (simt_and (simt_test (sim_op rs_lt sim_varF sim_int)) (simt_test (sim_op rs_gt (sim_cb cs_len (sima_cons sim_varF sima_nil)) sim_int))) (ss_cons (ss_asg (sim_call (simc_ref (simc_val (sim_cb cs_len (sima_cons sim_varF sima_nil)) simc_nil))) (g_name 8)) (ss_cons (ss_asg (sim_sl sim_varF (sim_part sim_varF) (sim_part (sim_op rs_add (sim_op rs_add sim_varF sim_int) (sim_call (simc_ref (simc_val sim_int simc_nil)))))) (g_name 9)) (ss_asg (sim_op rs_add sim_varF (sim_ifE (simt_test (sim_op rs_eqA (sim_call (simc_ref (simc_val sim_int simc_nil))) sim_int)) (sim_rev sim_varF) sim_varF)) (g_name 4)))) (ss_asg (sim_op rs_add sim_varF (sim_op rs_ix sim_varF (sim_call (simc_ref (simc_val (sim_cb cs_len (sima_cons sim_varF sima_nil)) simc_nil))))) (g_name 4))))))) (ss_ret (sim_sl sim_varF sim_no (sim_part sim_varF))))) wp__law_new
theorem ok__law_new (T : Top K mg) : Ok P w K mg base "_law_new" s__law_new ["reel", "letters", "elders", "size"] [true, false, false, false] 2 sp__law_new := ok_of T.t__law_new fun _ _ F => fo__law_new T F
theorem fo__law_rule (T : Top K mg) {f : Addr} {fd : FuncData} (F : Fun K "_law_rule" "_law_rule" s__law_rule f fd) : FnOk P w K mg base (L2N.CX P w) 2 f fd ["reel", "elders"] (spOf K [true, false] sp__law_rule) := by
  obtain ⟨f__law_roll, fd__law_roll, G__law_roll⟩ := ok__law_roll (P := P) (w := w) (base := base) T
  refine fn_ok [true, false] sp__law_rule F sc__law_rule rfl (fun cdv A outer s H E hr => ?_)
  have nd := sc__law_rule.nd
  have hu := hr.units
  have tk : L2N.Takes (cxOf (L2N.CX P w) P w K mg base ["reel", "elders", "most", "turned", "wide"] "_law_rule" (defScope s__law_rule) f cdv A outer s H E) (fun cls d _ H => E cls d H) := L2N.takes_of rfl rfl rfl rfl
  exact bd_mk (t := m__law_rule) (pss_cons (ps_set (i := 2) nd rfl (by first | exact Or.inl rfl | exact Or.inr rfl) (pe_ix ix_seq (pe_lst (pa_cons pe_int (pa_cons (pe_op op_addA pe_int (pe_callS G__law_roll.2.2.2.2 (hr.mono (by first | decide | omega)) rfl G__law_roll.1 G__law_roll.2.1 G__law_roll.2.2.1 (fun σ => L2N.passAt tk σ) (pa_cons (pv 0) (pa_cons pe_int pa_nil)))) pa_nil))) (pe_callS G__law_roll.2.2.2.2 (hr.mono (by first | decide | omega)) rfl G__law_roll.1 G__law_roll.2.1 G__law_roll.2.2.1 (fun σ => L2N.passAt tk σ) (pa_cons (pv 0) (pa_cons pe_int pa_nil))) (fun _ _ => rfl))) (pss_cons (ps_set (i := 3) nd rfl (by first | exact Or.inl rfl | exact Or.inr rfl) (pe_cmpR (op_eqX hu) (pe_callS G__law_roll.2.2.2.2 (hr.mono (by first | decide | omega)) rfl G__law_roll.1 G__law_roll.2.1 G__law_roll.2.2.1 (fun σ => L2N.passAt tk σ) (pa_cons (pv 0) (pa_cons pe_int pa_nil))) pe_int (nomark _))) (pss_cons (ps_if (PW.pt (pw_and (pt_cmpR (op_gtA) (pe_callB call_lenA (by rfl) T.n_len PySem.boot_len (pa_cons (pv 1) pa_nil)) pe_int (nomark _)) (pw_and1 (pt_cmpR (op_eqX hu) (pe_callS G__law_roll.2.2.2.2 (hr.mono (by first | decide | omega)) rfl G__law_roll.1 G__law_roll.2.1 G__law_roll.2.2.1 (fun σ => L2N.passAt tk σ) (pa_cons (pv 0) (pa_cons pe_int pa_nil))) pe_int (nomark _))))) (pss_one (ps_ret (pe_tup (pa_cons pe_str (pa_cons (pe_callS G__law_roll.2.2.2.2 (hr.mono (by first | decide | omega)) rfl G__law_roll.1 G__law_roll.2.1 G__law_roll.2.2.1 (fun σ => L2N.passAt tk σ) (pa_cons (pv 0) (pa_cons (pe_callB call_lenA (by rfl) T.n_len PySem.boot_len (pa_cons (pv 1) pa_nil)) pa_nil))) (pa_cons (pv 3) (pa_cons (pv 2) pa_nil))))))) pss_nil) (pss_cons (ps_set (i := 4) nd rfl (by first | exact Or.inl rfl | exact Or.inr rfl) (pe_ix ix_seq (pe_lst (pa_cons pe_int (pa_cons (pe_op op_addA pe_int (pe_callS G__law_roll.2.2.2.2 (hr.mono (by first | decide | omega)) rfl G__law_roll.1 G__law_roll.2.1 G__law_roll.2.2.1 (fun σ => L2N.passAt tk σ) (pa_cons (pv 0) (pa_cons pe_int pa_nil)))) pa_nil))) (pe_callS G__law_roll.2.2.2.2 (hr.mono (by first | decide | omega)) rfl G__law_roll.1 G__law_roll.2.1 G__law_roll.2.2.1 (fun σ => L2N.passAt tk σ) (pa_cons (pv 0) (pa_cons pe_int pa_nil))) (fun _ _ => rfl))) (pss_one (ps_ret (pe_tup (pa_cons pe_str (pa_cons (pv 4) (pa_cons (pe_cmpR (op_eqX hu) (pe_callS G__law_roll.2.2.2.2 (hr.mono (by first | decide | omega)) rfl G__law_roll.1 G__law_roll.2.1 G__law_roll.2.2.1 (fun σ => L2N.passAt tk σ) (pa_cons (pv 0) (pa_cons pe_int pa_nil))) pe_int (nomark _)) (pa_cons (pv 3) (pa_cons (pv 2) pa_nil)))))))))))) (ss_cut (ss_asg (sim_op rs_ix (sim_lst 2 (sima_cons sim_int (sima_cons (sim_op rs_add sim_int (sim_call (simc_ref (simc_val sim_int simc_nil)))) sima_nil))) (sim_call (simc_ref (simc_val sim_int simc_nil)))) (g_name 2)) (ss_cut (ss_asg (sim_op rs_eqA (sim_call (simc_ref (simc_val sim_int simc_nil))) sim_int) (g_name 3)) (ss_cut (ss_if (simt_and (simt_test (sim_op rs_gt (sim_cb cs_len (sima_cons sim_varF sima_nil)) sim_int)) (simt_test (sim_op rs_eqA (sim_call (simc_ref (simc_val sim_int simc_nil))) sim_int))) (ss_ret (sim_tup 4 (sima_cons (sim_str [101, 108, 100, 101, 114] (by decide +kernel) (by decide)) (sima_cons (sim_call (simc_ref (simc_val (sim_cb cs_len (sima_cons sim_varF sima_nil)) simc_nil))) (sima_cons sim_varF (sima_cons sim_varF sima_nil)))))) ss_nil) (ss_cut (ss_asg (sim_op rs_ix (sim_lst 2 (sima_cons sim_int (sima_cons (sim_op rs_add sim_int (sim_call (simc_ref (simc_val sim_int simc_nil)))) sima_nil))) (sim_call (simc_ref (simc_val sim_int simc_nil)))) (g_name 4)) (ss_ret (sim_tup 5 (sima_cons (sim_str [98, 97, 99, 107] (by decide +kernel) (by decide)) (sima_cons sim_varF (sima_cons (sim_op rs_eqA (sim_call (simc_ref (simc_val sim_int simc_nil))) sim_int) (sima_cons sim_varF (sima_cons sim_varF sima_nil))))))))))) wp__law_rule
theorem ok__law_rule (T : Top K mg) : Ok P w K mg base "_law_rule" s__law_rule ["reel", "elders"] [true, false] 2 sp__law_rule := ok_of T.t__law_rule fun _ _ F => fo__law_rule T F
theorem fo__law_case (T : Top K mg) {f : Addr} {fd : FuncData} (F : Fun K "_law_case" "_law_case" s__law_case f fd) : FnOk P w K mg base (L2N.CX P w) 3 f fd ["reel", "long"] (spOf K [true, false] sp__law_case) := by
  obtain ⟨f__law_letters, fd__law_letters, G__law_letters⟩ := ok__law_letters (P := P) (w := w) (base := base) T
  obtain ⟨f__law_roll, fd__law_roll, G__law_roll⟩ := ok__law_roll (P := P) (w := w) (base := base) T
  obtain ⟨f__law_word, fd__law_word, G__law_word⟩ := ok__law_word (P := P) (w := w) (base := base) T
  obtain ⟨f__law_rule, fd__law_rule, G__law_rule⟩ := ok__law_rule (P := P) (w := w) (base := base) T
  obtain ⟨f__law_new, fd__law_new, G__law_new⟩ := ok__law_new (P := P) (w := w) (base := base) T
  refine fn_ok [true, false] sp__law_case F sc__law_case rfl (fun cdv A outer s H E hr => ?_)
  have nd := sc__law_case.nd
  have hu := hr.units
  have tk : L2N.Takes (cxOf (L2N.CX P w) P w K mg base ["reel", "long", "letters", "elders", "rules", "k"] "_law_case" (defScope s__law_case) f cdv A outer s H E) (fun cls d _ H => E cls d H) := L2N.takes_of rfl rfl rfl rfl
  exact bd_mk (t := m__law_case) (pss_cons (ps_set (i := 2) nd rfl (by first | exact Or.inl rfl | exact Or.inr rfl) (pe_callS G__law_letters.2.2.2.2 (hr.mono (by first | decide | omega)) rfl G__law_letters.1 G__law_letters.2.1 G__law_letters.2.2.1 (fun σ => L2N.passAt tk σ) (pa_cons (pv 0) pa_nil))) (pss_cons (ps_set (i := 3) nd rfl (by first | exact Or.inl rfl | exact Or.inr rfl) (pe_callTy call_tuple_of (by rfl) T.n_tuple (by decide +kernel) (pa_cons (pe_lc (own := [("k", 5)]) (g := (gName 5)) rfl nd (pi_range1 rfl T.n_range (pa_cons (pe_callS G__law_roll.2.2.2.2 (hr.mono (by first | decide | omega)) rfl G__law_roll.1 G__law_roll.2.1 G__law_roll.2.2.1 (fun σ => L2N.passAt tk σ) (pa_cons (pv 0) (pa_cons pe_int pa_nil))) pa_nil)) (blkOk_by (N := ["reel", "long", "letters", "elders", "rules", "k"]) (sc := defScope s__law_case) (by decide +kernel)) (fun _ _ _ _ _ => (pg_name (i := 5) nd rfl (by first | exact Or.inl rfl | exact Or.inr rfl))) (fun _ _ _ _ _ => pts_nil) (fun _ _ _ _ _ => (pe_callS G__law_word.2.2.2.2 (hr.mono (by first | decide | omega)) rfl G__law_word.1 G__law_word.2.1 G__law_word.2.2.1 (fun σ => L2N.passAt takes0N σ) (pa_cons (pv 0) (pa_cons (pv 2) (pa_cons (pe_callS G__law_roll.2.2.2.2 (hr.mono (by first | decide | omega)) rfl G__law_roll.1 G__law_roll.2.1 G__law_roll.2.2.1 (fun σ => L2N.passAt takes0N σ) (pa_cons (pv 0) (pa_cons pe_int pa_nil))) pa_nil)))))) pa_nil))) (pss_cons (ps_set (i := 4) nd rfl (by first | exact Or.inl rfl | exact Or.inr rfl) (pe_callTy call_tuple_of (by rfl) T.n_tuple (by decide +kernel) (pa_cons (pe_lc (own := [("k", 5)]) (g := (gName 5)) rfl nd (pi_range1 rfl T.n_range (pa_cons (pe_callS G__law_roll.2.2.2.2 (hr.mono (by first | decide | omega)) rfl G__law_roll.1 G__law_roll.2.1 G__law_roll.2.2.1 (fun σ => L2N.passAt tk σ) (pa_cons (pv 0) (pa_cons (pe_ifExp (pt_val (pv 1)) pe_int pe_int) pa_nil))) pa_nil)) (blkOk_by (N := ["reel", "long", "letters", "elders", "rules", "k"]) (sc := defScope s__law_case) (by decide +kernel)) (fun _ _ _ _ _ => (pg_name (i := 5) nd rfl (by first | exact Or.inl rfl | exact Or.inr rfl))) (fun _ _ _ _ _ => pts_nil) (fun _ _ _ _ _ => (pe_callS G__law_rule.2.2.2.2 (hr.mono (by first | decide | omega)) rfl G__law_rule.1 G__law_rule.2.1 G__law_rule.2.2.1 (fun σ => L2N.passAt takes0N σ) (pa_cons (pv 0) (pa_cons (pv 3) pa_nil))))) pa_nil))) (pss_one (ps_ret (pe_tup (pa_cons (pv 3) (pa_cons (pv 4) (pa_cons (pe_callS G__law_new.2.2.2.2 (hr.mono (by first | decide | omega)) rfl G__law_new.1 G__law_new.2.1 G__law_new.2.2.1 (fun σ => L2N.passAt tk σ) (pa_cons (pv 0) (pa_cons (pv 2) (pa_cons (pv 3) (pa_cons (pe_callS G__law_roll.2.2.2.2 (hr.mono (by first | decide | omega)) rfl G__law_roll.1 G__law_roll.2.1 G__law_roll.2.2.1 (fun σ => L2N.passAt tk σ) (pa_cons (pv 0) (pa_cons (pe_ifExp (pt_val (pv 1)) pe_int pe_int) pa_nil))) pa_nil))))) pa_nil))))))))) (ss_cut (ss_asg (sim_call (simc_ref simc_nil)) (g_name 2)) (ss_cut (ss_asg (sim_cb cs_tuple (sima_cons (SimN.fz (simn_lc (simi_rng1 (sim_call (simc_ref (simc_val sim_int simc_nil)))) (g_name 5) simt_yes (sim_call (simc_ref (simc_val sim_varF (simc_val (sim_call (simc_ref (simc_val sim_int simc_nil))) simc_nil)))))) sima_nil)) (g_name 3)) (ss_cut (ss_asg (sim_cb cs_tuple (sima_cons (SimN.fz (simn_lc (simi_rng1 (sim_call (simc_ref (simc_val (sim_ifE (simt_B sim_varF) sim_int sim_int) simc_nil)))) (g_name 5) simt_yes (sim_call (simc_ref (simc_val sim_varF simc_nil))))) sima_nil)) (g_name 4)) (ss_ret (sim_tup 3 (sima_cons sim_varF (sima_cons sim_varF (sima_cons (sim_call (simc_ref (simc_val sim_varF (simc_val sim_varF (simc_val (sim_call (simc_ref (simc_val (sim_ifE (simt_B sim_varF) sim_int sim_int) simc_nil))) simc_nil))))) sima_nil)))))))) wp__law_case
theorem ok__law_case (T : Top K mg) : Ok P w K mg base "_law_case" s__law_case ["reel", "long"] [true, false] 3 sp__law_case := ok_of T.t__law_case fun _ _ F => fo__law_case T F
theorem fo__law_sourced (T : Top K mg) {f : Addr} {fd : FuncData} (F : Fun K "_law_sourced" "_law_sourced" s__law_sourced f fd) : FnOk P w K mg base (L2N.CX P w) 1 f fd ["case", "rule", "i", "j", "at"] (spOf K [false, false, false, false, false] sp__law_sourced) := by
  refine fn_ok [false, false, false, false, false] sp__law_sourced F sc__law_sourced rfl (fun cdv A outer s H E hr => ?_)
  have nd := sc__law_sourced.nd
  have hu := hr.units
  have tk : L2N.Takes (cxOf (L2N.CX P w) P w K mg base ["case", "rule", "i", "j", "at", "new", "given", "turned", "x", "place"] "_law_sourced" (defScope s__law_sourced) f cdv A outer s H E) (fun cls d _ H => E cls d H) := L2N.takes_of rfl rfl rfl rfl
  exact bd_mk (t := m__law_sourced) (pss_cons (ps_set (i := 5) nd rfl (by first | exact Or.inl rfl | exact Or.inr rfl) (pe_ix ix_seq (pv 0) pe_int (fun _ _ => rfl))) (pss_cons (ps_set (i := 6) nd rfl (by first | exact Or.inl rfl | exact Or.inr rfl) (pe_ifExp (pt_cmpR (op_eqX hu) (pe_ix ix_seq (pv 1) pe_int (fun _ _ => rfl)) pe_str (nomark _)) (pe_ix ix_seq (pe_ix ix_seq (pv 0) pe_int (fun _ _ => rfl)) (pe_ix ix_seq (pv 1) pe_int (fun _ _ => rfl)) (fun _ _ => rfl)) (pv 5))) (pss_cons (ps_set (i := 7) nd rfl (by first | exact Or.inl rfl | exact Or.inr rfl) (pe_ix ix_seq (pv 1) (pe_un un_neg pe_int) (fun _ _ => rfl))) (pss_cons (ps_for (passes_of rfl) rfl (pi_range1 rfl T.n_range (pa_cons (pe_op op_sub (pv 3) (pv 2)) pa_nil)) (pg_name (i := 8) nd rfl (by first | exact Or.inl rfl | exact Or.inr rfl)) (pss_cons (ps_set (i := 9) nd rfl (by first | exact Or.inl rfl | exact Or.inr rfl) (pe_ifExp (pt_val (pv 7)) (pe_op op_sub (pe_op op_sub (pe_op op_addA (pv 4) (pe_op op_sub (pv 3) (pv 2))) pe_int) (pv 8)) (pe_op op_addA (pv 4) (pv 8)))) (pss_cons (ps_if (PW.pt (pw_or (pt_cmpR (op_geA) (pv 9) (pe_callB call_lenA (by rfl) T.n_len PySem.boot_len (pa_cons (pv 6) pa_nil)) (nomark _)) (pw_or1 (pt_cmpR (op_neX hu) (pe_ix ix_seq (pv 6) (pv 9) (fun _ _ => rfl)) (pe_ix ix_seq (pv 5) (pe_op op_addA (pv 2) (pv 8)) (fun _ _ => rfl)) (nomark _))))) (pss_one (ps_ret pe_bl)) pss_nil) (pss_one (ps_if (PW.pt (pw_and (pt_cmpR (op_eqX hu) (pe_ix ix_seq (pv 1) pe_int (fun _ _ => rfl)) pe_str (nomark _)) (pw_and1 (PW.pt (pw_or (pt_cmpR (op_geA) (pv 9) (pe_op op_addA (pv 2) (pv 8)) (nomark _)) (pw_or (pt_cmpR (op_ltA) (pv 9) (pe_op op_sub (pe_op op_addA (pv 2) (pv 8)) (pe_ix ix_seq (pv 1) pe_int (fun _ _ => rfl))) (nomark _)) (pw_or1 (PW.pt (pw_and (pt_val (pe_ix ix_seq (pv 1) pe_int (fun _ _ => rfl))) (pw_and1 (pt_cmpR (op_geA) (pv 9) (pv 2) (nomark _)))))))))))) (pss_one (ps_ret pe_bl)) pss_nil))))) (pss_one (ps_ret pe_bl)))))) (ss_cut (ss_asg (sim_op rs_ix sim_varF sim_int) (g_name 5)) (ss_cut (ss_asg (sim_ifE (simt_test (sim_op rs_eqA (sim_op rs_ix sim_varF sim_int) (sim_str [101, 108, 100, 101, 114] (by decide +kernel) (by decide)))) (sim_op rs_ix (sim_op rs_ix sim_varF sim_int) (sim_op rs_ix sim_varF sim_int)) sim_varF) (g_name 6)) (ss_cut (ss_asg (sim_op rs_ix sim_varF (sim_un us_neg sim_int)) (g_name 7)) (ss_cons (ss_for (simi_rng1 (sim_op rs_sub sim_varF sim_varF)) (g_name 8) (ss_cons (ss_asg (sim_ifE (simt_B sim_varF) (sim_op rs_sub (sim_op rs_sub (sim_op rs_add sim_varF (sim_op rs_sub sim_varF sim_varF)) sim_int) sim_varF) (sim_op rs_add sim_varF sim_varF)) (g_name 9)) (ss_cons (ss_if (simt_or (simt_test (sim_op rs_ge sim_varF (sim_cb cs_len (sima_cons sim_varF sima_nil)))) (simt_test (sim_op rs_neA (sim_op rs_ix sim_varF sim_varF) (sim_op rs_ix sim_varF (sim_op rs_add sim_varF sim_varF))))) (ss_ret sim_bl) ss_nil) (ss_if (simt_and (simt_test (sim_op rs_eqA (sim_op rs_ix sim_varF sim_int) (sim_str [98, 97, 99, 107] (by decide +kernel) (by decide)))) (simt_or (simt_test (sim_op rs_ge sim_varF (sim_op rs_add sim_varF sim_varF))) (simt_or (simt_test (sim_op rs_lt sim_varF (sim_op rs_sub (sim_op rs_add sim_varF sim_varF) (sim_op rs_ix sim_varF sim_int)))) (simt_and (simt_B (sim_op rs_ix sim_varF sim_int)) (simt_test (sim_op rs_ge sim_varF sim_varF)))))) (ss_ret sim_bl) ss_nil)))) (ss_ret sim_bl))))) wp__law_sourced
theorem ok__law_sourced (T : Top K mg) : Ok P w K mg base "_law_sourced" s__law_sourced ["case", "rule", "i", "j", "at"] [false, false, false, false, false] 1 sp__law_sourced := ok_of T.t__law_sourced fun _ _ F => fo__law_sourced T F
theorem fo__law_heard (T : Top K mg) {f : Addr} {fd : FuncData} (F : Fun K "_law_heard" "_law_heard" s__law_heard f fd) : FnOk P w K mg base (L2N.CX P w) 2 f fd ["case", "i", "j"] (spOf K [false, false, false] sp__law_heard) := by
  obtain ⟨f__law_sourced, fd__law_sourced, G__law_sourced⟩ := ok__law_sourced (P := P) (w := w) (base := base) T
  refine fn_ok [false, false, false] sp__law_heard F sc__law_heard rfl (fun cdv A outer s H E hr => ?_)
  have nd := sc__law_heard.nd
  have hu := hr.units
  have tk : L2N.Takes (cxOf (L2N.CX P w) P w K mg base ["case", "i", "j", "rule", "given", "at"] "_law_heard" (defScope s__law_heard) f cdv A outer s H E) (fun cls d _ H => E cls d H) := L2N.takes_of rfl rfl rfl rfl
  exact bd_mk (t := m__law_heard) (pss_cons (ps_if (pt_cmpR (op_eqX hu) (pe_op op_sub (pv 2) (pv 1)) pe_int (nomark _)) (pss_one (ps_ret pe_bl)) pss_nil) (pss_cons (ps_for (passes_of rfl) rfl (pi_any (pe_ix ix_seq (pv 0) pe_int (fun _ _ => rfl))) (pg_name (i := 3) nd rfl (by first | exact Or.inl rfl | exact Or.inr rfl)) (pss_one (ps_if (pt_cmpR (op_leA) (pe_op op_sub (pv 2) (pv 1)) (pe_ix ix_seq (pv 3) (pe_un un_neg pe_int) (fun _ _ => rfl)) (nomark _)) (pss_cons (ps_set (i := 4) nd rfl (by first | exact Or.inl rfl | exact Or.inr rfl) (pe_ifExp (pt_cmpR (op_eqX hu) (pe_ix ix_seq (pv 3) pe_int (fun _ _ => rfl)) pe_str (nomark _)) (pe_ix ix_seq (pe_ix ix_seq (pv 0) pe_int (fun _ _ => rfl)) (pe_ix ix_seq (pv 3) pe_int (fun _ _ => rfl)) (fun _ _ => rfl)) (pe_ix ix_seq (pv 0) pe_int (fun _ _ => rfl)))) (pss_one (ps_for (passes_of rfl) rfl (pi_range1 rfl T.n_range (pa_cons (pe_callB call_lenA (by rfl) T.n_len PySem.boot_len (pa_cons (pv 4) pa_nil)) pa_nil)) (pg_name (i := 5) nd rfl (by first | exact Or.inl rfl | exact Or.inr rfl)) (pss_one (ps_if (pt_val (pe_callS G__law_sourced.2.2.2.2 (hr.mono (by first | decide | omega)) rfl G__law_sourced.1 G__law_sourced.2.1 G__law_sourced.2.2.1 (fun σ => L2N.passAt tk σ) (pa_cons (pv 0) (pa_cons (pv 3) (pa_cons (pv 1) (pa_cons (pv 2) (pa_cons (pv 5) pa_nil))))))) (pss_one (ps_ret pe_bl)) pss_nil))))) pss_nil))) (pss_one (ps_ret pe_bl)))) (ss_cons (ss_if (simt_test (sim_op rs_eqA (sim_op rs_sub sim_varF sim_varF) sim_int)) (ss_ret sim_bl) ss_nil) (ss_cons (ss_for (simi_any (sim_op rs_ix sim_varF sim_int)) (g_name 3) (ss_if (simt_test (sim_op rs_le (sim_op rs_sub sim_varF sim_varF) (sim_op rs_ix sim_varF (sim_un us_neg sim_int)))) (ss_cons (ss_asg (sim_ifE (simt_test (sim_op rs_eqA (sim_op rs_ix sim_varF sim_int) (sim_str [101, 108, 100, 101, 114] (by decide +kernel) (by decide)))) (sim_op rs_ix (sim_op rs_ix sim_varF sim_int) (sim_op rs_ix sim_varF sim_int)) (sim_op rs_ix sim_varF sim_int)) (g_name 4)) (ss_for (simi_rng1 (sim_cb cs_len (sima_cons sim_varF sima_nil))) (g_name 5) (ss_if (simt_B (sim_call0 (sima_cons sim_varF (sima_cons sim_varF (sima_cons sim_varF (sima_cons sim_varF (sima_cons sim_varF sima_nil))))))) (ss_ret sim_bl) ss_nil))) ss_nil)) (ss_ret sim_bl))) wp__law_heard
theorem ok__law_heard (T : Top K mg) : Ok P w K mg base "_law_heard" s__law_heard ["case", "i", "j"] [false, false, false] 2 sp__law_heard := ok_of T.t__law_heard fun _ _ F => fo__law_heard T F
theorem fo__law_reach (T : Top K mg) {f : Addr} {fd : FuncData} (F : Fun K "_law_reach" "_law_reach" s__law_reach f fd) : FnOk P w K mg base (L2N.CX P w) 3 f fd ["case"] (spOf K [false] sp__law_reach) := by
  obtain ⟨f__law_heard, fd__law_heard, G__law_heard⟩ := ok__law_heard (P := P) (w := w) (base := base) T
  refine fn_ok [false] sp__law_reach F sc__law_reach rfl (fun cdv A outer s H E hr => ?_)
  have nd := sc__law_reach.nd
  have hu := hr.units
  have tk : L2N.Takes (cxOf (L2N.CX P w) P w K mg base ["case", "told", "i", "j"] "_law_reach" (defScope s__law_reach) f cdv A outer s H E) (fun cls d _ H => E cls d H) := L2N.takes_of rfl rfl rfl rfl
  exact bd_mk (t := m__law_reach) (pss_cons (ps_set (i := 1) nd rfl (by first | exact Or.inl rfl | exact Or.inr rfl) (pe_lst pa_nil)) (pss_cons (ps_for (passes_of rfl) rfl (pi_range1 rfl T.n_range (pa_cons (pe_callB call_lenA (by rfl) T.n_len PySem.boot_len (pa_cons (pe_ix ix_seq (pv 0) pe_int (fun _ _ => rfl)) pa_nil)) pa_nil)) (pg_name (i := 2) nd rfl (by first | exact Or.inl rfl | exact Or.inr rfl)) (pss_cons (ps_set (i := 3) nd rfl (by first | exact Or.inl rfl | exact Or.inr rfl) (pe_op op_addA (pv 2) pe_int)) (pss_cons (ps_while (passes_of rfl) (PW.pt (pw_and (pt_cmpR (op_ltA) (pv 3) (pe_callB call_lenA (by rfl) T.n_len PySem.boot_len (pa_cons (pe_ix ix_seq (pv 0) pe_int (fun _ _ => rfl)) pa_nil)) (nomark _)) (pw_and1 (pt_val (pe_callS G__law_heard.2.2.2.2 (hr.mono (by first | decide | omega)) rfl G__law_heard.1 G__law_heard.2.1 G__law_heard.2.2.1 (fun σ => L2N.passAt tk σ) (pa_cons (pv 0) (pa_cons (pv 2) (pa_cons (pe_op op_addA (pv 3) pe_int) pa_nil)))))))) (pss_one (ps_set (i := 3) nd rfl (by first | exact Or.inl rfl | exact Or.inr rfl) (pe_op op_addA (pv 3) pe_int)))) (pss_one (ps_expr (pe_bm PySem.F.plainAttrs_list PySem.F.slot_list_append PySem.F.type_list_append mt_append (pv 1) (pa_cons (pv 3) pa_nil))))))) (pss_one (ps_ret (pv 1))))) (ss_cons (ss_setM (i := 1) (simn_lst 0 sima_nil)) (ss_cons (ss_for (simi_rng1 (sim_cb cs_len (sima_cons (sim_op rs_ix sim_varF sim_int) sima_nil))) (g_name 2) (ss_cons (ss_asg (sim_op rs_add sim_varF sim_int) (g_name 3)) (ss_cons (ss_while (simt_and (simt_test (sim_op rs_lt sim_varF (sim_cb cs_len (sima_cons (sim_op rs_ix sim_varF sim_int) sima_nil)))) (simt_B (sim_call0 (sima_cons sim_varF (sima_cons sim_varF (sima_cons (sim_op rs_add sim_varF sim_int) sima_nil)))))) (ss_asg (sim_op rs_add sim_varF sim_int) (g_name 3))) (ss_append sim_varF)))) ss_retMv)) wp__law_reach
theorem ok__law_reach (T : Top K mg) : Ok P w K mg base "_law_reach" s__law_reach ["case"] [false] 3 sp__law_reach := ok_of T.t__law_reach fun _ _ F => fo__law_reach T F
theorem fo__law_pieces (T : Top K mg) {f : Addr} {fd : FuncData} (F : Fun K "_law_pieces" "_law_pieces" s__law_pieces f fd) : FnOk P w K mg base (L2N.CX P w) 4 f fd ["case"] (spOf K [false] sp__law_pieces) := by
  obtain ⟨f__law_reach, fd__law_reach, G__law_reach⟩ := ok__law_reach (P := P) (w := w) (base := base) T
  refine fn_ok [false] sp__law_pieces F sc__law_pieces rfl (fun cdv A outer s H E hr => ?_)
  have nd := sc__law_pieces.nd
  have hu := hr.units
  have tk : L2N.Takes (cxOf (L2N.CX P w) P w K mg base ["case", "reach", "place", "many"] "_law_pieces" (defScope s__law_pieces) f cdv A outer s H E) (fun cls d _ H => E cls d H) := L2N.takes_of rfl rfl rfl rfl
  exact bd_mk (t := m__law_pieces) (pss_cons (ps_set (i := 1) nd rfl (by first | exact Or.inl rfl | exact Or.inr rfl) (pe_callS G__law_reach.2.2.2.2 (hr.mono (by first | decide | omega)) rfl G__law_reach.1 G__law_reach.2.1 G__law_reach.2.2.1 (fun σ => L2N.passAt tk σ) (pa_cons (pv 0) pa_nil))) (pss_cons (ps_asg (pe_tup (pa_cons pe_int (pa_cons pe_int pa_nil))) (pg_tup rfl (pgs_cons (pg_name (i := 2) nd rfl (by first | exact Or.inl rfl | exact Or.inr rfl)) (pgs_cons (pg_name (i := 3) nd rfl (by first | exact Or.inl rfl | exact Or.inr rfl)) pgs_nil)))) (pss_cons (ps_while (passes_of rfl) (pt_cmpR (op_ltA) (pv 2) (pe_callB call_lenA (by rfl) T.n_len PySem.boot_len (pa_cons (pv 1) pa_nil)) (nomark _)) (pss_cons (ps_set (i := 2) nd rfl (by first | exact Or.inl rfl | exact Or.inr rfl) (pe_ix ix_seq (pv 1) (pv 2) (fun _ _ => rfl))) (pss_one (ps_set (i := 3) nd rfl (by first | exact Or.inl rfl | exact Or.inr rfl) (pe_op op_addA (pv 3) pe_int))))) (pss_one (ps_ret (pv 3)))))) (ss_cons (ss_asg (sim_call0 (sima_cons sim_varF sima_nil)) (g_name 1)) (ss_cons (ss_asg (sim_tup 2 (sima_cons sim_int (sima_cons sim_int sima_nil))) (g_tup [2, 3])) (ss_cons (ss_while (simt_test (sim_op rs_lt sim_varF (sim_cb cs_len (sima_cons sim_varF sima_nil)))) (ss_cons (ss_asg (sim_op rs_ix sim_varF sim_varF) (g_name 2)) (ss_asg (sim_op rs_add sim_varF sim_int) (g_name 3)))) (ss_ret sim_varF)))) wp__law_pieces
theorem ok__law_pieces (T : Top K mg) : Ok P w K mg base "_law_pieces" s__law_pieces ["case"] [false] 4 sp__law_pieces := ok_of T.t__law_pieces fun _ _ F => fo__law_pieces T F
theorem fo__law_with (T : Top K mg) {f : Addr} {fd : FuncData} (F : Fun K "_law_with" "_law_with" s__law_with f fd) : FnOk P w K mg base (L2N.CX P w) 1 f fd ["case", "number", "most", "wide"] (spOf K [false, false, false, false] sp__law_with) := by
  refine fn_ok [false, false, false, false] sp__law_with F sc__law_with rfl (fun cdv A outer s H E hr => ?_)
  have nd := sc__law_with.nd
  have hu := hr.units
  have tk : L2N.Takes (cxOf (L2N.CX P w) P w K mg base ["case", "number", "most", "wide", "rule", "new"] "_law_with" (defScope s__law_with) f cdv A outer s H E) (fun cls d _ H => E cls d H) := L2N.takes_of rfl rfl rfl rfl
  exact bd_mk (t := m__law_with) (pss_cons (ps_set (i := 4) nd rfl (by first | exact Or.inl rfl | exact Or.inr rfl) (pe_ix ix_seq (pe_ix ix_seq (pv 0) pe_int (fun _ _ => rfl)) (pv 1) (fun _ _ => rfl))) (pss_cons (ps_set (i := 5) nd rfl (by first | exact Or.inl rfl | exact Or.inr rfl) (pe_ifExp (pt_cmpR (op_gtA) (pv 2) pe_int (nomark _)) (pe_op op_addA (pe_slice sl_any (pv 4) po_none (po_some (pe_un un_neg pe_int))) (pe_tup (pa_cons (pv 2) pa_nil))) (pv 4))) (pss_cons (ps_set (i := 5) nd rfl (by first | exact Or.inl rfl | exact Or.inr rfl) (pe_ifExp (pt_cmpR (op_gtA) (pv 3) pe_int (nomark _)) (pe_op op_addA (pe_tup (pa_cons (pe_ix ix_seq (pv 5) pe_int (fun _ _ => rfl)) (pa_cons (pv 3) pa_nil))) (pe_slice sl_any (pv 5) (po_some pe_int) po_none)) (pv 5))) (pss_one (ps_ret (pe_tup (pa_cons (pe_ix ix_seq (pv 0) pe_int (fun _ _ => rfl)) (pa_cons (pe_op op_addA (pe_op op_addA (pe_slice sl_any (pe_ix ix_seq (pv 0) pe_int (fun _ _ => rfl)) po_none (po_some (pv 1))) (pe_tup (pa_cons (pv 5) pa_nil))) (pe_slice sl_any (pe_ix ix_seq (pv 0) pe_int (fun _ _ => rfl)) (po_some (pe_op op_addA (pv 1) pe_int)) po_none)) (pa_cons (pe_ix ix_seq (pv 0) pe_int (fun _ _ => rfl)) pa_nil))))))))) (ss_cons (ss_asg (sim_op rs_ix (sim_op rs_ix sim_varF sim_int) sim_varF) (g_name 4)) (ss_cons (ss_asg (sim_ifE (simt_test (sim_op rs_gt sim_varF sim_int)) (sim_op rs_add (sim_sl sim_varF sim_no (sim_part (sim_un us_neg sim_int))) (sim_tup 1 (sima_cons sim_varF sima_nil))) sim_varF) (g_name 5)) (ss_cons (ss_asg (sim_ifE (simt_test (sim_op rs_gt sim_varF sim_int)) (sim_op rs_add (sim_tup 2 (sima_cons (sim_op rs_ix sim_varF sim_int) (sima_cons sim_varF sima_nil))) (sim_sl sim_varF (sim_part sim_int) sim_no)) sim_varF) (g_name 5)) (ss_ret (sim_tup 3 (sima_cons (sim_op rs_ix sim_varF sim_int) (sima_cons (sim_op rs_add (sim_op rs_add (sim_sl (sim_op rs_ix sim_varF sim_int) sim_no (sim_part sim_varF)) (sim_tup 1 (sima_cons sim_varF sima_nil))) (sim_sl (sim_op rs_ix sim_varF sim_int) (sim_part (sim_op rs_add sim_varF sim_int)) sim_no)) (sima_cons (sim_op rs_ix sim_varF sim_int) sima_nil)))))))) wp__law_with
theorem ok__law_with (T : Top K mg) : Ok P w K mg base "_law_with" s__law_with ["case", "number", "most", "wide"] [false, false, false, false] 1 sp__law_with := ok_of T.t__law_with fun _ _ F => fo__law_with T F
theorem fo__law_all_same (T : Top K mg) {f : Addr} {fd : FuncData} (F : Fun K "_law_all_same" "_law_all_same" s__law_all_same f fd) : FnOk P w K mg base (L2N.CX P w) 2 f fd ["told", "due"] (spOf K [false, false] sp__law_all_same) := by
  obtain ⟨f__law_same, fd__law_same, G__law_same⟩ := ok__law_same (P := P) (w := w) (base := base) T
  refine fn_ok [false, false] sp__law_all_same F sc__law_all_same rfl (fun cdv A outer s H E hr => ?_)
  have nd := sc__law_all_same.nd
  have hu := hr.units
  have tk : L2N.Takes (cxOf (L2N.CX P w) P w K mg base ["told", "due", "rest", "one", "two", "k"] "_law_all_same" (defScope s__law_all_same) f cdv A outer s H E) (fun cls d _ H => E cls d H) := L2N.takes_of rfl rfl rfl rfl
  exact bd_mk (t := m__law_all_same) (pss_cons (ps_set (i := 2) nd rfl (by first | exact Or.inl rfl | exact Or.inr rfl) (pe_lst (pa_cons (pe_tup (pa_cons (pv 0) (pa_cons (pv 1) pa_nil))) pa_nil))) (pss_cons (ps_while (passes_of rfl) (pt_cmpR (op_gtA) (pe_callB call_lenA (by rfl) T.n_len PySem.boot_len (pa_cons (pv 2) pa_nil)) pe_int (nomark _)) (pss_cons (ps_asg (pe_bm0 PySem.F.plainAttrs_list PySem.F.slot_list_pop PySem.F.type_list_pop mt_pop (pv 2)) (pg_tup rfl (pgs_cons (pg_name (i := 3) nd rfl (by first | exact Or.inl rfl | exact Or.inr rfl)) (pgs_cons (pg_name (i := 4) nd rfl (by first | exact Or.inl rfl | exact Or.inr rfl)) pgs_nil)))) (pss_one (ps_if (pt_val (pe_callB call_isi (by rfl) T.n_isinstance (by decide +kernel) (pa_cons (pv 4) (pa_cons (pe_bltn (v := .ty "str") (by rfl) T.n_str (by decide +kernel) rfl) pa_nil)))) (pss_one (ps_if (PW.pt (pw_or (pt_not (pt_val (pe_callB call_isi (by rfl) T.n_isinstance (by decide +kernel) (pa_cons (pv 3) (pa_cons (pe_bltn (v := .ty "str") (by rfl) T.n_str (by decide +kernel) rfl) pa_nil))))) (pw_or1 (pt_cmpR (op_neX hu) (pv 3) (pv 4) (nomark _))))) (pss_one (ps_ret pe_bl)) pss_nil)) (pss_one (ps_if (pt_val (pe_callB call_isi (by rfl) T.n_isinstance (by decide +kernel) (pa_cons (pv 4) (pa_cons (pe_bltn (v := .ty "tuple") (by rfl) T.n_tuple (by decide +kernel) rfl) pa_nil)))) (pss_cons (ps_if (PW.pt (pw_or (pt_not (pt_val (pe_callB call_isi (by rfl) T.n_isinstance (by decide +kernel) (pa_cons (pv 3) (pa_cons (pe_bltn (v := .ty "tuple") (by rfl) T.n_tuple (by decide +kernel) rfl) pa_nil))))) (pw_or1 (pt_cmpR (op_neX hu) (pe_callB call_lenA (by rfl) T.n_len PySem.boot_len (pa_cons (pv 3) pa_nil)) (pe_callB call_lenA (by rfl) T.n_len PySem.boot_len (pa_cons (pv 4) pa_nil)) (nomark _))))) (pss_one (ps_ret pe_bl)) pss_nil) (pss_one (ps_expr (pe_bm PySem.F.plainAttrs_list PySem.F.slot_list_extend PySem.F.type_list_extend (MtR.or mt_extend mt_extT) (pv 2) (pa_cons (pe_lc (own := [("k", 5)]) (g := (gName 5)) rfl nd (pi_range1 rfl T.n_range (pa_cons (pe_callB call_lenA (by rfl) T.n_len PySem.boot_len (pa_cons (pv 4) pa_nil)) pa_nil)) (blkOk_by (N := ["told", "due", "rest", "one", "two", "k"]) (sc := defScope s__law_all_same) (by decide +kernel)) (fun _ _ _ _ _ => (pg_name (i := 5) nd rfl (by first | exact Or.inl rfl | exact Or.inr rfl))) (fun _ _ _ _ _ => pts_nil) (fun _ _ _ _ _ => (pe_tup (pa_cons (pe_ix ix_seq (pv 3) (pv 5) (fun _ _ => rfl)) (pa_cons (pe_ix ix_seq (pv 4) (pv 5) (fun _ _ => rfl)) pa_nil))))) pa_nil))))) (pss_one (ps_if (pt_not (pt_val (pe_callS G__law_same.2.2.2.2 (hr.mono (by first | decide | omega)) rfl G__law_same.1 G__law_same.2.1 G__law_same.2.2.1 (fun σ => L2N.passAt tk σ) (pa_cons (pv 3) (pa_cons (pv 4) pa_nil))))) (pss_one (ps_ret pe_bl)) pss_nil)))))))) (pss_one (ps_ret pe_bl)))) (ss_cons (ss_setM (i := 2) (simn_lst 1 (sima_cons (sim_tup 2 (sima_cons sim_varF (sima_cons sim_varF sima_nil))) sima_nil))) (ss_cons (ss_while (simt_test (sim_op rs_gt (sim_cb cs_len (sima_cons sim_var sima_nil)) sim_int)) (ss_cons (ss_asg sim_pop (g_tup [3, 4])) (ss_if (simt_B (sim_isi .str sim_varF)) (ss_if (simt_or (simt_not (simt_B (sim_isi .str sim_varF))) (simt_test (sim_op rs_neA sim_varF sim_varF))) (ss_ret sim_bl) ss_nil) (ss_if (simt_B (sim_isi .tup sim_varF)) (ss_cons (ss_if (simt_or (simt_not (simt_B (sim_isi .tup sim_varF))) (simt_test (sim_op rs_neA (sim_cb cs_len (sima_cons sim_varF sima_nil)) (sim_cb cs_len (sima_cons sim_varF sima_nil))))) (ss_ret sim_bl) ss_nil) (ss_extendA (SimN.fz (simn_lc (simi_rng1 (sim_cb cs_len (sima_cons sim_varF sima_nil))) (g_name 5) simt_yes (sim_tup 2 (sima_cons (sim_op rs_ix sim_varF sim_varF) (sima_cons (sim_op rs_ix sim_varF sim_varF) sima_nil))))))) (ss_if (simt_not (simt_B (sim_call0 (sima_cons sim_varF (sima_cons sim_varF sima_nil))))) (ss_ret sim_bl) ss_nil))))) (ss_ret sim_bl))) wp__law_all_same
theorem ok__law_all_same (T : Top K mg) : Ok P w K mg base "_law_all_same" s__law_all_same ["told", "due"] [false, false] 2 sp__law_all_same := ok_of T.t__law_all_same fun _ _ F => fo__law_all_same T F
theorem fo__law_told (T : Top K mg) {f : Addr} {fd : FuncData} (F : Fun K "_law_told" "_law_told" s__law_told f fd) : FnOk P w K mg base (L2N.CX P w) 10 f fd ["which", "case", "number", "bounds"] (spOf K [false, false, false, false] sp__law_told) := by
  obtain ⟨f_pieces_by_most, fd_pieces_by_most, G_pieces_by_most⟩ := ok_pieces_by_most (P := P) (w := w) (base := base) T
  obtain ⟨f_least_wide, fd_least_wide, G_least_wide⟩ := ok_least_wide (P := P) (w := w) (base := base) T
  obtain ⟨fk_pieces_by_wide, fdk_pieces_by_wide, GK_pieces_by_wide⟩ := okf_pieces_by_wide (P := P) (w := w) (base := base) T
  obtain ⟨fk_least_most, fdk_least_most, GK_least_most⟩ := okf_least_most (P := P) (w := w) (base := base) T
  obtain ⟨D_SaidError, gy_SaidError, yc_SaidError⟩ := T.y_SaidError
  obtain ⟨D_DataError, gy_DataError, yc_DataError⟩ := T.y_DataError
  obtain ⟨D_CallError, gy_CallError, yc_CallError⟩ := T.y_CallError
  obtain ⟨D_TextError, gy_TextError, yc_TextError⟩ := T.y_TextError
  obtain ⟨D_AskError, gy_AskError, yc_AskError⟩ := T.y_AskError
  obtain ⟨D_NoSuch, gy_NoSuch, yc_NoSuch⟩ := T.y_NoSuch
  refine fn_ok [false, false, false, false] sp__law_told F sc__law_told rfl (fun cdv A outer s H E hr => ?_)
  have nd := sc__law_told.nd
  have hu := hr.units
  have tk : L2N.Takes (cxOf (L2N.CX P w) P w K mg base ["which", "case", "number", "bounds", "e"] "_law_told" (defScope s__law_told) f cdv A outer s H E) (fun cls d _ H => E cls d H) := L2N.takes_of rfl rfl rfl rfl
  have key : ∃ T, PSs (cxOf (L2N.CX P w) P w K mg base ["which", "case", "number", "bounds", "e"] "_law_told" (defScope s__law_told) f cdv A outer s H E) (defBody s__law_told) T ∧ SimS K (npOf [false, false, false, false]) (fun cls d _ H => E cls d H) T m__law_told := by
    refine dv_try_as rfl rfl nd (i := 4) rfl rfl ⟨rfl, by decide, .inl gy_SaidError⟩ tk yc_SaidError ?_ ?_
    · refine dv_cons ⟨fun W => _, fun W pn xe tk po => (ps_if (pt_cmpR (r := rOr rEq (rEqD K)) (op_eqX hu) (pv 0) pe_int (nomark _)) (pss_one (ps_ret (pe_tup (pa_cons pe_str (pa_cons (pe_callS G_pieces_by_most.2.2.2.2 (hr.mono (by first | decide | omega)) rfl G_pieces_by_most.1 G_pieces_by_most.2.1 G_pieces_by_most.2.2.1 (fun σ => L2N.passAt tk σ) (pa_cons (pv 1) (pa_cons (pv 2) (pa_cons (pv 3) pa_nil)))) pa_nil))))) pss_nil), fun W => (ss_if (simt_test (sim_op rs_eqA sim_varF sim_int)) (ss_ret (sim_tup 2 (sima_cons (sim_str [116, 111, 108, 100] (by decide +kernel) (by decide)) (sima_cons (sim_call0 (sima_cons sim_varF (sima_cons sim_varF (sima_cons sim_varF sima_nil)))) sima_nil)))) ss_nil)⟩ ?_
      refine dv_cons ⟨fun W => _, fun W pn xe tk po => (ps_if (pt_cmpR (r := rOr rEq (rEqD K)) (op_eqX hu) (pv 0) pe_int (nomark _)) (pss_one (ps_ret (pe_tup (pa_cons pe_str (pa_cons (pe_callKS0 GK_pieces_by_wide.2.2.2 (hr.mono (by first | decide | omega)) rfl GK_pieces_by_wide.1 GK_pieces_by_wide.2.1 (kbd_of (n := 0) (ks := ["case", "number", "wides"]) (pm := [0, 1, 2]) GK_pieces_by_wide.2.2.1 (fun _ _ _ _ _ _ us ws h1 h2 => match us, ws, h1, h2 with | [], [_, _, _], _, _ => rfl)) (fun σ => L2N.passAt tk σ) (pk_cons (pv 1) (pk_cons (pv 2) (pk_cons (pv 3) pk_nil)))) pa_nil))))) pss_nil), fun W => (ss_if (simt_test (sim_op rs_eqA sim_varF sim_int)) (ss_ret (sim_tup 2 (sima_cons (sim_str [116, 111, 108, 100] (by decide +kernel) (by decide)) (sima_cons (sim_call0 (n := 3) (sima_perm (sima_app sima_nil (sima_cons sim_varF (sima_cons sim_varF (sima_cons sim_varF sima_nil)))))) sima_nil)))) ss_nil)⟩ ?_
      refine dv_cons ⟨fun W => _, fun W pn xe tk po => (ps_if (pt_cmpR (r := rOr rEq (rEqD K)) (op_eqX hu) (pv 0) pe_int (nomark _)) (pss_one (ps_ret (pe_tup (pa_cons pe_str (pa_cons (pe_callKS0 GK_least_most.2.2.2 (hr.mono (by first | decide | omega)) rfl GK_least_most.1 GK_least_most.2.1 (kbd_of (n := 0) (ks := ["number", "case"]) (pm := [1, 0]) GK_least_most.2.2.1 (fun _ _ _ _ _ _ us ws h1 h2 => match us, ws, h1, h2 with | [], [_, _], _, _ => rfl)) (fun σ => L2N.passAt tk σ) (pk_cons (pv 2) (pk_cons (pv 1) pk_nil))) pa_nil))))) pss_nil), fun W => (ss_if (simt_test (sim_op rs_eqA sim_varF sim_int)) (ss_ret (sim_tup 2 (sima_cons (sim_str [116, 111, 108, 100] (by decide +kernel) (by decide)) (sima_cons (sim_call0 (n := 2) (sima_perm (sima_app sima_nil (sima_cons sim_varF (sima_cons sim_varF sima_nil))))) sima_nil)))) ss_nil)⟩ ?_
      exact dv_one ⟨fun W => _, fun W pn xe tk po => (ps_ret (pe_tup (pa_cons pe_str (pa_cons (pe_callS G_least_wide.2.2.2.2 (hr.mono (by first | decide | omega)) rfl G_least_wide.1 G_least_wide.2.1 G_least_wide.2.2.1 (fun σ => L2N.passAt tk σ) (pa_cons (pv 1) (pa_cons (pv 2) pa_nil))) pa_nil)))), fun W => (ss_ret (sim_tup 2 (sima_cons (sim_str [116, 111, 108, 100] (by decide +kernel) (by decide)) (sima_cons (sim_call0 (sima_cons sim_varF (sima_cons sim_varF sima_nil))) sima_nil))))⟩
    · exact ⟨fun a cls d => _, fun a oe cls d pn hz hf => (pss_cons (ps_if (PW.pt (pw_or (pt_val (pe_callB (call_isXs hz.zc hf) (by rfl) T.n_isinstance (by decide +kernel) (pa_cons (pv 4) (pa_cons (pe_glob (v := .ref D_DataError) rfl gy_DataError rfl) pa_nil)))) (pw_or (pt_val (pe_callB (call_isXs hz.zc hf) (by rfl) T.n_isinstance (by decide +kernel) (pa_cons (pv 4) (pa_cons (pe_glob (v := .ref D_CallError) rfl gy_CallError rfl) pa_nil)))) (pw_or (pt_val (pe_callB (call_isXs hz.zc hf) (by rfl) T.n_isinstance (by decide +kernel) (pa_cons (pv 4) (pa_cons (pe_glob (v := .ref D_TextError) rfl gy_TextError rfl) pa_nil)))) (pw_or1 (pt_not (pt_val (pe_callB (call_isXs hz.zc hf) (by rfl) T.n_isinstance (by decide +kernel) (pa_cons (pv 4) (pa_cons (pe_glob (v := .ref D_AskError) rfl gy_AskError rfl) pa_nil)))))))))) (pss_one (ps_ret (pe_tup (pa_cons pe_str (pa_cons pe_str (pa_cons pe_int pa_nil)))))) pss_nil) (pss_one (ps_ret (pe_ifExp (pt_val (pe_callB (call_isXs hz.zc hf) (by rfl) T.n_isinstance (by decide +kernel) (pa_cons (pv 4) (pa_cons (pe_glob (v := .ref D_NoSuch) rfl gy_NoSuch rfl) pa_nil)))) (pe_tup (pa_cons pe_str (pa_cons (pe_xfs hz.zc hf (pv 4)) (pa_cons (pe_xfs hz.zc hf (pv 4)) pa_nil)))) (pe_tup (pa_cons pe_str (pa_cons pe_str (pa_cons pe_int pa_nil)))))))), fun c => (ss_cons (ss_if (simt_or (simt_B (sim_isX yc_DataError sim_varF)) (simt_or (simt_B (sim_isX yc_CallError sim_varF)) (simt_or (simt_B (sim_isX yc_TextError sim_varF)) (simt_not (simt_B (sim_isX yc_AskError sim_varF)))))) (ss_ret (sim_tup 3 (sima_cons (sim_str [114, 97, 105, 115, 101, 100] (by decide +kernel) (by decide)) (sima_cons (sim_str [] (by decide +kernel) (by decide)) (sima_cons sim_int sima_nil))))) ss_nil) (ss_ret (sim_ifE (simt_B (sim_isX yc_NoSuch sim_varF)) (sim_tup 3 (sima_cons (sim_str [114, 97, 105, 115, 101, 100] (by decide +kernel) (by decide)) (sima_cons (sim_xf (f := 1) sim_varF) (sima_cons (sim_xf (f := 2) sim_varF) sima_nil)))) (sim_tup 3 (sima_cons (sim_str [114, 97, 105, 115, 101, 100] (by decide +kernel) (by decide)) (sima_cons (sim_str [] (by decide +kernel) (by decide)) (sima_cons sim_int sima_nil)))))))⟩
  obtain ⟨Tx, hP, hS⟩ := key
  exact bd_mk (t := m__law_told) hP hS wp__law_told
theorem ok__law_told (T : Top K mg) : Ok P w K mg base "_law_told" s__law_told ["which", "case", "number", "bounds"] [false, false, false, false] 10 sp__law_told := ok_of T.t__law_told fun _ _ F => fo__law_told T F
theorem fo__law_bounds (T : Top K mg) {f : Addr} {fd : FuncData} (F : Fun K "_law_bounds" "_law_bounds" s__law_bounds f fd) : FnOk P w K mg base (L2N.CX P w) 2 f fd ["reel", "low", "own"] (spOf K [true, false, false] sp__law_bounds) := by
  obtain ⟨f__law_roll, fd__law_roll, G__law_roll⟩ := ok__law_roll (P := P) (w := w) (base := base) T
  refine fn_ok [true, false, false] sp__law_bounds F sc__law_bounds rfl (fun cdv A outer s H E hr => ?_)
  have nd := sc__law_bounds.nd
  have hu := hr.units
  have tk : L2N.Takes (cxOf (L2N.CX P w) P w K mg base ["reel", "low", "own", "told", "lap", "way"] "_law_bounds" (defScope s__law_bounds) f cdv A outer s H E) (fun cls d _ H => E cls d H) := L2N.takes_of rfl rfl rfl rfl
  exact bd_mk (t := m__law_bounds) (pss_cons (ps_set (i := 3) nd rfl (by first | exact Or.inl rfl | exact Or.inr rfl) (pe_lst pa_nil)) (pss_cons (ps_for (passes_of rfl) rfl (pi_range1 rfl T.n_range (pa_cons (pe_op op_addA pe_int (pe_callS G__law_roll.2.2.2.2 (hr.mono (by first | decide | omega)) rfl G__law_roll.1 G__law_roll.2.1 G__law_roll.2.2.1 (fun σ => L2N.passAt tk σ) (pa_cons (pv 0) (pa_cons pe_int pa_nil)))) pa_nil)) (pg_name (i := 4) nd rfl (by first | exact Or.inl rfl | exact Or.inr rfl)) (pss_cons (ps_set (i := 5) nd rfl (by first | exact Or.inl rfl | exact Or.inr rfl) (pe_callS G__law_roll.2.2.2.2 (hr.mono (by first | decide | omega)) rfl G__law_roll.1 G__law_roll.2.1 G__law_roll.2.2.1 (fun σ => L2N.passAt tk σ) (pa_cons (pv 0) (pa_cons pe_int pa_nil)))) (pss_one (ps_expr (pe_bm PySem.F.plainAttrs_list PySem.F.slot_list_append PySem.F.type_list_append mt_append (pv 3) (pa_cons (pe_ix ix_seq (pe_lst (pa_cons (pv 1) (pa_cons pe_int (pa_cons (pv 2) (pa_cons (pe_callB (call_max2 rfl) (by rfl) T.n_max (by decide +kernel) (pa_cons (pv 1) (pa_cons (pe_op op_sub (pv 2) pe_int) pa_nil))) (pa_cons (pe_callB (call_min2 rfl) (by rfl) T.n_min (by decide +kernel) (pa_cons pe_int (pa_cons (pe_op op_addA (pv 2) pe_int) pa_nil))) (pa_cons (pe_op op_addA (pv 1) (pe_callS G__law_roll.2.2.2.2 (hr.mono (by first | decide | omega)) rfl G__law_roll.1 G__law_roll.2.1 G__law_roll.2.2.1 (fun σ => L2N.passAt tk σ) (pa_cons (pv 0) (pa_cons pe_int pa_nil)))) pa_nil))))))) (pv 5) (fun _ _ => rfl)) pa_nil)))))) (pss_one (ps_ret (pe_callTy call_tuple_of (by rfl) T.n_tuple (by decide +kernel) (pa_cons (pe_op op_addA (pv 3) (pe_slice sl_any (pv 3) po_none (po_some (pe_callS G__law_roll.2.2.2.2 (hr.mono (by first | decide | omega)) rfl G__law_roll.1 G__law_roll.2.1 G__law_roll.2.2.1 (fun σ => L2N.passAt tk σ) (pa_cons (pv 0) (pa_cons pe_int pa_nil)))))) pa_nil)))))) (ss_cons (ss_setM (i := 3) (simn_lst 0 sima_nil)) (ss_cons (ss_for (simi_rng1 (sim_op rs_add sim_int (sim_call (simc_ref (simc_val sim_int simc_nil))))) (g_name 4) (ss_cons (ss_asg (sim_call (simc_ref (simc_val sim_int simc_nil))) (g_name 5)) (ss_append (sim_op rs_ix (sim_lst 6 (sima_cons sim_varF (sima_cons sim_int (sima_cons sim_varF (sima_cons (sim_cb cs_I2 (sima_cons sim_varF (sima_cons (sim_op rs_sub sim_varF sim_int) sima_nil))) (sima_cons (sim_cb cs_I2 (sima_cons sim_int (sima_cons (sim_op rs_add sim_varF sim_int) sima_nil))) (sima_cons (sim_op rs_add sim_varF (sim_call (simc_ref (simc_val sim_int simc_nil)))) sima_nil))))))) sim_varF)))) (ss_ret (sim_cb cs_tuple (sima_cons (sim_opL rs_add (sim_slL sim_no (sim_part (sim_call (simc_ref (simc_val sim_int simc_nil)))))) sima_nil))))) wp__law_bounds
theorem ok__law_bounds (T : Top K mg) : Ok P w K mg base "_law_bounds" s__law_bounds ["reel", "low", "own"] [true, false, false] 2 sp__law_bounds := ok_of T.t__law_bounds fun _ _ F => fo__law_bounds T F
theorem fo__law_least (T : Top K mg) {f : Addr} {fd : FuncData} (F : Fun K "_law_least" "_law_least" s__law_least f fd) : FnOk P w K mg base (L2N.CX P w) 5 f fd ["case", "number", "low", "turn"] (spOf K [false, false, false, false] sp__law_least) := by
  obtain ⟨f__law_pieces, fd__law_pieces, G__law_pieces⟩ := ok__law_pieces (P := P) (w := w) (base := base) T
  obtain ⟨f__law_with, fd__law_with, G__law_with⟩ := ok__law_with (P := P) (w := w) (base := base) T
  refine fn_ok [false, false, false, false] sp__law_least F sc__law_least rfl (fun cdv A outer s H E hr => ?_)
  have nd := sc__law_least.nd
  have hu := hr.units
  have tk : L2N.Takes (cxOf (L2N.CX P w) P w K mg base ["case", "number", "low", "turn", "own", "bound", "changed"] "_law_least" (defScope s__law_least) f cdv A outer s H E) (fun cls d _ H => E cls d H) := L2N.takes_of rfl rfl rfl rfl
  exact bd_mk (t := m__law_least) (pss_cons (ps_set (i := 4) nd rfl (by first | exact Or.inl rfl | exact Or.inr rfl) (pe_callS G__law_pieces.2.2.2.2 (hr.mono (by first | decide | omega)) rfl G__law_pieces.1 G__law_pieces.2.1 G__law_pieces.2.2.1 (fun σ => L2N.passAt tk σ) (pa_cons (pv 0) pa_nil))) (pss_cons (ps_for (passes_of rfl) rfl (pi_range2 rfl T.n_range (pa_cons (pv 2) (pa_cons (pe_op op_addA (pe_op op_addA (pe_callB call_lenA (by rfl) T.n_len PySem.boot_len (pa_cons (pe_ix ix_seq (pv 0) pe_int (fun _ _ => rfl)) pa_nil)) (pv 2)) pe_int) pa_nil))) (pg_name (i := 5) nd rfl (by first | exact Or.inl rfl | exact Or.inr rfl)) (pss_cons (ps_set (i := 6) nd rfl (by first | exact Or.inl rfl | exact Or.inr rfl) (pe_ifExp (pt_cmpR (op_eqX hu) (pv 3) pe_int (nomark _)) (pe_callS G__law_with.2.2.2.2 (hr.mono (by first | decide | omega)) rfl G__law_with.1 G__law_with.2.1 G__law_with.2.2.1 (fun σ => L2N.passAt tk σ) (pa_cons (pv 0) (pa_cons (pv 1) (pa_cons (pv 5) (pa_cons pe_int pa_nil))))) (pe_callS G__law_with.2.2.2.2 (hr.mono (by first | decide | omega)) rfl G__law_with.1 G__law_with.2.1 G__law_with.2.2.1 (fun σ => L2N.passAt tk σ) (pa_cons (pv 0) (pa_cons (pv 1) (pa_cons pe_int (pa_cons (pv 5) pa_nil))))))) (pss_one (ps_if (pt_cmpR (op_leA) (pe_callS G__law_pieces.2.2.2.2 (hr.mono (by first | decide | omega)) rfl G__law_pieces.1 G__law_pieces.2.1 G__law_pieces.2.2.1 (fun σ => L2N.passAt tk σ) (pa_cons (pv 6) pa_nil)) (pv 4) (nomark _)) (pss_one (ps_ret (pv 5))) pss_nil)))) (pss_one (ps_ret (pv 2))))) (ss_cons (ss_asg (sim_call0 (sima_cons sim_varF sima_nil)) (g_name 4)) (ss_cons (ss_for (simi_rng2 sim_varF (sim_op rs_add (sim_op rs_add (sim_cb cs_len (sima_cons (sim_op rs_ix sim_varF sim_int) sima_nil)) sim_varF) sim_int)) (g_name 5) (ss_cons (ss_asg (sim_ifE (simt_test (sim_op rs_eqA sim_varF sim_int)) (sim_call0 (sima_cons sim_varF (sima_cons sim_varF (sima_cons sim_varF (sima_cons sim_int sima_nil))))) (sim_call0 (sima_cons sim_varF (sima_cons sim_varF (sima_cons sim_int (sima_cons sim_varF sima_nil)))))) (g_name 6)) (ss_if (simt_test (sim_op rs_le (sim_call0 (sima_cons sim_varF sima_nil)) sim_varF)) (ss_ret sim_varF) ss_nil))) (ss_ret sim_varF))) wp__law_least
theorem ok__law_least (T : Top K mg) : Ok P w K mg base "_law_least" s__law_least ["case", "number", "low", "turn"] [false, false, false, false] 5 sp__law_least := ok_of T.t__law_least fun _ _ F => fo__law_least T F
theorem fo__law_least_most (T : Top K mg) {f : Addr} {fd : FuncData} (F : Fun K "_law_least_most" "_law_least_most" s__law_least_most f fd) : FnOk P w K mg base (L2N.CX P w) 6 f fd ["case", "number"] (spOf K [false, false] sp__law_least_most) := by
  obtain ⟨f__law_least, fd__law_least, G__law_least⟩ := ok__law_least (P := P) (w := w) (base := base) T
  refine fn_ok [false, false] sp__law_least_most F sc__law_least_most rfl (fun cdv A outer s H E hr => ?_)
  have nd := sc__law_least_most.nd
  have hu := hr.units
  have tk : L2N.Takes (cxOf (L2N.CX P w) P w K mg base ["case", "number"] "_law_least_most" (defScope s__law_least_most) f cdv A outer s H E) (fun cls d _ H => E cls d H) := L2N.takes_of rfl rfl rfl rfl
  exact bd_mk (t := m__law_least_most) (pss_one (ps_ret (pe_callS G__law_least.2.2.2.2 (hr.mono (by first | decide | omega)) rfl G__law_least.1 G__law_least.2.1 G__law_least.2.2.1 (fun σ => L2N.passAt tk σ) (pa_cons (pv 0) (pa_cons (pv 1) (pa_cons pe_int (pa_cons pe_int pa_nil))))))) (ss_ret (sim_call0 (sima_cons sim_varF (sima_cons sim_varF (sima_cons sim_int (sima_cons sim_int sima_nil)))))) wp__law_least_most
theorem ok__law_least_most (T : Top K mg) : Ok P w K mg base "_law_least_most" s__law_least_most ["case", "number"] [false, false] 6 sp__law_least_most := ok_of T.t__law_least_most fun _ _ F => fo__law_least_most T F
theorem fo__law_rule_right (T : Top K mg) {f : Addr} {fd : FuncData} (F : Fun K "_law_rule_right" "_law_rule_right" s__law_rule_right f fd) : FnOk P w K mg base (L2N.CX P w) 11 f fd ["reel", "case", "number"] (spOf K [true, false, false] sp__law_rule_right) := by
  obtain ⟨f__law_bounds, fd__law_bounds, G__law_bounds⟩ := ok__law_bounds (P := P) (w := w) (base := base) T
  obtain ⟨f__law_pieces, fd__law_pieces, G__law_pieces⟩ := ok__law_pieces (P := P) (w := w) (base := base) T
  obtain ⟨f__law_with, fd__law_with, G__law_with⟩ := ok__law_with (P := P) (w := w) (base := base) T
  obtain ⟨f__law_all_same, fd__law_all_same, G__law_all_same⟩ := ok__law_all_same (P := P) (w := w) (base := base) T
  obtain ⟨f__law_told, fd__law_told, G__law_told⟩ := ok__law_told (P := P) (w := w) (base := base) T
  obtain ⟨f__law_least_most, fd__law_least_most, G__law_least_most⟩ := ok__law_least_most (P := P) (w := w) (base := base) T
  obtain ⟨f__law_least, fd__law_least, G__law_least⟩ := ok__law_least (P := P) (w := w) (base := base) T
  refine fn_ok [true, false, false] sp__law_rule_right F sc__law_rule_right rfl (fun cdv A outer s H E hr => ?_)
  have nd := sc__law_rule_right.nd
  have hu := hr.units
  have tk : L2N.Takes (cxOf (L2N.CX P w) P w K mg base ["reel", "case", "number", "rule", "mosts", "due", "wide", "wides", "most"] "_law_rule_right" (defScope s__law_rule_right) f cdv A outer s H E) (fun cls d _ H => E cls d H) := L2N.takes_of rfl rfl rfl rfl
  exact bd_mk (t := m__law_rule_right) (pss_cons (ps_set (i := 3) nd rfl (by first | exact Or.inl rfl | exact Or.inr rfl) (pe_ix ix_seq (pe_ix ix_seq (pv 1) pe_int (fun _ _ => rfl)) (pv 2) (fun _ _ => rfl))) (pss_cons (ps_set (i := 4) nd rfl (by first | exact Or.inl rfl | exact Or.inr rfl) (pe_callS G__law_bounds.2.2.2.2 (hr.mono (by first | decide | omega)) rfl G__law_bounds.1 G__law_bounds.2.1 G__law_bounds.2.2.1 (fun σ => L2N.passAt tk σ) (pa_cons (pv 0) (pa_cons pe_int (pa_cons (pe_ix ix_seq (pv 3) (pe_un un_neg pe_int) (fun _ _ => rfl)) pa_nil))))) (pss_cons (ps_set (i := 5) nd rfl (by first | exact Or.inl rfl | exact Or.inr rfl) (pe_callTy call_tuple_of (by rfl) T.n_tuple (by decide +kernel) (pa_cons (pe_lc (own := [("most", 8)]) (g := (gName 8)) rfl nd (pi_any (pv 4)) (blkOk_by (N := ["reel", "case", "number", "rule", "mosts", "due", "wide", "wides", "most"]) (sc := defScope s__law_rule_right) (by decide +kernel)) (fun _ _ _ _ _ => (pg_name (i := 8) nd rfl (by first | exact Or.inl rfl | exact Or.inr rfl))) (fun _ _ _ _ _ => pts_nil) (fun _ _ _ _ _ => (pe_callS G__law_pieces.2.2.2.2 (hr.mono (by first | decide | omega)) rfl G__law_pieces.1 G__law_pieces.2.1 G__law_pieces.2.2.1 (fun σ => L2N.passAt takes0N σ) (pa_cons (pe_callS G__law_with.2.2.2.2 (hr.mono (by first | decide | omega)) rfl G__law_with.1 G__law_with.2.1 G__law_with.2.2.1 (fun σ => L2N.passAt takes0N σ) (pa_cons (pv 1) (pa_cons (pv 2) (pa_cons (pv 8) (pa_cons pe_int pa_nil))))) pa_nil)))) pa_nil))) (pss_cons (ps_if (pt_not (pt_val (pe_callS G__law_all_same.2.2.2.2 (hr.mono (by first | decide | omega)) rfl G__law_all_same.1 G__law_all_same.2.1 G__law_all_same.2.2.1 (fun σ => L2N.passAt tk σ) (pa_cons (pe_callS G__law_told.2.2.2.2 (hr.mono (by first | decide | omega)) rfl G__law_told.1 G__law_told.2.1 G__law_told.2.2.1 (fun σ => L2N.passAt tk σ) (pa_cons pe_int (pa_cons (pv 1) (pa_cons (pv 2) (pa_cons (pv 4) pa_nil))))) (pa_cons (pe_tup (pa_cons pe_str (pa_cons (pv 5) pa_nil))) pa_nil))))) (pss_one (ps_ret pe_bl)) pss_nil) (pss_cons (ps_if (pt_not (pt_val (pe_callS G__law_all_same.2.2.2.2 (hr.mono (by first | decide | omega)) rfl G__law_all_same.1 G__law_all_same.2.1 G__law_all_same.2.2.1 (fun σ => L2N.passAt tk σ) (pa_cons (pe_callS G__law_told.2.2.2.2 (hr.mono (by first | decide | omega)) rfl G__law_told.1 G__law_told.2.1 G__law_told.2.2.1 (fun σ => L2N.passAt tk σ) (pa_cons pe_int (pa_cons (pv 1) (pa_cons (pv 2) (pa_cons (pe_tup pa_nil) pa_nil))))) (pa_cons (pe_tup (pa_cons pe_str (pa_cons (pe_callS G__law_least_most.2.2.2.2 (hr.mono (by first | decide | omega)) rfl G__law_least_most.1 G__law_least_most.2.1 G__law_least_most.2.2.1 (fun σ => L2N.passAt tk σ) (pa_cons (pv 1) (pa_cons (pv 2) pa_nil))) pa_nil))) pa_nil))))) (pss_one (ps_ret pe_bl)) pss_nil) (pss_cons (ps_if (pt_cmpR (op_eqX hu) (pe_ix ix_seq (pv 3) pe_int (fun _ _ => rfl)) pe_str (nomark _)) (pss_cons (ps_set (i := 6) nd rfl (by first | exact Or.inl rfl | exact Or.inr rfl) (pe_tup (pa_cons pe_str (pa_cons pe_str (pa_cons (pv 2) pa_nil))))) (pss_one (ps_ret (pe_callS G__law_all_same.2.2.2.2 (hr.mono (by first | decide | omega)) rfl G__law_all_same.1 G__law_all_same.2.1 G__law_all_same.2.2.1 (fun σ => L2N.passAt tk σ) (pa_cons (pe_tup (pa_cons (pe_callS G__law_told.2.2.2.2 (hr.mono (by first | decide | omega)) rfl G__law_told.1 G__law_told.2.1 G__law_told.2.2.1 (fun σ => L2N.passAt tk σ) (pa_cons pe_int (pa_cons (pv 1) (pa_cons (pv 2) (pa_cons (pe_tup (pa_cons pe_int (pa_cons pe_int pa_nil))) pa_nil))))) (pa_cons (pe_callS G__law_told.2.2.2.2 (hr.mono (by first | decide | omega)) rfl G__law_told.1 G__law_told.2.1 G__law_told.2.2.1 (fun σ => L2N.passAt tk σ) (pa_cons pe_int (pa_cons (pv 1) (pa_cons (pv 2) (pa_cons (pe_tup pa_nil) pa_nil))))) pa_nil))) (pa_cons (pe_tup (pa_cons (pv 6) (pa_cons (pv 6) pa_nil))) pa_nil)))))) pss_nil) (pss_cons (ps_set (i := 7) nd rfl (by first | exact Or.inl rfl | exact Or.inr rfl) (pe_callS G__law_bounds.2.2.2.2 (hr.mono (by first | decide | omega)) rfl G__law_bounds.1 G__law_bounds.2.1 G__law_bounds.2.2.1 (fun σ => L2N.passAt tk σ) (pa_cons (pv 0) (pa_cons pe_int (pa_cons (pe_ix ix_seq (pv 3) pe_int (fun _ _ => rfl)) pa_nil))))) (pss_cons (ps_set (i := 5) nd rfl (by first | exact Or.inl rfl | exact Or.inr rfl) (pe_callTy call_tuple_of (by rfl) T.n_tuple (by decide +kernel) (pa_cons (pe_lc (own := [("wide", 6)]) (g := (gName 6)) rfl nd (pi_any (pv 7)) (blkOk_by (N := ["reel", "case", "number", "rule", "mosts", "due", "wide", "wides", "most"]) (sc := defScope s__law_rule_right) (by decide +kernel)) (fun _ _ _ _ _ => (pg_name (i := 6) nd rfl (by first | exact Or.inl rfl | exact Or.inr rfl))) (fun _ _ _ _ _ => pts_nil) (fun _ _ _ _ _ => (pe_callS G__law_pieces.2.2.2.2 (hr.mono (by first | decide | omega)) rfl G__law_pieces.1 G__law_pieces.2.1 G__law_pieces.2.2.1 (fun σ => L2N.passAt takes0N σ) (pa_cons (pe_callS G__law_with.2.2.2.2 (hr.mono (by first | decide | omega)) rfl G__law_with.1 G__law_with.2.1 G__law_with.2.2.1 (fun σ => L2N.passAt takes0N σ) (pa_cons (pv 1) (pa_cons (pv 2) (pa_cons pe_int (pa_cons (pv 6) pa_nil))))) pa_nil)))) pa_nil))) (pss_cons (ps_if (pt_not (pt_val (pe_callS G__law_all_same.2.2.2.2 (hr.mono (by first | decide | omega)) rfl G__law_all_same.1 G__law_all_same.2.1 G__law_all_same.2.2.1 (fun σ => L2N.passAt tk σ) (pa_cons (pe_callS G__law_told.2.2.2.2 (hr.mono (by first | decide | omega)) rfl G__law_told.1 G__law_told.2.1 G__law_told.2.2.1 (fun σ => L2N.passAt tk σ) (pa_cons pe_int (pa_cons (pv 1) (pa_cons (pv 2) (pa_cons (pv 7) pa_nil))))) (pa_cons (pe_tup (pa_cons pe_str (pa_cons (pv 5) pa_nil))) pa_nil))))) (pss_one (ps_ret pe_bl)) pss_nil) (pss_one (ps_ret (pe_callS G__law_all_same.2.2.2.2 (hr.mono (by first | decide | omega)) rfl G__law_all_same.1 G__law_all_same.2.1 G__law_all_same.2.2.1 (fun σ => L2N.passAt tk σ) (pa_cons (pe_callS G__law_told.2.2.2.2 (hr.mono (by first | decide | omega)) rfl G__law_told.1 G__law_told.2.1 G__law_told.2.2.1 (fun σ => L2N.passAt tk σ) (pa_cons pe_int (pa_cons (pv 1) (pa_cons (pv 2) (pa_cons (pe_tup pa_nil) pa_nil))))) (pa_cons (pe_tup (pa_cons pe_str (pa_cons (pe_callS G__law_least.2.2.2.2 (hr.mono (by first | decide | omega)) rfl G__law_least.1 G__law_least.2.1 G__law_least.2.2.1 (fun σ => L2N.passAt tk σ) (pa_cons (pv 1) (pa_cons (pv 2) (pa_cons pe_int (pa_cons pe_int pa_nil))))) pa_nil))) pa_nil)))))))))))))) (ss_cons (ss_asg (sim_op rs_ix (sim_op rs_ix sim_varF sim_int) sim_varF) (g_name 3)) (ss_cut (ss_asg (sim_call (simc_ref (simc_val sim_int (simc_val (sim_op rs_ix sim_varF (sim_un us_neg sim_int)) simc_nil)))) (g_name 4)) (ss_cut (ss_asg (sim_cb cs_tuple (sima_cons (SimN.fz (simn_lc (simi_any sim_varF) (g_name 8) simt_yes (sim_call0 (sima_cons (sim_call0 (sima_cons sim_varF (sima_cons sim_varF (sima_cons sim_varF (sima_cons sim_int sima_nil))))) sima_nil)))) sima_nil)) (g_name 5)) (ss_cut (ss_if (simt_not (simt_B (sim_call0 (sima_cons (sim_call0 (sima_cons sim_int (sima_cons sim_varF (sima_cons sim_varF (sima_cons sim_varF sima_nil))))) (sima_cons (sim_tup 2 (sima_cons (sim_str [116, 111, 108, 100] (by decide +kernel) (by decide)) (sima_cons sim_varF sima_nil))) sima_nil))))) (ss_ret sim_bl) ss_nil) (ss_cut (ss_if (simt_not (simt_B (sim_call0 (sima_cons (sim_call0 (sima_cons sim_int (sima_cons sim_varF (sima_cons sim_varF (sima_cons (sim_tup 0 sima_nil) sima_nil))))) (sima_cons (sim_tup 2 (sima_cons (sim_str [116, 111, 108, 100] (by decide +kernel) (by decide)) (sima_cons (sim_call0 (sima_cons sim_varF (sima_cons sim_varF sima_nil))) sima_nil))) sima_nil))))) (ss_ret sim_bl) ss_nil) (ss_cut (ss_if (simt_test (sim_op rs_eqA (sim_op rs_ix sim_varF sim_int) (sim_str [101, 108, 100, 101, 114] (by decide +kernel) (by decide)))) (ss_cons (ss_asg (sim_tup 3 (sima_cons (sim_str [114, 97, 105, 115, 101, 100] (by decide +kernel) (by decide)) (sima_cons (sim_str [119, 105, 100, 101] (by decide +kernel) (by decide)) (sima_cons sim_varF sima_nil)))) (g_name 6)) (ss_ret (sim_call0 (sima_cons (sim_tup 2 (sima_cons (sim_call0 (sima_cons sim_int (sima_cons sim_varF (sima_cons sim_varF (sima_cons (sim_tup 2 (sima_cons sim_int (sima_cons sim_int sima_nil))) sima_nil))))) (sima_cons (sim_call0 (sima_cons sim_int (sima_cons sim_varF (sima_cons sim_varF (sima_cons (sim_tup 0 sima_nil) sima_nil))))) sima_nil))) (sima_cons (sim_tup 2 (sima_cons sim_varF (sima_cons sim_varF sima_nil))) sima_nil))))) ss_nil) (ss_cut (ss_asg (sim_call (simc_ref (simc_val sim_int (simc_val (sim_op rs_ix sim_varF sim_int) simc_nil)))) (g_name 7)) (ss_cut (ss_asg (sim_cb cs_tuple (sima_cons (SimN.fz (simn_lc (simi_any sim_varF) (g_name 6) simt_yes (sim_call0 (sima_cons (sim_call0 (sima_cons sim_varF (sima_cons sim_varF (sima_cons sim_int (sima_cons sim_varF sima_nil))))) sima_nil)))) sima_nil)) (g_name 5)) (ss_cut (ss_if (simt_not (simt_B (sim_call0 (sima_cons (sim_call0 (sima_cons sim_int (sima_cons sim_varF (sima_cons sim_varF (sima_cons sim_varF sima_nil))))) (sima_cons (sim_tup 2 (sima_cons (sim_str [116, 111, 108, 100] (by decide +kernel) (by decide)) (sima_cons sim_varF sima_nil))) sima_nil))))) (ss_ret sim_bl) ss_nil) (ss_ret (sim_call0 (sima_cons (sim_call0 (sima_cons sim_int (sima_cons sim_varF (sima_cons sim_varF (sima_cons (sim_tup 0 sima_nil) sima_nil))))) (sima_cons (sim_tup 2 (sima_cons (sim_str [116, 111, 108, 100] (by decide +kernel) (by decide)) (sima_cons (sim_call0 (sima_cons sim_varF (sima_cons sim_varF (sima_cons sim_int (sima_cons sim_int sima_nil))))) sima_nil))) sima_nil))))))))))))) wp__law_rule_right
theorem ok__law_rule_right (T : Top K mg) : Ok P w K mg base "_law_rule_right" s__law_rule_right ["reel", "case", "number"] [true, false, false] 11 sp__law_rule_right := ok_of T.t__law_rule_right fun _ _ F => fo__law_rule_right T F
theorem fo__law_case_right (T : Top K mg) {f : Addr} {fd : FuncData} (F : Fun K "_law_case_right" "_law_case_right" s__law_case_right f fd) : FnOk P w K mg base (L2N.CX P w) 12 f fd ["reel", "long"] (spOf K [true, false] sp__law_case_right) := by
  obtain ⟨f__law_case, fd__law_case, G__law_case⟩ := ok__law_case (P := P) (w := w) (base := base) T
  obtain ⟨f__law_all_same, fd__law_all_same, G__law_all_same⟩ := ok__law_all_same (P := P) (w := w) (base := base) T
  obtain ⟨f_widest_case, fd_widest_case, G_widest_case⟩ := ok_widest_case (P := P) (w := w) (base := base) T
  obtain ⟨f__law_pieces, fd__law_pieces, G__law_pieces⟩ := ok__law_pieces (P := P) (w := w) (base := base) T
  obtain ⟨f_lost_by_bounds, fd_lost_by_bounds, G_lost_by_bounds⟩ := ok_lost_by_bounds (P := P) (w := w) (base := base) T
  obtain ⟨f__law_rule_right, fd__law_rule_right, G__law_rule_right⟩ := ok__law_rule_right (P := P) (w := w) (base := base) T
  obtain ⟨f__law_roll, fd__law_roll, G__law_roll⟩ := ok__law_roll (P := P) (w := w) (base := base) T
  obtain ⟨f__law_told, fd__law_told, G__law_told⟩ := ok__law_told (P := P) (w := w) (base := base) T
  obtain ⟨fk_widest_case, fdk_widest_case, GK_widest_case⟩ := okf_widest_case (P := P) (w := w) (base := base) T
  obtain ⟨fk_lost_by_bounds, fdk_lost_by_bounds, GK_lost_by_bounds⟩ := okf_lost_by_bounds (P := P) (w := w) (base := base) T
  refine fn_ok [true, false] sp__law_case_right F sc__law_case_right rfl (fun cdv A outer s H E hr => ?_)
  have nd := sc__law_case_right.nd
  have hu := hr.units
  have tk : L2N.Takes (cxOf (L2N.CX P w) P w K mg base ["reel", "long", "case", "widest", "wide", "lost", "number", "told", "rule", "which"] "_law_case_right" (defScope s__law_case_right) f cdv A outer s H E) (fun cls d _ H => E cls d H) := L2N.takes_of rfl rfl rfl rfl
  exact bd_mk (t := m__law_case_right) (pss_cons (ps_set (i := 2) nd rfl (by first | exact Or.inl rfl | exact Or.inr rfl) (pe_callS G__law_case.2.2.2.2 (hr.mono (by first | decide | omega)) rfl G__law_case.1 G__law_case.2.1 G__law_case.2.2.1 (fun σ => L2N.passAt tk σ) (pa_cons (pv 0) (pa_cons (pv 1) pa_nil)))) (pss_cons (ps_setLc (i := 3) (own := [("rule", 8)]) (g := (gName 8)) rfl nd rfl rfl (sw_true rfl rfl rfl (by decide +kernel)) (pi_any (pe_ix ix_seq (pv 2) pe_int (fun _ _ => rfl))) (blkOk_by (N := ["reel", "long", "case", "widest", "wide", "lost", "number", "told", "rule", "which"]) (sc := defScope s__law_case_right) (by decide +kernel)) (fun _ _ _ _ _ => (pg_name (i := 8) nd rfl (by first | exact Or.inl rfl | exact Or.inr rfl))) (fun _ _ _ _ _ => pts_nil) (fun _ _ _ _ _ => (pe_ifExp (pt_cmpR (op_eqX hu) (pe_ix ix_seq (pv 8) pe_int (fun _ _ => rfl)) pe_str (nomark _)) (pe_op op_addA (pe_slice sl_any (pv 8) po_none (po_some (pe_un un_neg pe_int))) (pe_tup (pa_cons pe_int pa_nil))) (pe_op op_addA (pe_op op_addA (pe_tup (pa_cons pe_str (pa_cons pe_int pa_nil))) (pe_slice sl_any (pv 8) (po_some pe_int) (po_some (pe_un un_neg pe_int)))) (pe_tup (pa_cons pe_int pa_nil)))))) (pss_cons (ps_set (i := 4) nd rfl (by first | exact Or.inl rfl | exact Or.inr rfl) (pe_tup (pa_cons (pe_ix ix_seq (pv 2) pe_int (fun _ _ => rfl)) (pa_cons (pe_callTy call_tuple_of (by rfl) T.n_tuple (by decide +kernel) (pa_cons (pv 3) pa_nil)) (pa_cons (pe_ix ix_seq (pv 2) pe_int (fun _ _ => rfl)) pa_nil))))) (pss_cons (ps_if (pt_not (pt_val (pe_callS G__law_all_same.2.2.2.2 (hr.mono (by first | decide | omega)) rfl G__law_all_same.1 G__law_all_same.2.1 G__law_all_same.2.2.1 (fun σ => L2N.passAt tk σ) (pa_cons (pe_tup (pa_cons (pe_callS G_widest_case.2.2.2.2 (hr.mono (by first | decide | omega)) rfl G_widest_case.1 G_widest_case.2.1 G_widest_case.2.2.1 (fun σ => L2N.passAt tk σ) (pa_cons (pv 2) pa_nil)) (pa_cons (pe_callKS0 GK_widest_case.2.2.2 (hr.mono (by first | decide | omega)) rfl GK_widest_case.1 GK_widest_case.2.1 (kbd_of (n := 0) (ks := ["case"]) (pm := [0]) GK_widest_case.2.2.1 (fun _ _ _ _ _ _ us ws h1 h2 => match us, ws, h1, h2 with | [], [_], _, _ => rfl)) (fun σ => L2N.passAt tk σ) (pk_cons (pv 4) pk_nil)) pa_nil))) (pa_cons (pe_tup (pa_cons (pv 4) (pa_cons (pv 4) pa_nil))) pa_nil))))) (pss_one (ps_ret pe_bl)) pss_nil) (pss_cons (ps_set (i := 5) nd rfl (by first | exact Or.inl rfl | exact Or.inr rfl) (pe_op op_sub (pe_callS G__law_pieces.2.2.2.2 (hr.mono (by first | decide | omega)) rfl G__law_pieces.1 G__law_pieces.2.1 G__law_pieces.2.2.1 (fun σ => L2N.passAt tk σ) (pa_cons (pv 2) pa_nil)) (pe_callS G__law_pieces.2.2.2.2 (hr.mono (by first | decide | omega)) rfl G__law_pieces.1 G__law_pieces.2.1 G__law_pieces.2.2.1 (fun σ => L2N.passAt tk σ) (pa_cons (pv 4) pa_nil)))) (pss_cons (ps_if (pt_not (pt_val (pe_callS G__law_all_same.2.2.2.2 (hr.mono (by first | decide | omega)) rfl G__law_all_same.1 G__law_all_same.2.1 G__law_all_same.2.2.1 (fun σ => L2N.passAt tk σ) (pa_cons (pe_tup (pa_cons (pe_callS G_lost_by_bounds.2.2.2.2 (hr.mono (by first | decide | omega)) rfl G_lost_by_bounds.1 G_lost_by_bounds.2.1 G_lost_by_bounds.2.2.1 (fun σ => L2N.passAt tk σ) (pa_cons (pv 2) pa_nil)) (pa_cons (pe_callKS0 GK_lost_by_bounds.2.2.2 (hr.mono (by first | decide | omega)) rfl GK_lost_by_bounds.1 GK_lost_by_bounds.2.1 (kbd_of (n := 0) (ks := ["case"]) (pm := [0]) GK_lost_by_bounds.2.2.1 (fun _ _ _ _ _ _ us ws h1 h2 => match us, ws, h1, h2 with | [], [_], _, _ => rfl)) (fun σ => L2N.passAt tk σ) (pk_cons (pv 4) pk_nil)) pa_nil))) (pa_cons (pe_tup (pa_cons (pv 5) (pa_cons pe_int pa_nil))) pa_nil))))) (pss_one (ps_ret pe_bl)) pss_nil) (pss_cons (ps_for (passes_of rfl) rfl (pi_range1 rfl T.n_range (pa_cons (pe_callB call_lenA (by rfl) T.n_len PySem.boot_len (pa_cons (pe_ix ix_seq (pv 2) pe_int (fun _ _ => rfl)) pa_nil)) pa_nil)) (pg_name (i := 6) nd rfl (by first | exact Or.inl rfl | exact Or.inr rfl)) (pss_one (ps_if (pt_not (pt_val (pe_callS G__law_rule_right.2.2.2.2 (hr.mono (by first | decide | omega)) rfl G__law_rule_right.1 G__law_rule_right.2.1 G__law_rule_right.2.2.1 (fun σ => L2N.passAt tk σ) (pa_cons (pv 0) (pa_cons (pv 2) (pa_cons (pv 6) pa_nil)))))) (pss_one (ps_ret pe_bl)) pss_nil))) (pss_cons (ps_for (passes_of rfl) rfl (pi_any (pe_tup (pa_cons (pe_callB call_lenA (by rfl) T.n_len PySem.boot_len (pa_cons (pe_ix ix_seq (pv 2) pe_int (fun _ _ => rfl)) pa_nil)) (pa_cons (pe_op op_sub pe_int pe_int) (pa_cons (pe_op op_addA (pe_callB call_lenA (by rfl) T.n_len PySem.boot_len (pa_cons (pe_ix ix_seq (pv 2) pe_int (fun _ _ => rfl)) pa_nil)) (pe_callS G__law_roll.2.2.2.2 (hr.mono (by first | decide | omega)) rfl G__law_roll.1 G__law_roll.2.1 G__law_roll.2.2.1 (fun σ => L2N.passAt tk σ) (pa_cons (pv 0) (pa_cons pe_int pa_nil)))) pa_nil))))) (pg_name (i := 6) nd rfl (by first | exact Or.inl rfl | exact Or.inr rfl)) (pss_cons (ps_set (i := 7) nd rfl (by first | exact Or.inl rfl | exact Or.inr rfl) (pe_callTy call_tuple_of (by rfl) T.n_tuple (by decide +kernel) (pa_cons (pe_lc (own := [("which", 9)]) (g := (gName 9)) rfl nd (pi_range1 rfl T.n_range (pa_cons pe_int pa_nil)) (blkOk_by (N := ["reel", "long", "case", "widest", "wide", "lost", "number", "told", "rule", "which"]) (sc := defScope s__law_case_right) (by decide +kernel)) (fun _ _ _ _ _ => (pg_name (i := 9) nd rfl (by first | exact Or.inl rfl | exact Or.inr rfl))) (fun _ _ _ _ _ => pts_nil) (fun _ _ _ _ _ => (pe_callS G__law_told.2.2.2.2 (hr.mono (by first | decide | omega)) rfl G__law_told.1 G__law_told.2.1 G__law_told.2.2.1 (fun σ => L2N.passAt takes0N σ) (pa_cons (pv 9) (pa_cons (pv 2) (pa_cons (pv 6) (pa_cons (pe_tup (pa_cons pe_int (pa_cons pe_int pa_nil))) pa_nil))))))) pa_nil))) (pss_one (ps_if (pt_not (pt_val (pe_callS G__law_all_same.2.2.2.2 (hr.mono (by first | decide | omega)) rfl G__law_all_same.1 G__law_all_same.2.1 G__law_all_same.2.2.1 (fun σ => L2N.passAt tk σ) (pa_cons (pv 7) (pa_cons (pe_op op_repT (pe_tup (pa_cons (pe_tup (pa_cons pe_str (pa_cons pe_str (pa_cons (pv 6) pa_nil)))) pa_nil)) pe_int) pa_nil))))) (pss_one (ps_ret pe_bl)) pss_nil)))) (pss_one (ps_ret pe_bl)))))))))) (ss_cut (ss_asg (sim_call (simc_ref (simc_val sim_varF simc_nil))) (g_name 2)) (ss_cut (ss_asg (SimN.fz (simn_lc (simi_any (sim_op rs_ix sim_varF sim_int)) (g_name 8) simt_yes (sim_ifE (simt_test (sim_op rs_eqA (sim_op rs_ix sim_varF sim_int) (sim_str [101, 108, 100, 101, 114] (by decide +kernel) (by decide)))) (sim_op rs_add (sim_sl sim_varF sim_no (sim_part (sim_un us_neg sim_int))) (sim_tup 1 (sima_cons sim_int sima_nil))) (sim_op rs_add (sim_op rs_add (sim_tup 2 (sima_cons (sim_str [98, 97, 99, 107] (by decide +kernel) (by decide)) (sima_cons sim_int sima_nil))) (sim_sl sim_varF (sim_part sim_int) (sim_part (sim_un us_neg sim_int)))) (sim_tup 1 (sima_cons sim_int sima_nil)))))) (g_name 3)) (ss_cut (ss_asg (sim_tup 3 (sima_cons (sim_op rs_ix sim_varF sim_int) (sima_cons (sim_cb cs_tuple (sima_cons sim_varF sima_nil)) (sima_cons (sim_op rs_ix sim_varF sim_int) sima_nil)))) (g_name 4)) (ss_cut (ss_if (simt_not (simt_B (sim_call0 (sima_cons (sim_tup 2 (sima_cons (sim_call0 (sima_cons sim_varF sima_nil)) (sima_cons (sim_call0 (n := 1) (sima_perm (sima_app sima_nil (sima_cons sim_varF sima_nil)))) sima_nil))) (sima_cons (sim_tup 2 (sima_cons sim_varF (sima_cons sim_varF sima_nil))) sima_nil))))) (ss_ret sim_bl) ss_nil) (ss_cons (ss_asg (sim_op rs_sub (sim_call0 (sima_cons sim_varF sima_nil)) (sim_call0 (sima_cons sim_varF sima_nil))) (g_name 5)) (ss_cut (ss_if (simt_not (simt_B (sim_call0 (sima_cons (sim_tup 2 (sima_cons (sim_call0 (sima_cons sim_varF sima_nil)) (sima_cons (sim_call0 (n := 1) (sima_perm (sima_app sima_nil (sima_cons sim_varF sima_nil)))) sima_nil))) (sima_cons (sim_tup 2 (sima_cons sim_varF (sima_cons sim_int sima_nil))) sima_nil))))) (ss_ret sim_bl) ss_nil) (ss_cut (ss_for (simi_rng1 (sim_cb cs_len (sima_cons (sim_op rs_ix sim_varF sim_int) sima_nil))) (g_name 6) (ss_if (simt_not (simt_B (sim_call (simc_ref (simc_val sim_varF (simc_val sim_varF simc_nil)))))) (ss_ret sim_bl) ss_nil)) (ss_cut (ss_for (simi_any (sim_tup 3 (sima_cons (sim_cb cs_len (sima_cons (sim_op rs_ix sim_varF sim_int) sima_nil)) (sima_cons (sim_op rs_sub sim_int sim_int) (sima_cons (sim_op rs_add (sim_cb cs_len (sima_cons (sim_op rs_ix sim_varF sim_int) sima_nil)) (sim_call (simc_ref (simc_val sim_int simc_nil)))) sima_nil))))) (g_name 6) (ss_cons (ss_asg (sim_cb cs_tuple (sima_cons (SimN.fz (simn_lc (simi_rng1 sim_int) (g_name 9) simt_yes (sim_call0 (sima_cons sim_varF (sima_cons sim_varF (sima_cons sim_varF (sima_cons (sim_tup 2 (sima_cons sim_int (sima_cons sim_int sima_nil))) sima_nil))))))) sima_nil)) (g_name 7)) (ss_if (simt_not (simt_B (sim_call0 (sima_cons sim_varF (sima_cons (sim_op rs_mulT (sim_tup 1 (sima_cons (sim_tup 3 (sima_cons (sim_str [114, 97, 105, 115, 101, 100] (by decide +kernel) (by decide)) (sima_cons (sim_str [114, 117, 108, 101] (by decide +kernel) (by decide)) (sima_cons sim_varF sima_nil)))) sima_nil)) sim_int) sima_nil))))) (ss_ret sim_bl) ss_nil))) (ss_ret sim_bl))))))))) wp__law_case_right
theorem ok__law_case_right (T : Top K mg) : Ok P w K mg base "_law_case_right" s__law_case_right ["reel", "long"] [true, false] 12 sp__law_case_right := ok_of T.t__law_case_right fun _ _ F => fo__law_case_right T F
theorem fo__law_bounded (T : Top K mg) {f : Addr} {fd : FuncData} (F : Fun K "_law_bounded" "_law_bounded" s__law_bounded f fd) : FnOk P w K mg base (L2N.CX P w) 10 f fd ["reel"] (spOf K [true] sp__law_bounded) := by
  obtain ⟨f__law_roll, fd__law_roll, G__law_roll⟩ := ok__law_roll (P := P) (w := w) (base := base) T
  obtain ⟨f__law_all_same, fd__law_all_same, G__law_all_same⟩ := ok__law_all_same (P := P) (w := w) (base := base) T
  obtain ⟨f_least_most, fd_least_most, G_least_most⟩ := ok_least_most (P := P) (w := w) (base := base) T
  obtain ⟨f_least_wide, fd_least_wide, G_least_wide⟩ := ok_least_wide (P := P) (w := w) (base := base) T
  obtain ⟨f__law_pieces, fd__law_pieces, G__law_pieces⟩ := ok__law_pieces (P := P) (w := w) (base := base) T
  obtain ⟨f__law_with, fd__law_with, G__law_with⟩ := ok__law_with (P := P) (w := w) (base := base) T
  obtain ⟨f_pieces_by_most, fd_pieces_by_most, G_pieces_by_most⟩ := ok_pieces_by_most (P := P) (w := w) (base := base) T
  obtain ⟨f_lost_by_bounds, fd_lost_by_bounds, G_lost_by_bounds⟩ := ok_lost_by_bounds (P := P) (w := w) (base := base) T
  obtain ⟨f__law_least, fd__law_least, G__law_least⟩ := ok__law_least (P := P) (w := w) (base := base) T
  obtain ⟨f_pieces_by_wide, fd_pieces_by_wide, G_pieces_by_wide⟩ := ok_pieces_by_wide (P := P) (w := w) (base := base) T
  refine fn_ok [true] sp__law_bounded F sc__law_bounded rfl (fun cdv A outer s H E hr => ?_)
  have nd := sc__law_bounded.nd
  have hu := hr.units
  have tk : L2N.Takes (cxOf (L2N.CX P w) P w K mg base ["reel", "many", "word", "back", "case", "mosts", "due", "low", "told", "alone", "near", "most"] "_law_bounded" (defScope s__law_bounded) f cdv A outer s H E) (fun cls d _ H => E cls d H) := L2N.takes_of rfl rfl rfl rfl
  exact bd_mk (t := m__law_bounded) (pss_cons (ps_set (i := 1) nd rfl (by first | exact Or.inl rfl | exact Or.inr rfl) (pe_op op_addA pe_int (pe_callS G__law_roll.2.2.2.2 (hr.mono (by first | decide | omega)) rfl G__law_roll.1 G__law_roll.2.1 G__law_roll.2.2.1 (fun σ => L2N.passAt tk σ) (pa_cons (pv 0) (pa_cons pe_int pa_nil))))) (pss_cons (ps_set (i := 2) nd rfl (by first | exact Or.inl rfl | exact Or.inr rfl) (pe_slice sl_any pe_str po_none (po_some (pv 1)))) (pss_cons (ps_set (i := 3) nd rfl (by first | exact Or.inl rfl | exact Or.inr rfl) (pe_tup (pa_cons pe_str (pa_cons pe_int (pa_cons (pe_cmpR (op_eqX hu) (pe_callS G__law_roll.2.2.2.2 (hr.mono (by first | decide | omega)) rfl G__law_roll.1 G__law_roll.2.1 G__law_roll.2.2.1 (fun σ => L2N.passAt tk σ) (pa_cons (pv 0) (pa_cons pe_int pa_nil))) pe_int (nomark _)) (pa_cons pe_bl (pa_cons pe_int pa_nil))))))) (pss_cons (ps_set (i := 4) nd rfl (by first | exact Or.inl rfl | exact Or.inr rfl) (pe_tup (pa_cons (pe_tup (pa_cons (pv 2) pa_nil)) (pa_cons (pe_tup (pa_cons (pe_tup (pa_cons pe_str (pa_cons pe_int (pa_cons pe_bl (pa_cons pe_int pa_nil))))) (pa_cons (pe_tup (pa_cons pe_str (pa_cons pe_int (pa_cons pe_bl (pa_cons pe_int pa_nil))))) (pa_cons (pv 3) pa_nil)))) (pa_cons (pe_op op_addA (pv 2) (pv 2)) pa_nil))))) (pss_cons (ps_if (pt_not (pt_val (pe_callS G__law_all_same.2.2.2.2 (hr.mono (by first | decide | omega)) rfl G__law_all_same.1 G__law_all_same.2.1 G__law_all_same.2.2.1 (fun σ => L2N.passAt tk σ) (pa_cons (pe_tup (pa_cons (pe_callS G_least_most.2.2.2.2 (hr.mono (by first | decide | omega)) rfl G_least_most.1 G_least_most.2.1 G_least_most.2.2.1 (fun σ => L2N.passAt tk σ) (pa_cons (pv 4) (pa_cons pe_int pa_nil))) (pa_cons (pe_callS G_least_wide.2.2.2.2 (hr.mono (by first | decide | omega)) rfl G_least_wide.1 G_least_wide.2.1 G_least_wide.2.2.1 (fun σ => L2N.passAt tk σ) (pa_cons (pv 4) (pa_cons pe_int pa_nil))) (pa_cons (pe_callS G_least_most.2.2.2.2 (hr.mono (by first | decide | omega)) rfl G_least_most.1 G_least_most.2.1 G_least_most.2.2.1 (fun σ => L2N.passAt tk σ) (pa_cons (pv 4) (pa_cons pe_int pa_nil))) pa_nil)))) (pa_cons (pe_tup (pa_cons (pv 1) (pa_cons pe_int (pa_cons pe_int pa_nil)))) pa_nil))))) (pss_one (ps_ret pe_bl)) pss_nil) (pss_cons (ps_set (i := 5) nd rfl (by first | exact Or.inl rfl | exact Or.inr rfl) (pe_tupRg rfl rfl T.n_tuple (prg_2 rfl T.n_range pe_int (pe_op op_addA (pv 1) pe_int)))) (pss_cons (ps_set (i := 6) nd rfl (by first | exact Or.inl rfl | exact Or.inr rfl) (pe_callTy call_tuple_of (by rfl) T.n_tuple (by decide +kernel) (pa_cons (pe_lc (own := [("most", 11)]) (g := (gName 11)) rfl nd (pi_any (pv 5)) (blkOk_by (N := ["reel", "many", "word", "back", "case", "mosts", "due", "low", "told", "alone", "near", "most"]) (sc := defScope s__law_bounded) (by decide +kernel)) (fun _ _ _ _ _ => (pg_name (i := 11) nd rfl (by first | exact Or.inl rfl | exact Or.inr rfl))) (fun _ _ _ _ _ => pts_nil) (fun _ _ _ _ _ => (pe_callS G__law_pieces.2.2.2.2 (hr.mono (by first | decide | omega)) rfl G__law_pieces.1 G__law_pieces.2.1 G__law_pieces.2.2.1 (fun σ => L2N.passAt takes0N σ) (pa_cons (pe_callS G__law_with.2.2.2.2 (hr.mono (by first | decide | omega)) rfl G__law_with.1 G__law_with.2.1 G__law_with.2.2.1 (fun σ => L2N.passAt takes0N σ) (pa_cons (pv 4) (pa_cons pe_int (pa_cons (pv 11) (pa_cons pe_int pa_nil))))) pa_nil)))) pa_nil))) (pss_cons (ps_if (pt_not (pt_val (pe_callS G__law_all_same.2.2.2.2 (hr.mono (by first | decide | omega)) rfl G__law_all_same.1 G__law_all_same.2.1 G__law_all_same.2.2.1 (fun σ => L2N.passAt tk σ) (pa_cons (pe_callS G_pieces_by_most.2.2.2.2 (hr.mono (by first | decide | omega)) rfl G_pieces_by_most.1 G_pieces_by_most.2.1 G_pieces_by_most.2.2.1 (fun σ => L2N.passAt tk σ) (pa_cons (pv 4) (pa_cons pe_int (pa_cons (pv 5) pa_nil)))) (pa_cons (pv 6) pa_nil))))) (pss_one (ps_ret pe_bl)) pss_nil) (pss_cons (ps_set (i := 7) nd rfl (by first | exact Or.inl rfl | exact Or.inr rfl) (pe_callS G__law_with.2.2.2.2 (hr.mono (by first | decide | omega)) rfl G__law_with.1 G__law_with.2.1 G__law_with.2.2.1 (fun σ => L2N.passAt tk σ) (pa_cons (pv 4) (pa_cons pe_int (pa_cons (pe_op op_addA pe_int (pe_callS G__law_roll.2.2.2.2 (hr.mono (by first | decide | omega)) rfl G__law_roll.1 G__law_roll.2.1 G__law_roll.2.2.1 (fun σ => L2N.passAt tk σ) (pa_cons (pv 0) (pa_cons (pe_op op_sub (pv 1) pe_int) pa_nil)))) (pa_cons pe_int pa_nil)))))) (pss_cons (ps_set (i := 8) nd rfl (by first | exact Or.inl rfl | exact Or.inr rfl) (pe_tup (pa_cons (pe_callS G_pieces_by_most.2.2.2.2 (hr.mono (by first | decide | omega)) rfl G_pieces_by_most.1 G_pieces_by_most.2.1 G_pieces_by_most.2.2.1 (fun σ => L2N.passAt tk σ) (pa_cons (pv 7) (pa_cons pe_int (pa_cons (pv 5) pa_nil)))) (pa_cons (pe_callS G_lost_by_bounds.2.2.2.2 (hr.mono (by first | decide | omega)) rfl G_lost_by_bounds.1 G_lost_by_bounds.2.1 G_lost_by_bounds.2.2.1 (fun σ => L2N.passAt tk σ) (pa_cons (pv 7) pa_nil)) (pa_cons (pe_callS G_least_most.2.2.2.2 (hr.mono (by first | decide | omega)) rfl G_least_most.1 G_least_most.2.1 G_least_most.2.2.1 (fun σ => L2N.passAt tk σ) (pa_cons (pv 7) (pa_cons pe_int pa_nil))) pa_nil))))) (pss_cons (ps_if (pt_not (pt_val (pe_callS G__law_all_same.2.2.2.2 (hr.mono (by first | decide | omega)) rfl G__law_all_same.1 G__law_all_same.2.1 G__law_all_same.2.2.1 (fun σ => L2N.passAt tk σ) (pa_cons (pv 8) (pa_cons (pe_tup (pa_cons (pv 6) (pa_cons (pe_op op_sub (pe_callS G__law_pieces.2.2.2.2 (hr.mono (by first | decide | omega)) rfl G__law_pieces.1 G__law_pieces.2.1 G__law_pieces.2.2.1 (fun σ => L2N.passAt tk σ) (pa_cons (pv 7) pa_nil)) pe_int) (pa_cons (pe_callS G__law_least.2.2.2.2 (hr.mono (by first | decide | omega)) rfl G__law_least.1 G__law_least.2.1 G__law_least.2.2.1 (fun σ => L2N.passAt tk σ) (pa_cons (pv 7) (pa_cons pe_int (pa_cons pe_int (pa_cons pe_int pa_nil))))) pa_nil)))) pa_nil))))) (pss_one (ps_ret pe_bl)) pss_nil) (pss_cons (ps_set (i := 9) nd rfl (by first | exact Or.inl rfl | exact Or.inr rfl) (pe_tup (pa_cons (pe_tup pa_nil) (pa_cons (pe_tup (pa_cons (pv 3) pa_nil)) (pa_cons (pe_op op_addA (pv 2) (pv 2)) pa_nil))))) (pss_cons (ps_if (pt_not (pt_val (pe_callS G__law_all_same.2.2.2.2 (hr.mono (by first | decide | omega)) rfl G__law_all_same.1 G__law_all_same.2.1 G__law_all_same.2.2.1 (fun σ => L2N.passAt tk σ) (pa_cons (pe_callS G_pieces_by_wide.2.2.2.2 (hr.mono (by first | decide | omega)) rfl G_pieces_by_wide.1 G_pieces_by_wide.2.1 G_pieces_by_wide.2.2.1 (fun σ => L2N.passAt tk σ) (pa_cons (pv 9) (pa_cons pe_int (pa_cons (pe_tup (pa_cons (pv 1) (pa_cons (pe_op op_sub (pv 1) pe_int) pa_nil))) pa_nil)))) (pa_cons (pe_tup (pa_cons (pe_op op_addA (pv 1) pe_int) (pa_cons (pe_op op_mulA pe_int (pv 1)) pa_nil))) pa_nil))))) (pss_one (ps_ret pe_bl)) pss_nil) (pss_cons (ps_set (i := 10) nd rfl (by first | exact Or.inl rfl | exact Or.inr rfl) (pe_callS G__law_with.2.2.2.2 (hr.mono (by first | decide | omega)) rfl G__law_with.1 G__law_with.2.1 G__law_with.2.2.1 (fun σ => L2N.passAt tk σ) (pa_cons (pv 9) (pa_cons pe_int (pa_cons pe_int (pa_cons (pe_op op_addA pe_int (pe_callS G__law_roll.2.2.2.2 (hr.mono (by first | decide | omega)) rfl G__law_roll.1 G__law_roll.2.1 G__law_roll.2.2.1 (fun σ => L2N.passAt tk σ) (pa_cons (pv 0) (pa_cons (pe_op op_sub (pv 1) pe_int) pa_nil)))) pa_nil)))))) (pss_cons (ps_set (i := 8) nd rfl (by first | exact Or.inl rfl | exact Or.inr rfl) (pe_tup (pa_cons (pe_callS G_pieces_by_wide.2.2.2.2 (hr.mono (by first | decide | omega)) rfl G_pieces_by_wide.1 G_pieces_by_wide.2.1 G_pieces_by_wide.2.2.1 (fun σ => L2N.passAt tk σ) (pa_cons (pv 10) (pa_cons pe_int (pa_cons (pe_tup (pa_cons (pv 1) pa_nil)) pa_nil)))) (pa_cons (pe_callS G_least_wide.2.2.2.2 (hr.mono (by first | decide | omega)) rfl G_least_wide.1 G_least_wide.2.1 G_least_wide.2.2.1 (fun σ => L2N.passAt tk σ) (pa_cons (pv 10) (pa_cons pe_int pa_nil))) (pa_cons (pe_callS G_lost_by_bounds.2.2.2.2 (hr.mono (by first | decide | omega)) rfl G_lost_by_bounds.1 G_lost_by_bounds.2.1 G_lost_by_bounds.2.2.1 (fun σ => L2N.passAt tk σ) (pa_cons (pv 10) pa_nil)) pa_nil))))) (pss_cons (ps_if (pt_not (pt_val (pe_callS G__law_all_same.2.2.2.2 (hr.mono (by first | decide | omega)) rfl G__law_all_same.1 G__law_all_same.2.1 G__law_all_same.2.2.1 (fun σ => L2N.passAt tk σ) (pa_cons (pv 8) (pa_cons (pe_tup (pa_cons (pe_tup (pa_cons (pe_op op_addA (pv 1) pe_int) pa_nil)) (pa_cons pe_int (pa_cons (pe_op op_sub (pv 1) pe_int) pa_nil)))) pa_nil))))) (pss_one (ps_ret pe_bl)) pss_nil) (pss_one (ps_ret (pe_callS G__law_all_same.2.2.2.2 (hr.mono (by first | decide | omega)) rfl G__law_all_same.1 G__law_all_same.2.1 G__law_all_same.2.2.1 (fun σ => L2N.passAt tk σ) (pa_cons (pe_tup (pa_cons (pe_callS G_least_wide.2.2.2.2 (hr.mono (by first | decide | omega)) rfl G_least_wide.1 G_least_wide.2.1 G_least_wide.2.2.1 (fun σ => L2N.passAt tk σ) (pa_cons (pv 9) (pa_cons pe_int pa_nil))) (pa_cons (pe_callS G_least_most.2.2.2.2 (hr.mono (by first | decide | omega)) rfl G_least_most.1 G_least_most.2.1 G_least_most.2.2.1 (fun σ => L2N.passAt tk σ) (pa_cons (pv 9) (pa_cons pe_int pa_nil))) (pa_cons (pe_callS G_lost_by_bounds.2.2.2.2 (hr.mono (by first | decide | omega)) rfl G_lost_by_bounds.1 G_lost_by_bounds.2.1 G_lost_by_bounds.2.2.1 (fun σ => L2N.passAt tk σ) (pa_cons (pv 9) pa_nil)) pa_nil)))) (pa_cons (pe_tup (pa_cons (pv 1) (pa_cons (pv 1) (pa_cons pe_int pa_nil)))) pa_nil))))))))))))))))))))) (ss_cut (ss_asg (sim_op rs_add sim_int (sim_call (simc_ref (simc_val sim_int simc_nil)))) (g_name 1)) (ss_cut (ss_asg (sim_sl (sim_str [97, 98, 99, 100, 101, 102, 103, 104, 105, 106, 107, 108, 109, 110, 111, 112, 113, 114, 115, 116, 117] (by decide +kernel) (by decide)) sim_no (sim_part sim_varF)) (g_name 2)) (ss_cut (ss_asg (sim_tup 5 (sima_cons (sim_str [98, 97, 99, 107] (by decide +kernel) (by decide)) (sima_cons sim_int (sima_cons (sim_op rs_eqA (sim_call (simc_ref (simc_val sim_int simc_nil))) sim_int) (sima_cons sim_bl (sima_cons sim_int sima_nil)))))) (g_name 3)) (ss_cut (ss_asg (sim_tup 3 (sima_cons (sim_tup 1 (sima_cons sim_varF sima_nil)) (sima_cons (sim_tup 3 (sima_cons (sim_tup 4 (sima_cons (sim_str [101, 108, 100, 101, 114] (by decide +kernel) (by decide)) (sima_cons sim_int (sima_cons sim_bl (sima_cons sim_int sima_nil))))) (sima_cons (sim_tup 4 (sima_cons (sim_str [101, 108, 100, 101, 114] (by decide +kernel) (by decide)) (sima_cons sim_int (sima_cons sim_bl (sima_cons sim_int sima_nil))))) (sima_cons sim_varF sima_nil)))) (sima_cons (sim_op rs_add sim_varF sim_varF) sima_nil)))) (g_name 4)) (ss_cut (ss_if (simt_not (simt_B (sim_call0 (sima_cons (sim_tup 3 (sima_cons (sim_call0 (sima_cons sim_varF (sima_cons sim_int sima_nil))) (sima_cons (sim_call0 (sima_cons sim_varF (sima_cons sim_int sima_nil))) (sima_cons (sim_call0 (sima_cons sim_varF (sima_cons sim_int sima_nil))) sima_nil)))) (sima_cons (sim_tup 3 (sima_cons sim_varF (sima_cons sim_int (sima_cons sim_int sima_nil)))) sima_nil))))) (ss_ret sim_bl) ss_nil) (ss_cons (ss_asg (sim_tupRg2 sim_int (sim_op rs_add sim_varF sim_int)) (g_name 5)) (ss_cut (ss_asg (sim_cb cs_tuple (sima_cons (SimN.fz (simn_lc (simi_any sim_varF) (g_name 11) simt_yes (sim_call0 (sima_cons (sim_call0 (sima_cons sim_varF (sima_cons sim_int (sima_cons sim_varF (sima_cons sim_int sima_nil))))) sima_nil)))) sima_nil)) (g_name 6)) (ss_cut (ss_if (simt_not (simt_B (sim_call0 (sima_cons (sim_call0 (sima_cons sim_varF (sima_cons sim_int (sima_cons sim_varF sima_nil)))) (sima_cons sim_varF sima_nil))))) (ss_ret sim_bl) ss_nil) (ss_cut (ss_asg (sim_call0 (sima_cons sim_varF (sima_cons sim_int (sima_cons (sim_op rs_add sim_int (sim_call (simc_ref (simc_val (sim_op rs_sub sim_varF sim_int) simc_nil)))) (sima_cons sim_int sima_nil))))) (g_name 7)) (ss_cut (ss_asg (sim_tup 3 (sima_cons (sim_call0 (sima_cons sim_varF (sima_cons sim_int (sima_cons sim_varF sima_nil)))) (sima_cons (sim_call0 (sima_cons sim_varF sima_nil)) (sima_cons (sim_call0 (sima_cons sim_varF (sima_cons sim_int sima_nil))) sima_nil)))) (g_name 8)) (ss_cut (ss_if (simt_not (simt_B (sim_call0 (sima_cons sim_varF (sima_cons (sim_tup 3 (sima_cons sim_varF (sima_cons (sim_op rs_sub (sim_call0 (sima_cons sim_varF sima_nil)) sim_int) (sima_cons (sim_call0 (sima_cons sim_varF (sima_cons sim_int (sima_cons sim_int (sima_cons sim_int sima_nil))))) sima_nil)))) sima_nil))))) (ss_ret sim_bl) ss_nil) (ss_cons (ss_asg (sim_tup 3 (sima_cons (sim_tup 0 sima_nil) (sima_cons (sim_tup 1 (sima_cons sim_varF sima_nil)) (sima_cons (sim_op rs_add sim_varF sim_varF) sima_nil)))) (g_name 9)) (ss_cut (ss_if (simt_not (simt_B (sim_call0 (sima_cons (sim_call0 (sima_cons sim_varF (sima_cons sim_int (sima_cons (sim_tup 2 (sima_cons sim_varF (sima_cons (sim_op rs_sub sim_varF sim_int) sima_nil))) sima_nil)))) (sima_cons (sim_tup 2 (sima_cons (sim_op rs_add sim_varF sim_int) (sima_cons (sim_op rs_mul sim_int sim_varF) sima_nil))) sima_nil))))) (ss_ret sim_bl) ss_nil) (ss_cut (ss_asg (sim_call0 (sima_cons sim_varF (sima_cons sim_int (sima_cons sim_int (sima_cons (sim_op rs_add sim_int (sim_call (simc_ref (simc_val (sim_op rs_sub sim_varF sim_int) simc_nil)))) sima_nil))))) (g_name 10)) (ss_cut (ss_asg (sim_tup 3 (sima_cons (sim_call0 (sima_cons sim_varF (sima_cons sim_int (sima_cons (sim_tup 1 (sima_cons sim_varF sima_nil)) sima_nil)))) (sima_cons (sim_call0 (sima_cons sim_varF (sima_cons sim_int sima_nil))) (sima_cons (sim_call0 (sima_cons sim_varF sima_nil)) sima_nil)))) (g_name 8)) (ss_cut (ss_if (simt_not (simt_B (sim_call0 (sima_cons sim_varF (sima_cons (sim_tup 3 (sima_cons (sim_tup 1 (sima_cons (sim_op rs_add sim_varF sim_int) sima_nil)) (sima_cons sim_int (sima_cons (sim_op rs_sub sim_varF sim_int) sima_nil)))) sima_nil))))) (ss_ret sim_bl) ss_nil) (ss_ret (sim_call0 (sima_cons (sim_tup 3 (sima_cons (sim_call0 (sima_cons sim_varF (sima_cons sim_int sima_nil))) (sima_cons (sim_call0 (sima_cons sim_varF (sima_cons sim_int sima_nil))) (sima_cons (sim_call0 (sima_cons sim_varF sima_nil)) sima_nil)))) (sima_cons (sim_tup 3 (sima_cons sim_varF (sima_cons sim_varF (sima_cons sim_int sima_nil)))) sima_nil)))))))))))))))))))) wp__law_bounded
theorem ok__law_bounded (T : Top K mg) : Ok P w K mg base "_law_bounded" s__law_bounded ["reel"] [true] 10 sp__law_bounded := ok_of T.t__law_bounded fun _ _ F => fo__law_bounded T F
theorem fo_law (T : Top K mg) {f : Addr} {fd : FuncData} (F : Fun K "law" "law" s_law f fd) : FnOk P w K mg base (L2N.CX P w) 13 f fd ["script"] (spOf K [false] sp_law) := by
  obtain ⟨f__law_reel, fd__law_reel, G__law_reel⟩ := ok__law_reel (P := P) (w := w) (base := base) T
  obtain ⟨f__law_roll, fd__law_roll, G__law_roll⟩ := ok__law_roll (P := P) (w := w) (base := base) T
  obtain ⟨f__law_case_right, fd__law_case_right, G__law_case_right⟩ := ok__law_case_right (P := P) (w := w) (base := base) T
  obtain ⟨f__law_bounded, fd__law_bounded, G__law_bounded⟩ := ok__law_bounded (P := P) (w := w) (base := base) T
  obtain ⟨f_pieces_by_wide, fd_pieces_by_wide, G_pieces_by_wide⟩ := ok_pieces_by_wide (P := P) (w := w) (base := base) T
  obtain ⟨f_least_most, fd_least_most, G_least_most⟩ := ok_least_most (P := P) (w := w) (base := base) T
  obtain ⟨f_pieces_by_most, fd_pieces_by_most, G_pieces_by_most⟩ := ok_pieces_by_most (P := P) (w := w) (base := base) T
  obtain ⟨f__law_all_same, fd__law_all_same, G__law_all_same⟩ := ok__law_all_same (P := P) (w := w) (base := base) T
  obtain ⟨f_lost_by_bounds, fd_lost_by_bounds, G_lost_by_bounds⟩ := ok_lost_by_bounds (P := P) (w := w) (base := base) T
  obtain ⟨f_least_wide, fd_least_wide, G_least_wide⟩ := ok_least_wide (P := P) (w := w) (base := base) T
  refine fn_ok [false] sp_law F sc_law rfl (fun cdv A outer s H E hr => ?_)
  have nd := sc_law.nd
  have hu := hr.units
  have tk : L2N.Takes (cxOf (L2N.CX P w) P w K mg base ["script", "reel", "long", "lap", "short", "rules", "case", "told"] "law" (defScope s_law) f cdv A outer s H E) (fun cls d _ H => E cls d H) := L2N.takes_of rfl rfl rfl rfl
  exact bd_mk (t := m_law) (pss_cons (ps_set (i := 1) nd rfl (by first | exact Or.inl rfl | exact Or.inr rfl) (pe_callS G__law_reel.2.2.2.2 (hr.mono (by first | decide | omega)) rfl G__law_reel.1 G__law_reel.2.1 G__law_reel.2.2.1 (fun σ => L2N.passAt tk σ) (pa_cons (pv 0) pa_nil))) (pss_cons (ps_set (i := 2) nd rfl (by first | exact Or.inl rfl | exact Or.inr rfl) (pe_cmpR (op_eqX hu) (pe_callS G__law_roll.2.2.2.2 (hr.mono (by first | decide | omega)) rfl G__law_roll.1 G__law_roll.2.1 G__law_roll.2.2.1 (fun σ => L2N.passAt tk σ) (pa_cons (pv 1) (pa_cons pe_int pa_nil))) pe_int (nomark _))) (pss_cons (ps_for (passes_of rfl) rfl (pi_range1 rfl T.n_range (pa_cons pe_int pa_nil)) (pg_name (i := 3) nd rfl (by first | exact Or.inl rfl | exact Or.inr rfl)) (pss_one (ps_if (pt_not (pt_val (pe_callS G__law_case_right.2.2.2.2 (hr.mono (by first | decide | omega)) rfl G__law_case_right.1 G__law_case_right.2.1 G__law_case_right.2.2.1 (fun σ => L2N.passAt tk σ) (pa_cons (pv 1) (pa_cons (pe_and (pv 2) (pe_one (pe_cmpR (op_eqX hu) (pv 3) pe_int (nomark _)))) pa_nil))))) (pss_one (ps_ret pe_bl)) pss_nil))) (pss_cons (ps_if (pt_not (pt_val (pe_callS G__law_bounded.2.2.2.2 (hr.mono (by first | decide | omega)) rfl G__law_bounded.1 G__law_bounded.2.1 G__law_bounded.2.2.1 (fun σ => L2N.passAt tk σ) (pa_cons (pv 1) pa_nil)))) (pss_one (ps_ret pe_bl)) pss_nil) (pss_cons (ps_set (i := 4) nd rfl (by first | exact Or.inl rfl | exact Or.inr rfl) (pe_tup (pa_cons (pe_tup (pa_cons pe_str pa_nil)) (pa_cons (pe_tup (pa_cons (pe_tup (pa_cons pe_str (pa_cons pe_int (pa_cons pe_bl (pa_cons pe_int pa_nil))))) pa_nil)) (pa_cons pe_str pa_nil))))) (pss_cons (ps_set (i := 5) nd rfl (by first | exact Or.inl rfl | exact Or.inr rfl) (pe_tup (pa_cons (pe_tup (pa_cons pe_str (pa_cons pe_int (pa_cons pe_bl (pa_cons pe_int pa_nil))))) (pa_cons (pe_tup (pa_cons pe_str (pa_cons pe_int (pa_cons pe_bl (pa_cons pe_bl (pa_cons pe_int pa_nil)))))) (pa_cons (pe_tup (pa_cons pe_str (pa_cons pe_int (pa_cons pe_bl (pa_cons pe_int pa_nil))))) pa_nil))))) (pss_cons (ps_set (i := 6) nd rfl (by first | exact Or.inl rfl | exact Or.inr rfl) (pe_tup (pa_cons (pe_tup (pa_cons pe_str pa_nil)) (pa_cons (pv 5) (pa_cons pe_str pa_nil))))) (pss_cons (ps_set (i := 7) nd rfl (by first | exact Or.inl rfl | exact Or.inr rfl) (pe_tup (pa_cons (pe_callS G_pieces_by_most.2.2.2.2 (hr.mono (by first | decide | omega)) rfl G_pieces_by_most.1 G_pieces_by_most.2.1 G_pieces_by_most.2.2.1 (fun σ => L2N.passAt tk σ) (pa_cons (pv 4) (pa_cons pe_int (pa_cons (pe_tup (pa_cons pe_int (pa_cons pe_int pa_nil))) pa_nil)))) (pa_cons (pe_callS G_least_most.2.2.2.2 (hr.mono (by first | decide | omega)) rfl G_least_most.1 G_least_most.2.1 G_least_most.2.2.1 (fun σ => L2N.passAt tk σ) (pa_cons (pv 4) (pa_cons pe_int pa_nil))) (pa_cons (pe_callS G_pieces_by_wide.2.2.2.2 (hr.mono (by first | decide | omega)) rfl G_pieces_by_wide.1 G_pieces_by_wide.2.1 G_pieces_by_wide.2.2.1 (fun σ => L2N.passAt tk σ) (pa_cons (pv 6) (pa_cons pe_int (pa_cons (pe_tup (pa_cons pe_int (pa_cons pe_int pa_nil))) pa_nil)))) pa_nil))))) (pss_one (ps_ret (pe_callS G__law_all_same.2.2.2.2 (hr.mono (by first | decide | omega)) rfl G__law_all_same.1 G__law_all_same.2.1 G__law_all_same.2.2.1 (fun σ => L2N.passAt tk σ) (pa_cons (pe_op op_addA (pv 7) (pe_tup (pa_cons (pe_callS G_least_wide.2.2.2.2 (hr.mono (by first | decide | omega)) rfl G_least_wide.1 G_least_wide.2.1 G_least_wide.2.2.1 (fun σ => L2N.passAt tk σ) (pa_cons (pv 6) (pa_cons pe_int pa_nil))) (pa_cons (pe_callS G_lost_by_bounds.2.2.2.2 (hr.mono (by first | decide | omega)) rfl G_lost_by_bounds.1 G_lost_by_bounds.2.1 G_lost_by_bounds.2.2.1 (fun σ => L2N.passAt tk σ) (pa_cons (pv 6) pa_nil)) pa_nil)))) (pa_cons (pe_tup (pa_cons (pe_tup (pa_cons pe_int (pa_cons pe_int pa_nil))) (pa_cons pe_int (pa_cons (pe_tup (pa_cons pe_int (pa_cons pe_int pa_nil))) (pa_cons pe_int (pa_cons pe_int pa_nil)))))) pa_nil))))))))))))) (ss_cons (ss_setW (i := 1) (simw_call (simc_val sim_varF simc_nil))) (ss_cut (ss_asg (sim_op rs_eqA (sim_call (simc_ref (simc_val sim_int simc_nil))) sim_int) (g_name 2)) (ss_cons (ss_for (simi_rng1 sim_int) (g_name 3) (ss_if (simt_not (simt_B (sim_call (simc_ref (simc_val (sim_andV sim_varF (sim_op rs_eqA sim_varF sim_int)) simc_nil))))) (ss_ret sim_bl) ss_nil)) (ss_cons (ss_if (simt_not (simt_B (sim_call (simc_ref simc_nil)))) (ss_ret sim_bl) ss_nil) (ss_cons (ss_asg (sim_tup 3 (sima_cons (sim_tup 1 (sima_cons (sim_str [97, 98] (by decide +kernel) (by decide)) sima_nil)) (sima_cons (sim_tup 1 (sima_cons (sim_tup 4 (sima_cons (sim_str [101, 108, 100, 101, 114] (by decide +kernel) (by decide)) (sima_cons sim_int (sima_cons sim_bl (sima_cons sim_int sima_nil))))) sima_nil)) (sima_cons (sim_str [97, 98, 97, 98] (by decide +kernel) (by decide)) sima_nil)))) (g_name 4)) (ss_cons (ss_asg (sim_tup 3 (sima_cons (sim_tup 4 (sima_cons (sim_str [101, 108, 100, 101, 114] (by decide +kernel) (by decide)) (sima_cons sim_int (sima_cons sim_bl (sima_cons sim_int sima_nil))))) (sima_cons (sim_tup 5 (sima_cons (sim_str [98, 97, 99, 107] (by decide +kernel) (by decide)) (sima_cons sim_int (sima_cons sim_bl (sima_cons sim_bl (sima_cons sim_int sima_nil)))))) (sima_cons (sim_tup 4 (sima_cons (sim_str [101, 108, 100, 101, 114] (by decide +kernel) (by decide)) (sima_cons sim_int (sima_cons sim_bl (sima_cons sim_int sima_nil))))) sima_nil)))) (g_name 5)) (ss_cut (ss_asg (sim_tup 3 (sima_cons (sim_tup 1 (sima_cons (sim_str [97, 98, 99, 97, 98] (by decide +kernel) (by decide)) sima_nil)) (sima_cons sim_varF (sima_cons (sim_str [97, 98, 99, 98, 97, 97, 98, 97, 98] (by decide +kernel) (by decide)) sima_nil)))) (g_name 6)) (ss_cons (ss_asg (sim_tup 3 (sima_cons (sim_call0 (sima_cons sim_varF (sima_cons sim_int (sima_cons (sim_tup 2 (sima_cons sim_int (sima_cons sim_int sima_nil))) sima_nil)))) (sima_cons (sim_call0 (sima_cons sim_varF (sima_cons sim_int sima_nil))) (sima_cons (sim_call0 (sima_cons sim_varF (sima_cons sim_int (sima_cons (sim_tup 2 (sima_cons sim_int (sima_cons sim_int sima_nil))) sima_nil)))) sima_nil)))) (g_name 7)) (ss_ret (sim_call0 (sima_cons (sim_op rs_add sim_varF (sim_tup 2 (sima_cons (sim_call0 (sima_cons sim_varF (sima_cons sim_int sima_nil))) (sima_cons (sim_call0 (sima_cons sim_varF sima_nil)) sima_nil)))) (sima_cons (sim_tup 5 (sima_cons (sim_tup 2 (sima_cons sim_int (sima_cons sim_int sima_nil))) (sima_cons sim_int (sima_cons (sim_tup 2 (sima_cons sim_int (sima_cons sim_int sima_nil))) (sima_cons sim_int (sima_cons sim_int sima_nil)))))) sima_nil)))))))))))) wp_law
theorem ok_law (T : Top K mg) : Ok P w K mg base "law" s_law ["script"] [false] 13 sp_law := ok_of T.t_law fun _ _ F => fo_law T F
end
theorem law_end {l : PySem.W.OpenLaw} {w : World} {K : Frg} {mg : Str → Option Value} {fa : Addr} (T : Top K mg) (hmg : mg "law" = some (.ref fa)) :
    ∃ fd : FuncData, (∀ (s : Shared) (u : Value), BindsTo s fd ⟨[u], []⟩ [("script", u)]) ∧ ∀ base : Heap, K.In base → base.Ns mainGlobals mg → FnOk l.prog w K mg base (L2N.CX l.prog w) 13 fa fd ["script"] (spOf K [false] spLaw) :=
  law_F hmg T.t_law fun base f fd F => fo_law T F
theorem top_mk {K : Frg} {mg : Str → Option Value} {h : Heap} (X : K.In h) (G : h.Ns mainGlobals mg)
    {f0 : Addr} {od0 an0 : Option Addr} {sl0 : Array (Option Value)} {oc0 kV0 dc0 pm0 cd0 ct0 : Value}
    {f1 : Addr} {od1 an1 : Option Addr} {sl1 : Array (Option Value)} {oc1 kV1 dc1 pm1 cd1 ct1 : Value}
    {f2 : Addr} {od2 an2 : Option Addr} {sl2 : Array (Option Value)} {oc2 kV2 dc2 pm2 cd2 ct2 : Value}
    {f3 : Addr} {od3 an3 : Option Addr} {sl3 : Array (Option Value)} {oc3 kV3 dc3 pm3 cd3 ct3 : Value}
    {f4 : Addr} {od4 an4 : Option Addr} {sl4 : Array (Option Value)} {oc4 kV4 dc4 pm4 cd4 ct4 : Value}
    {f5 : Addr} {od5 an5 : Option Addr} {sl5 : Array (Option Value)} {oc5 kV5 dc5 pm5 cd5 ct5 : Value}
    {f6 : Addr} {od6 an6 : Option Addr} {sl6 : Array (Option Value)} {oc6 kV6 dc6 pm6 cd6 ct6 : Value}
    {f7 : Addr} {od7 an7 : Option Addr} {sl7 : Array (Option Value)} {oc7 kV7 dc7 pm7 cd7 ct7 : Value}
    {f8 : Addr} {od8 an8 : Option Addr} {sl8 : Array (Option Value)} {oc8 kV8 dc8 pm8 cd8 ct8 : Value}
    {f9 : Addr} {od9 an9 : Option Addr} {sl9 : Array (Option Value)} {oc9 kV9 dc9 pm9 cd9 ct9 : Value}
    {f10 : Addr} {od10 an10 : Option Addr} {sl10 : Array (Option Value)} {oc10 kV10 dc10 pm10 cd10 ct10 : Value}
    {f11 : Addr} {od11 an11 : Option Addr} {sl11 : Array (Option Value)} {oc11 kV11 dc11 pm11 cd11 ct11 : Value}
    {f12 : Addr} {od12 an12 : Option Addr} {sl12 : Array (Option Value)} {oc12 kV12 dc12 pm12 cd12 ct12 : Value}
    {f13 : Addr} {od13 an13 : Option Addr} {sl13 : Array (Option Value)} {oc13 kV13 dc13 pm13 cd13 ct13 : Value}
    {f14 : Addr} {od14 an14 : Option Addr} {sl14 : Array (Option Value)} {oc14 kV14 dc14 pm14 cd14 ct14 : Value}
    {f15 : Addr} {od15 an15 : Option Addr} {sl15 : Array (Option Value)} {oc15 kV15 dc15 pm15 cd15 ct15 : Value}
    {f16 : Addr} {od16 an16 : Option Addr} {sl16 : Array (Option Value)} {oc16 kV16 dc16 pm16 cd16 ct16 : Value}
    {f17 : Addr} {od17 an17 : Option Addr} {sl17 : Array (Option Value)} {oc17 kV17 dc17 pm17 cd17 ct17 : Value}
    {f18 : Addr} {od18 an18 : Option Addr} {sl18 : Array (Option Value)} {oc18 kV18 dc18 pm18 cd18 ct18 : Value}
    {f19 : Addr} {od19 an19 : Option Addr} {sl19 : Array (Option Value)} {oc19 kV19 dc19 pm19 cd19 ct19 : Value}
    {f20 : Addr} {od20 an20 : Option Addr} {sl20 : Array (Option Value)} {oc20 kV20 dc20 pm20 cd20 ct20 : Value}
    {f21 : Addr} {od21 an21 : Option Addr} {sl21 : Array (Option Value)} {oc21 kV21 dc21 pm21 cd21 ct21 : Value}
    {f22 : Addr} {od22 an22 : Option Addr} {sl22 : Array (Option Value)} {oc22 kV22 dc22 pm22 cd22 ct22 : Value}
    {f23 : Addr} {od23 an23 : Option Addr} {sl23 : Array (Option Value)} {oc23 kV23 dc23 pm23 cd23 ct23 : Value}
    {f24 : Addr} {od24 an24 : Option Addr} {sl24 : Array (Option Value)} {oc24 kV24 dc24 pm24 cd24 ct24 : Value}
    {f25 : Addr} {od25 an25 : Option Addr} {sl25 : Array (Option Value)} {oc25 kV25 dc25 pm25 cd25 ct25 : Value}
    {f26 : Addr} {od26 an26 : Option Addr} {sl26 : Array (Option Value)} {oc26 kV26 dc26 pm26 cd26 ct26 : Value}
    {f27 : Addr} {od27 an27 : Option Addr} {sl27 : Array (Option Value)} {oc27 kV27 dc27 pm27 cd27 ct27 : Value}
    {f28 : Addr} {od28 an28 : Option Addr} {sl28 : Array (Option Value)} {oc28 kV28 dc28 pm28 cd28 ct28 : Value}
    {f29 : Addr} {od29 an29 : Option Addr} {sl29 : Array (Option Value)} {oc29 kV29 dc29 pm29 cd29 ct29 : Value}
    {f30 : Addr} {od30 an30 : Option Addr} {sl30 : Array (Option Value)} {oc30 kV30 dc30 pm30 cd30 ct30 : Value}
    {f31 : Addr} {od31 an31 : Option Addr} {sl31 : Array (Option Value)} {oc31 kV31 dc31 pm31 cd31 ct31 : Value}
    {f32 : Addr} {od32 an32 : Option Addr} {sl32 : Array (Option Value)} {oc32 kV32 dc32 pm32 cd32 ct32 : Value}
    {f33 : Addr} {od33 an33 : Option Addr} {sl33 : Array (Option Value)} {oc33 kV33 dc33 pm33 cd33 ct33 : Value}
    {f34 : Addr} {od34 an34 : Option Addr} {sl34 : Array (Option Value)} {oc34 kV34 dc34 pm34 cd34 ct34 : Value}
    {f35 : Addr} {od35 an35 : Option Addr} {sl35 : Array (Option Value)} {oc35 kV35 dc35 pm35 cd35 ct35 : Value}
    {f36 : Addr} {od36 an36 : Option Addr} {sl36 : Array (Option Value)} {oc36 kV36 dc36 pm36 cd36 ct36 : Value}
    {f37 : Addr} {od37 an37 : Option Addr} {sl37 : Array (Option Value)} {oc37 kV37 dc37 pm37 cd37 ct37 : Value}
    {f38 : Addr} {od38 an38 : Option Addr} {sl38 : Array (Option Value)} {oc38 kV38 dc38 pm38 cd38 ct38 : Value}
    {tk_MOST_WIDE : Tok}
    {XC0 : Addr}
    {XC1 : Addr}
    {XC2 : Addr}
    {XC3 : Addr}
    {XC4 : Addr}
    {XC12 : Addr}
    {xnm12 xq12 : Str} {xN12 xI12 : Addr} {xbs12 xbm12 xsu12 : List Value} {xsn12 : List Str} {xab12 : Bool} {xco12 : Option Bool} {xdd12 xod12 xan12 : Option Addr} {xk012 xk112 xk212 xk312 xk512 : Option Value} {xsl12 : Array (Option Value)} {xoc12 xkV12 xdc12 xpm12 xcd12 xct12 : Value}
    (a0 : PySem.W.nsIn K mainGlobals "is_number" = some (some (.ref f0))) (l0 : K.lookup f0 = some ⟨oc0, od0, .func (PySem.W.fnOf "is_number" "is_number" (defArgs s_is_number) (defBody s_is_number) (defScope s_is_number) .none kV0 dc0 pm0 an0 cd0 ct0), sl0⟩) (c0 : PySem.W.codeIn K cd0 "is_number" = true) (k0 : PySem.W.keepIn K (.ref f0) = true)
    (a1 : PySem.W.nsIn K mainGlobals "check_stretch" = some (some (.ref f1))) (l1 : K.lookup f1 = some ⟨oc1, od1, .func (PySem.W.fnOf "check_stretch" "check_stretch" (defArgs s_check_stretch) (defBody s_check_stretch) (defScope s_check_stretch) .none kV1 dc1 pm1 an1 cd1 ct1), sl1⟩) (c1 : PySem.W.codeIn K cd1 "check_stretch" = true) (k1 : PySem.W.keepIn K (.ref f1) = true)
    (a2 : PySem.W.nsIn K mainGlobals "is_turning" = some (some (.ref f2))) (l2 : K.lookup f2 = some ⟨oc2, od2, .func (PySem.W.fnOf "is_turning" "is_turning" (defArgs s_is_turning) (defBody s_is_turning) (defScope s_is_turning) .none kV2 dc2 pm2 an2 cd2 ct2), sl2⟩) (c2 : PySem.W.codeIn K cd2 "is_turning" = true) (k2 : PySem.W.keepIn K (.ref f2) = true)
    (a3 : PySem.W.nsIn K mainGlobals "_heard_by" = some (some (.ref f3))) (l3 : K.lookup f3 = some ⟨oc3, od3, .func (PySem.W.fnOf "_heard_by" "_heard_by" (defArgs s__heard_by) (defBody s__heard_by) (defScope s__heard_by) .none kV3 dc3 pm3 an3 cd3 ct3), sl3⟩) (c3 : PySem.W.codeIn K cd3 "_heard_by" = true) (k3 : PySem.W.keepIn K (.ref f3) = true)
    (a4 : PySem.W.nsIn K mainGlobals "is_heard" = some (some (.ref f4))) (l4 : K.lookup f4 = some ⟨oc4, od4, .func (PySem.W.fnOf "is_heard" "is_heard" (defArgs s_is_heard) (defBody s_is_heard) (defScope s_is_heard) .none kV4 dc4 pm4 an4 cd4 ct4), sl4⟩) (c4 : PySem.W.codeIn K cd4 "is_heard" = true) (k4 : PySem.W.keepIn K (.ref f4) = true)
    (a5 : PySem.W.nsIn K mainGlobals "reach_table" = some (some (.ref f5))) (l5 : K.lookup f5 = some ⟨oc5, od5, .func (PySem.W.fnOf "reach_table" "reach_table" (defArgs s_reach_table) (defBody s_reach_table) (defScope s_reach_table) .none kV5 dc5 pm5 an5 cd5 ct5), sl5⟩) (c5 : PySem.W.codeIn K cd5 "reach_table" = true) (k5 : PySem.W.keepIn K (.ref f5) = true)
    (a6 : PySem.W.nsIn K mainGlobals "greedy_cuts" = some (some (.ref f6))) (l6 : K.lookup f6 = some ⟨oc6, od6, .func (PySem.W.fnOf "greedy_cuts" "greedy_cuts" (defArgs s_greedy_cuts) (defBody s_greedy_cuts) (defScope s_greedy_cuts) .none kV6 dc6 pm6 an6 cd6 ct6), sl6⟩) (c6 : PySem.W.codeIn K cd6 "greedy_cuts" = true) (k6 : PySem.W.keepIn K (.ref f6) = true)
    (a7 : PySem.W.nsIn K mainGlobals "fewest_count" = some (some (.ref f7))) (l7 : K.lookup f7 = some ⟨oc7, od7, .func (PySem.W.fnOf "fewest_count" "fewest_count" (defArgs s_fewest_count) (defBody s_fewest_count) (defScope s_fewest_count) .none kV7 dc7 pm7 an7 cd7 ct7), sl7⟩) (c7 : PySem.W.codeIn K cd7 "fewest_count" = true) (k7 : PySem.W.keepIn K (.ref f7) = true)
    (a8 : PySem.W.nsIn K mainGlobals "piece_count" = some (some (.ref f8))) (l8 : K.lookup f8 = some ⟨oc8, od8, .func (PySem.W.fnOf "piece_count" "piece_count" (defArgs s_piece_count) (defBody s_piece_count) (defScope s_piece_count) .none kV8 dc8 pm8 an8 cd8 ct8), sl8⟩) (c8 : PySem.W.codeIn K cd8 "piece_count" = true) (k8 : PySem.W.keepIn K (.ref f8) = true)
    (a9 : PySem.W.nsIn K mainGlobals "_with" = some (some (.ref f9))) (l9 : K.lookup f9 = some ⟨oc9, od9, .func (PySem.W.fnOf "_with" "_with" (defArgs s__with) (defBody s__with) (defScope s__with) .none kV9 dc9 pm9 an9 cd9 ct9), sl9⟩) (c9 : PySem.W.codeIn K cd9 "_with" = true) (k9 : PySem.W.keepIn K (.ref f9) = true)
    (a10 : PySem.W.nsIn K mainGlobals "_check_rule" = some (some (.ref f10))) (l10 : K.lookup f10 = some ⟨oc10, od10, .func (PySem.W.fnOf "_check_rule" "_check_rule" (defArgs s__check_rule) (defBody s__check_rule) (defScope s__check_rule) .none kV10 dc10 pm10 an10 cd10 ct10), sl10⟩) (c10 : PySem.W.codeIn K cd10 "_check_rule" = true) (k10 : PySem.W.keepIn K (.ref f10) = true)
    (a11 : PySem.W.nsIn K mainGlobals "pieces_by_most" = some (some (.ref f11))) (l11 : K.lookup f11 = some ⟨oc11, od11, .func (PySem.W.fnOf "pieces_by_most" "pieces_by_most" (defArgs s_pieces_by_most) (defBody s_pieces_by_most) (defScope s_pieces_by_most) .none kV11 dc11 pm11 an11 cd11 ct11), sl11⟩) (c11 : PySem.W.codeIn K cd11 "pieces_by_most" = true) (k11 : PySem.W.keepIn K (.ref f11) = true)
    (a12 : PySem.W.nsIn K mainGlobals "pieces_by_wide" = some (some (.ref f12))) (l12 : K.lookup f12 = some ⟨oc12, od12, .func (PySem.W.fnOf "pieces_by_wide" "pieces_by_wide" (defArgs s_pieces_by_wide) (defBody s_pieces_by_wide) (defScope s_pieces_by_wide) .none kV12 dc12 pm12 an12 cd12 ct12), sl12⟩) (c12 : PySem.W.codeIn K cd12 "pieces_by_wide" = true) (k12 : PySem.W.keepIn K (.ref f12) = true)
    (a13 : PySem.W.nsIn K mainGlobals "least_most" = some (some (.ref f13))) (l13 : K.lookup f13 = some ⟨oc13, od13, .func (PySem.W.fnOf "least_most" "least_most" (defArgs s_least_most) (defBody s_least_most) (defScope s_least_most) .none kV13 dc13 pm13 an13 cd13 ct13), sl13⟩) (c13 : PySem.W.codeIn K cd13 "least_most" = true) (k13 : PySem.W.keepIn K (.ref f13) = true)
    (a14 : PySem.W.nsIn K mainGlobals "least_wide" = some (some (.ref f14))) (l14 : K.lookup f14 = some ⟨oc14, od14, .func (PySem.W.fnOf "least_wide" "least_wide" (defArgs s_least_wide) (defBody s_least_wide) (defScope s_least_wide) .none kV14 dc14 pm14 an14 cd14 ct14), sl14⟩) (c14 : PySem.W.codeIn K cd14 "least_wide" = true) (k14 : PySem.W.keepIn K (.ref f14) = true)
    (a15 : PySem.W.nsIn K mainGlobals "widest_case" = some (some (.ref f15))) (l15 : K.lookup f15 = some ⟨oc15, od15, .func (PySem.W.fnOf "widest_case" "widest_case" (defArgs s_widest_case) (defBody s_widest_case) (defScope s_widest_case) .none kV15 dc15 pm15 an15 cd15 ct15), sl15⟩) (c15 : PySem.W.codeIn K cd15 "widest_case" = true) (k15 : PySem.W.keepIn K (.ref f15) = true)
    (a16 : PySem.W.nsIn K mainGlobals "lost_by_bounds" = some (some (.ref f16))) (l16 : K.lookup f16 = some ⟨oc16, od16, .func (PySem.W.fnOf "lost_by_bounds" "lost_by_bounds" (defArgs s_lost_by_bounds) (defBody s_lost_by_bounds) (defScope s_lost_by_bounds) .none kV16 dc16 pm16 an16 cd16 ct16), sl16⟩) (c16 : PySem.W.codeIn K cd16 "lost_by_bounds" = true) (k16 : PySem.W.keepIn K (.ref f16) = true)
    (a17 : PySem.W.nsIn K mainGlobals "_law_reel" = some (some (.ref f17))) (l17 : K.lookup f17 = some ⟨oc17, od17, .func (PySem.W.fnOf "_law_reel" "_law_reel" (defArgs s__law_reel) (defBody s__law_reel) (defScope s__law_reel) .none kV17 dc17 pm17 an17 cd17 ct17), sl17⟩) (c17 : PySem.W.codeIn K cd17 "_law_reel" = true) (k17 : PySem.W.keepIn K (.ref f17) = true)
    (a18 : PySem.W.nsIn K mainGlobals "_law_roll" = some (some (.ref f18))) (l18 : K.lookup f18 = some ⟨oc18, od18, .func (PySem.W.fnOf "_law_roll" "_law_roll" (defArgs s__law_roll) (defBody s__law_roll) (defScope s__law_roll) .none kV18 dc18 pm18 an18 cd18 ct18), sl18⟩) (c18 : PySem.W.codeIn K cd18 "_law_roll" = true) (k18 : PySem.W.keepIn K (.ref f18) = true)
    (a19 : PySem.W.nsIn K mainGlobals "_law_same" = some (some (.ref f19))) (l19 : K.lookup f19 = some ⟨oc19, od19, .func (PySem.W.fnOf "_law_same" "_law_same" (defArgs s__law_same) (defBody s__law_same) (defScope s__law_same) .none kV19 dc19 pm19 an19 cd19 ct19), sl19⟩) (c19 : PySem.W.codeIn K cd19 "_law_same" = true) (k19 : PySem.W.keepIn K (.ref f19) = true)
    (a20 : PySem.W.nsIn K mainGlobals "_law_letters" = some (some (.ref f20))) (l20 : K.lookup f20 = some ⟨oc20, od20, .func (PySem.W.fnOf "_law_letters" "_law_letters" (defArgs s__law_letters) (defBody s__law_letters) (defScope s__law_letters) .none kV20 dc20 pm20 an20 cd20 ct20), sl20⟩) (c20 : PySem.W.codeIn K cd20 "_law_letters" = true) (k20 : PySem.W.keepIn K (.ref f20) = true)
    (a21 : PySem.W.nsIn K mainGlobals "_law_word" = some (some (.ref f21))) (l21 : K.lookup f21 = some ⟨oc21, od21, .func (PySem.W.fnOf "_law_word" "_law_word" (defArgs s__law_word) (defBody s__law_word) (defScope s__law_word) .none kV21 dc21 pm21 an21 cd21 ct21), sl21⟩) (c21 : PySem.W.codeIn K cd21 "_law_word" = true) (k21 : PySem.W.keepIn K (.ref f21) = true)
    (a22 : PySem.W.nsIn K mainGlobals "_law_new" = some (some (.ref f22))) (l22 : K.lookup f22 = some ⟨oc22, od22, .func (PySem.W.fnOf "_law_new" "_law_new" (defArgs s__law_new) (defBody s__law_new) (defScope s__law_new) .none kV22 dc22 pm22 an22 cd22 ct22), sl22⟩) (c22 : PySem.W.codeIn K cd22 "_law_new" = true) (k22 : PySem.W.keepIn K (.ref f22) = true)
    (a23 : PySem.W.nsIn K mainGlobals "_law_rule" = some (some (.ref f23))) (l23 : K.lookup f23 = some ⟨oc23, od23, .func (PySem.W.fnOf "_law_rule" "_law_rule" (defArgs s__law_rule) (defBody s__law_rule) (defScope s__law_rule) .none kV23 dc23 pm23 an23 cd23 ct23), sl23⟩) (c23 : PySem.W.codeIn K cd23 "_law_rule" = true) (k23 : PySem.W.keepIn K (.ref f23) = true)
    (a24 : PySem.W.nsIn K mainGlobals "_law_case" = some (some (.ref f24))) (l24 : K.lookup f24 = some ⟨oc24, od24, .func (PySem.W.fnOf "_law_case" "_law_case" (defArgs s__law_case) (defBody s__law_case) (defScope s__law_case) .none kV24 dc24 pm24 an24 cd24 ct24), sl24⟩) (c24 : PySem.W.codeIn K cd24 "_law_case" = true) (k24 : PySem.W.keepIn K (.ref f24) = true)
    (a25 : PySem.W.nsIn K mainGlobals "_law_sourced" = some (some (.ref f25))) (l25 : K.lookup f25 = some ⟨oc25, od25, .func (PySem.W.fnOf "_law_sourced" "_law_sourced" (defArgs s__law_sourced) (defBody s__law_sourced) (defScope s__law_sourced) .none kV25 dc25 pm25 an25 cd25 ct25), sl25⟩) (c25 : PySem.W.codeIn K cd25 "_law_sourced" = true) (k25 : PySem.W.keepIn K (.ref f25) = true)
    (a26 : PySem.W.nsIn K mainGlobals "_law_heard" = some (some (.ref f26))) (l26 : K.lookup f26 = some ⟨oc26, od26, .func (PySem.W.fnOf "_law_heard" "_law_heard" (defArgs s__law_heard) (defBody s__law_heard) (defScope s__law_heard) .none kV26 dc26 pm26 an26 cd26 ct26), sl26⟩) (c26 : PySem.W.codeIn K cd26 "_law_heard" = true) (k26 : PySem.W.keepIn K (.ref f26) = true)
    (a27 : PySem.W.nsIn K mainGlobals "_law_reach" = some (some (.ref f27))) (l27 : K.lookup f27 = some ⟨oc27, od27, .func (PySem.W.fnOf "_law_reach" "_law_reach" (defArgs s__law_reach) (defBody s__law_reach) (defScope s__law_reach) .none kV27 dc27 pm27 an27 cd27 ct27), sl27⟩) (c27 : PySem.W.codeIn K cd27 "_law_reach" = true) (k27 : PySem.W.keepIn K (.ref f27) = true)
    (a28 : PySem.W.nsIn K mainGlobals "_law_pieces" = some (some (.ref f28))) (l28 : K.lookup f28 = some ⟨oc28, od28, .func (PySem.W.fnOf "_law_pieces" "_law_pieces" (defArgs s__law_pieces) (defBody s__law_pieces) (defScope s__law_pieces) .none kV28 dc28 pm28 an28 cd28 ct28), sl28⟩) (c28 : PySem.W.codeIn K cd28 "_law_pieces" = true) (k28 : PySem.W.keepIn K (.ref f28) = true)
    (a29 : PySem.W.nsIn K mainGlobals "_law_with" = some (some (.ref f29))) (l29 : K.lookup f29 = some ⟨oc29, od29, .func (PySem.W.fnOf "_law_with" "_law_with" (defArgs s__law_with) (defBody s__law_with) (defScope s__law_with) .none kV29 dc29 pm29 an29 cd29 ct29), sl29⟩) (c29 : PySem.W.codeIn K cd29 "_law_with" = true) (k29 : PySem.W.keepIn K (.ref f29) = true)
    (a30 : PySem.W.nsIn K mainGlobals "_law_all_same" = some (some (.ref f30))) (l30 : K.lookup f30 = some ⟨oc30, od30, .func (PySem.W.fnOf "_law_all_same" "_law_all_same" (defArgs s__law_all_same) (defBody s__law_all_same) (defScope s__law_all_same) .none kV30 dc30 pm30 an30 cd30 ct30), sl30⟩) (c30 : PySem.W.codeIn K cd30 "_law_all_same" = true) (k30 : PySem.W.keepIn K (.ref f30) = true)
    (a31 : PySem.W.nsIn K mainGlobals "_law_told" = some (some (.ref f31))) (l31 : K.lookup f31 = some ⟨oc31, od31, .func (PySem.W.fnOf "_law_told" "_law_told" (defArgs s__law_told) (defBody s__law_told) (defScope s__law_told) .none kV31 dc31 pm31 an31 cd31 ct31), sl31⟩) (c31 : PySem.W.codeIn K cd31 "_law_told" = true) (k31 : PySem.W.keepIn K (.ref f31) = true)
    (a32 : PySem.W.nsIn K mainGlobals "_law_bounds" = some (some (.ref f32))) (l32 : K.lookup f32 = some ⟨oc32, od32, .func (PySem.W.fnOf "_law_bounds" "_law_bounds" (defArgs s__law_bounds) (defBody s__law_bounds) (defScope s__law_bounds) .none kV32 dc32 pm32 an32 cd32 ct32), sl32⟩) (c32 : PySem.W.codeIn K cd32 "_law_bounds" = true) (k32 : PySem.W.keepIn K (.ref f32) = true)
    (a33 : PySem.W.nsIn K mainGlobals "_law_least" = some (some (.ref f33))) (l33 : K.lookup f33 = some ⟨oc33, od33, .func (PySem.W.fnOf "_law_least" "_law_least" (defArgs s__law_least) (defBody s__law_least) (defScope s__law_least) .none kV33 dc33 pm33 an33 cd33 ct33), sl33⟩) (c33 : PySem.W.codeIn K cd33 "_law_least" = true) (k33 : PySem.W.keepIn K (.ref f33) = true)
    (a34 : PySem.W.nsIn K mainGlobals "_law_least_most" = some (some (.ref f34))) (l34 : K.lookup f34 = some ⟨oc34, od34, .func (PySem.W.fnOf "_law_least_most" "_law_least_most" (defArgs s__law_least_most) (defBody s__law_least_most) (defScope s__law_least_most) .none kV34 dc34 pm34 an34 cd34 ct34), sl34⟩) (c34 : PySem.W.codeIn K cd34 "_law_least_most" = true) (k34 : PySem.W.keepIn K (.ref f34) = true)
    (a35 : PySem.W.nsIn K mainGlobals "_law_rule_right" = some (some (.ref f35))) (l35 : K.lookup f35 = some ⟨oc35, od35, .func (PySem.W.fnOf "_law_rule_right" "_law_rule_right" (defArgs s__law_rule_right) (defBody s__law_rule_right) (defScope s__law_rule_right) .none kV35 dc35 pm35 an35 cd35 ct35), sl35⟩) (c35 : PySem.W.codeIn K cd35 "_law_rule_right" = true) (k35 : PySem.W.keepIn K (.ref f35) = true)
    (a36 : PySem.W.nsIn K mainGlobals "_law_case_right" = some (some (.ref f36))) (l36 : K.lookup f36 = some ⟨oc36, od36, .func (PySem.W.fnOf "_law_case_right" "_law_case_right" (defArgs s__law_case_right) (defBody s__law_case_right) (defScope s__law_case_right) .none kV36 dc36 pm36 an36 cd36 ct36), sl36⟩) (c36 : PySem.W.codeIn K cd36 "_law_case_right" = true) (k36 : PySem.W.keepIn K (.ref f36) = true)
    (a37 : PySem.W.nsIn K mainGlobals "_law_bounded" = some (some (.ref f37))) (l37 : K.lookup f37 = some ⟨oc37, od37, .func (PySem.W.fnOf "_law_bounded" "_law_bounded" (defArgs s__law_bounded) (defBody s__law_bounded) (defScope s__law_bounded) .none kV37 dc37 pm37 an37 cd37 ct37), sl37⟩) (c37 : PySem.W.codeIn K cd37 "_law_bounded" = true) (k37 : PySem.W.keepIn K (.ref f37) = true)
    (a38 : PySem.W.nsIn K mainGlobals "law" = some (some (.ref f38))) (l38 : K.lookup f38 = some ⟨oc38, od38, .func (PySem.W.fnOf "law" "law" (defArgs s_law) (defBody s_law) (defScope s_law) .none kV38 dc38 pm38 an38 cd38 ct38), sl38⟩) (c38 : PySem.W.codeIn K cd38 "law" = true) (k38 : PySem.W.keepIn K (.ref f38) = true)
    (z_abs : PySem.W.nsIn K mainGlobals "abs" = some none)
    (z_bool : PySem.W.nsIn K mainGlobals "bool" = some none)
    (z_int : PySem.W.nsIn K mainGlobals "int" = some none)
    (z_isinstance : PySem.W.nsIn K mainGlobals "isinstance" = some none)
    (z_len : PySem.W.nsIn K mainGlobals "len" = some none)
    (z_max : PySem.W.nsIn K mainGlobals "max" = some none)
    (z_min : PySem.W.nsIn K mainGlobals "min" = some none)
    (z_range : PySem.W.nsIn K mainGlobals "range" = some none)
    (z_str : PySem.W.nsIn K mainGlobals "str" = some none)
    (z_tuple : PySem.W.nsIn K mainGlobals "tuple" = some none)
    (cn_MOST_WIDE : PySem.W.nsIn K mainGlobals "MOST_WIDE" = some (some (.int 300 tk_MOST_WIDE)))
    (xa0 : PySem.W.nsIn K mainGlobals "SaidError" = some (some (.ref XC0)))
    (xa1 : PySem.W.nsIn K mainGlobals "DataError" = some (some (.ref XC1)))
    (xa2 : PySem.W.nsIn K mainGlobals "AskError" = some (some (.ref XC2)))
    (xa3 : PySem.W.nsIn K mainGlobals "CallError" = some (some (.ref XC3)))
    (xa4 : PySem.W.nsIn K mainGlobals "TextError" = some (some (.ref XC4)))
    (xn5 : PySem.W.nsIn K mainGlobals "BadSign" = some none)
    (xn6 : PySem.W.nsIn K mainGlobals "BadRules" = some none)
    (xn7 : PySem.W.nsIn K mainGlobals "BadCuts" = some none)
    (xn8 : PySem.W.nsIn K mainGlobals "BadPrices" = some none)
    (xn9 : PySem.W.nsIn K mainGlobals "BadPatch" = some none)
    (xn10 : PySem.W.nsIn K mainGlobals "BadBytes" = some none)
    (xn11 : PySem.W.nsIn K mainGlobals "BadBook" = some none)
    (xa12 : PySem.W.nsIn K mainGlobals "NoSuch" = some (some (.ref XC12)))
    (xn13 : PySem.W.nsIn K mainGlobals "BadCall" = some none)
    (xn14 : PySem.W.nsIn K mainGlobals "BadText" = some none)
    (xn15 : PySem.W.nsIn K mainGlobals "BadCommand" = some none)
    (xe0 : PySem.W.subIn K (.ref XC0) (.type "BaseException") = some true)
    (xh0 : PySem.W.hasDictIn K XC0 = true)
    (xt0 : PySem.W.typeIn K (.ref XC0) = some (.type "type"))
    (xe1 : PySem.W.subIn K (.ref XC1) (.type "BaseException") = some true)
    (xh1 : PySem.W.hasDictIn K XC1 = true)
    (xt1 : PySem.W.typeIn K (.ref XC1) = some (.type "type"))
    (xe2 : PySem.W.subIn K (.ref XC2) (.type "BaseException") = some true)
    (xh2 : PySem.W.hasDictIn K XC2 = true)
    (xt2 : PySem.W.typeIn K (.ref XC2) = some (.type "type"))
    (xe3 : PySem.W.subIn K (.ref XC3) (.type "BaseException") = some true)
    (xh3 : PySem.W.hasDictIn K XC3 = true)
    (xt3 : PySem.W.typeIn K (.ref XC3) = some (.type "type"))
    (xe4 : PySem.W.subIn K (.ref XC4) (.type "BaseException") = some true)
    (xh4 : PySem.W.hasDictIn K XC4 = true)
    (xt4 : PySem.W.typeIn K (.ref XC4) = some (.type "type"))
    (xe12 : PySem.W.subIn K (.ref XC12) (.type "BaseException") = some true)
    (xh12 : PySem.W.hasDictIn K XC12 = true)
    (xt12 : PySem.W.typeIn K (.ref XC12) = some (.type "type"))
    (xs0_0 : PySem.W.subIn K (.ref XC0) (.ref XC0) = some true)
    (xs1_1 : PySem.W.subIn K (.ref XC1) (.ref XC1) = some true)
    (xs2_2 : PySem.W.subIn K (.ref XC2) (.ref XC2) = some true)
    (xs3_3 : PySem.W.subIn K (.ref XC3) (.ref XC3) = some true)
    (xs4_4 : PySem.W.subIn K (.ref XC4) (.ref XC4) = some true)
    (xcn : PySem.W.specialIn K (.builtin "object.__class__") "__get__" = some (some (.builtin "getset_descriptor.__get__")))
    (xct : PySem.W.takesIn K (.builtin "object.__class__") = some true)
    (xs12_0 : PySem.W.subIn K (.ref XC12) (.ref XC0) = some true)
    (xs12_1 : PySem.W.subIn K (.ref XC12) (.ref XC1) = some false)
    (xs12_2 : PySem.W.subIn K (.ref XC12) (.ref XC2) = some true)
    (xs12_3 : PySem.W.subIn K (.ref XC12) (.ref XC3) = some false)
    (xs12_4 : PySem.W.subIn K (.ref XC12) (.ref XC4) = some false)
    (xs12_12 : PySem.W.subIn K (.ref XC12) (.ref XC12) = some true)
    (xga12 : PySem.W.findIn K (.ref XC12) "__getattribute__" = some (some (.builtin "BaseException.__getattribute__")))
    (xgg12 : PySem.W.findIn K (.ref XC12) "__getattr__" = some none)
    (xcl12 : PySem.W.findIn K (.ref XC12) "__class__" = some (some (.builtin "object.__class__")))
    (xmo12 : PySem.W.mroIn K XC12 (.type "object") = some true)
    (xf0_12 : PySem.W.findIn K (.ref XC12) "at" = some none)
    (xf1_12 : PySem.W.findIn K (.ref XC12) "word" = some none)
    (xf2_12 : PySem.W.findIn K (.ref XC12) "name" = some none)
    (xf3_12 : PySem.W.findIn K (.ref XC12) "line" = some none)
    (xl12 : K.lookup XC12 = some (excClassObj xnm12 xq12 XC12 xN12 xbs12 xbm12 true xsn12 xsu12 xab12 xco12 xdd12 xk012 xk112 xk212 xk312 xk512 "ValueError.__new__"))
    (xr12 : PySem.HandSPX.refsVE xbm12 = true)
    (xsa12 : PySem.W.findIn K (.ref XC12) "__setattr__" = some (some (.builtin "object.__setattr__")))
    (xkp12 : PySem.W.keepIn K (.ref XC12) = true)
    (xi12 : PySem.W.findIn K (.ref XC12) "__init__" = some (some (.ref xI12)))
    (xti12 : PySem.W.typeIn K (.ref xI12) = some (.type "function"))
    (xlf12 : K.lookup xI12 = some ⟨xoc12, xod12, .func (PySem.W.fnOf "__init__" "NoSuch.__init__" (defArgs si_NoSuch) (defBody si_NoSuch) (defScope si_NoSuch) .none xkV12 xdc12 xpm12 xan12 xcd12 xct12), xsl12⟩)
    (xco12_ : PySem.W.codeIn K xcd12 "NoSuch.__init__" = true)
    (xki12 : PySem.W.keepIn K (.ref xI12) = true)
    : Top K mg := ⟨
    tx_mk X G (fun us hl => match us, hl with | [_], _ => rfl) a0 l0 c0 k0,
    tx_mk X G (fun us hl => match us, hl with | [_, _], _ => rfl) a1 l1 c1 k1,
    tx_mk X G (fun us hl => match us, hl with | [_], _ => rfl) a2 l2 c2 k2,
    tx_mk X G (fun us hl => match us, hl with | [_, _, _, _], _ => rfl) a3 l3 c3 k3,
    tx_mk X G (fun us hl => match us, hl with | [_, _], _ => rfl) a4 l4 c4 k4,
    tx_mk X G (fun us hl => match us, hl with | [_], _ => rfl) a5 l5 c5 k5,
    tx_mk X G (fun us hl => match us, hl with | [_], _ => rfl) a6 l6 c6 k6,
    tx_mk X G (fun us hl => match us, hl with | [_], _ => rfl) a7 l7 c7 k7,
    tx_mk X G (fun us hl => match us, hl with | [_], _ => rfl) a8 l8 c8 k8,
    tx_mk X G (fun us hl => match us, hl with | [_, _, _], _ => rfl) a9 l9 c9 k9,
    tx_mk X G (fun us hl => match us, hl with | [_, _], _ => rfl) a10 l10 c10 k10,
    tx_mk X G (fun us hl => match us, hl with | [_, _, _], _ => rfl) a11 l11 c11 k11,
    tx_mk X G (fun us hl => match us, hl with | [_, _, _], _ => rfl) a12 l12 c12 k12,
    tx_mk X G (fun us hl => match us, hl with | [_, _], _ => rfl) a13 l13 c13 k13,
    tx_mk X G (fun us hl => match us, hl with | [_, _], _ => rfl) a14 l14 c14 k14,
    tx_mk X G (fun us hl => match us, hl with | [_], _ => rfl) a15 l15 c15 k15,
    tx_mk X G (fun us hl => match us, hl with | [_], _ => rfl) a16 l16 c16 k16,
    tx_mk X G (fun us hl => match us, hl with | [_], _ => rfl) a17 l17 c17 k17,
    tx_mk X G (fun us hl => match us, hl with | [_, _], _ => rfl) a18 l18 c18 k18,
    tx_mk X G (fun us hl => match us, hl with | [_, _], _ => rfl) a19 l19 c19 k19,
    tx_mk X G (fun us hl => match us, hl with | [_], _ => rfl) a20 l20 c20 k20,
    tx_mk X G (fun us hl => match us, hl with | [_, _, _], _ => rfl) a21 l21 c21 k21,
    tx_mk X G (fun us hl => match us, hl with | [_, _, _, _], _ => rfl) a22 l22 c22 k22,
    tx_mk X G (fun us hl => match us, hl with | [_, _], _ => rfl) a23 l23 c23 k23,
    tx_mk X G (fun us hl => match us, hl with | [_, _], _ => rfl) a24 l24 c24 k24,
    tx_mk X G (fun us hl => match us, hl with | [_, _, _, _, _], _ => rfl) a25 l25 c25 k25,
    tx_mk X G (fun us hl => match us, hl with | [_, _, _], _ => rfl) a26 l26 c26 k26,
    tx_mk X G (fun us hl => match us, hl with | [_], _ => rfl) a27 l27 c27 k27,
    tx_mk X G (fun us hl => match us, hl with | [_], _ => rfl) a28 l28 c28 k28,
    tx_mk X G (fun us hl => match us, hl with | [_, _, _, _], _ => rfl) a29 l29 c29 k29,
    tx_mk X G (fun us hl => match us, hl with | [_, _], _ => rfl) a30 l30 c30 k30,
    tx_mk X G (fun us hl => match us, hl with | [_, _, _, _], _ => rfl) a31 l31 c31 k31,
    tx_mk X G (fun us hl => match us, hl with | [_, _, _], _ => rfl) a32 l32 c32 k32,
    tx_mk X G (fun us hl => match us, hl with | [_, _, _, _], _ => rfl) a33 l33 c33 k33,
    tx_mk X G (fun us hl => match us, hl with | [_, _], _ => rfl) a34 l34 c34 k34,
    tx_mk X G (fun us hl => match us, hl with | [_, _, _], _ => rfl) a35 l35 c35 k35,
    tx_mk X G (fun us hl => match us, hl with | [_, _], _ => rfl) a36 l36 c36 k36,
    tx_mk X G (fun us hl => match us, hl with | [_], _ => rfl) a37 l37 c37 k37,
    tx_mk X G (fun us hl => match us, hl with | [_], _ => rfl) a38 l38 c38 k38,
    PySem.W.mg_none_of X G z_abs,
    PySem.W.mg_none_of X G z_bool,
    PySem.W.mg_none_of X G z_int,
    PySem.W.mg_none_of X G z_isinstance,
    PySem.W.mg_none_of X G z_len,
    PySem.W.mg_none_of X G z_max,
    PySem.W.mg_none_of X G z_min,
    PySem.W.mg_none_of X G z_range,
    PySem.W.mg_none_of X G z_str,
    PySem.W.mg_none_of X G z_tuple,
    ⟨_, PySem.W.mg_of X G cn_MOST_WIDE⟩,
    xtx_mk X G (k := 12) (fun us hl => match us, hl with | [_, _, _], _ => rfl) xa12 ⟨⟨_, _, _, _, _, _, _, _, _, _, _, _, _, _, _, xl12, xr12⟩, xsa12, xe12, xt12, xkp12⟩ (goodX_mk xga12 xgg12 xe12 xh12 xcl12 xcn xct xmo12 xf0_12 xf1_12 xf2_12 xf3_12 (sub_all (sub_at (j := 0) xa0 xs12_0) (sub_at (j := 1) xa1 xs12_1) (sub_at (j := 2) xa2 xs12_2) (sub_at (j := 3) xa3 xs12_3) (sub_at (j := 4) xa4 xs12_4) (sub_no (j := 5) xn5) (sub_no (j := 6) xn6) (sub_no (j := 7) xn7) (sub_no (j := 8) xn8) (sub_no (j := 9) xn9) (sub_no (j := 10) xn10) (sub_no (j := 11) xn11) (sub_at (j := 12) xa12 xs12_12) (sub_no (j := 13) xn13) (sub_no (j := 14) xn14) (sub_no (j := 15) xn15))) xi12 xti12 xlf12 xco12_ xki12,
    xbs_mk X G (k := 0) xa0 xe0 xh0 xt0 xs0_0,
    xbs_mk X G (k := 1) xa1 xe1 xh1 xt1 xs1_1,
    xbs_mk X G (k := 2) xa2 xe2 xh2 xt2 xs2_2,
    xbs_mk X G (k := 3) xa3 xe3 xh3 xt3 xs3_3,
    xbs_mk X G (k := 4) xa4 xe4 xh4 xt4 xs4_4,
    xbs_mk X G (k := 12) xa12 xe12 xh12 xt12 xs12_12⟩
end Lw
end

-- text Fin_k39
section
set_option Elab.async false
set_option linter.all false
set_option maxRecDepth 100000
set_option maxHeartbeats 4000000
open PySem PySem.W PyProof.Rows
set_option maxHeartbeats 0 in
theorem PySem.Challenge.cw_saidbefore_k39_thresholds_holds : PySem.Challenge.rw_saidbefore_k39_thresholds.Holds := by
  w_on; o_law; k_head; (case hw => w_witness2)
  k_fill
  refine L2.walk_of (l := PySem.Challenge.rw_saidbefore_k39_thresholds) (n := 63) (k := 13) (x := "script") (CX := fun w => L2N.CX PySem.Challenge.rw_saidbefore_k39_thresholds.prog w) (sp := fun w => Mi.spOf _ [false] Mi.spLaw) rfl (by decide) rfl ⟨rfl, by decide, by decide⟩ (fun w h Y => PySem.W.kIn_of Y) ?F (fun _ _ a ns hl ho hS => Mi.law_sp hl ho hS) (fun w H s e s' h => Mi.cx_no h)
  case F =>
    intro w mg fa h KX G hmg
    refine' Lw.law_end (Lw.top_mk KX G ?a0 ?l0 ?c0 ?k0 ?a1 ?l1 ?c1 ?k1 ?a2 ?l2 ?c2 ?k2 ?a3 ?l3 ?c3 ?k3 ?a4 ?l4 ?c4 ?k4 ?a5 ?l5 ?c5 ?k5 ?a6 ?l6 ?c6 ?k6 ?a7 ?l7 ?c7 ?k7 ?a8 ?l8 ?c8 ?k8 ?a9 ?l9 ?c9 ?k9 ?a10 ?l10 ?c10 ?k10 ?a11 ?l11 ?c11 ?k11 ?a12 ?l12 ?c12 ?k12 ?a13 ?l13 ?c13 ?k13 ?a14 ?l14 ?c14 ?k14 ?a15 ?l15 ?c15 ?k15 ?a16 ?l16 ?c16 ?k16 ?a17 ?l17 ?c17 ?k17 ?a18 ?l18 ?c18 ?k18 ?a19 ?l19 ?c19 ?k19 ?a20 ?l20 ?c20 ?k20 ?a21 ?l21 ?c21 ?k21 ?a22 ?l22 ?c22 ?k22 ?a23 ?l23 ?c23 ?k23 ?a24 ?l24 ?c24 ?k24 ?a25 ?l25 ?c25 ?k25 ?a26 ?l26 ?c26 ?k26 ?a27 ?l27 ?c27 ?k27 ?a28 ?l28 ?c28 ?k28 ?a29 ?l29 ?c29 ?k29 ?a30 ?l30 ?c30 ?k30 ?a31 ?l31 ?c31 ?k31 ?a32 ?l32 ?c32 ?k32 ?a33 ?l33 ?c33 ?k33 ?a34 ?l34 ?c34 ?k34 ?a35 ?l35 ?c35 ?k35 ?a36 ?l36 ?c36 ?k36 ?a37 ?l37 ?c37 ?k37 ?a38 ?l38 ?c38 ?k38 ?z_abs ?z_bool ?z_int ?z_isinstance ?z_len ?z_max ?z_min ?z_range ?z_str ?z_tuple ?cn_MOST_WIDE ?xa0 ?xa1 ?xa2 ?xa3 ?xa4 ?xn5 ?xn6 ?xn7 ?xn8 ?xn9 ?xn10 ?xn11 ?xa12 ?xn13 ?xn14 ?xn15 ?xe0 ?xh0 ?xt0 ?xe1 ?xh1 ?xt1 ?xe2 ?xh2 ?xt2 ?xe3 ?xh3 ?xt3 ?xe4 ?xh4 ?xt4 ?xe12 ?xh12 ?xt12 ?xs0_0 ?xs1_1 ?xs2_2 ?xs3_3 ?xs4_4 ?xcn ?xct ?xs12_0 ?xs12_1 ?xs12_2 ?xs12_3 ?xs12_4 ?xs12_12 ?xga12 ?xgg12 ?xcl12 ?xmo12 ?xf0_12 ?xf1_12 ?xf2_12 ?xf3_12 ?xl12 ?xr12 ?xsa12 ?xkp12 ?xi12 ?xti12 ?xlf12 ?xco12_ ?xki12) hmg
    (case a0 => k_is); (case l0 => k_is); (case c0 => k_is); (case k0 => k_is); (case a1 => k_is); (case l1 => k_is); (case c1 => k_is); (case k1 => k_is); (case a2 => k_is); (case l2 => k_is); (case c2 => k_is); (case k2 => k_is); (case a3 => k_is); (case l3 => k_is); (case c3 => k_is); (case k3 => k_is); (case a4 => k_is); (case l4 => k_is); (case c4 => k_is); (case k4 => k_is); (case a5 => k_is); (case l5 => k_is); (case c5 => k_is); (case k5 => k_is); (case a6 => k_is); (case l6 => k_is); (case c6 => k_is); (case k6 => k_is); (case a7 => k_is); (case l7 => k_is); (case c7 => k_is); (case k7 => k_is); (case a8 => k_is); (case l8 => k_is); (case c8 => k_is); (case k8 => k_is); (case a9 => k_is); (case l9 => k_is); (case c9 => k_is); (case k9 => k_is); (case a10 => k_is); (case l10 => k_is); (case c10 => k_is); (case k10 => k_is); (case a11 => k_is); (case l11 => k_is); (case c11 => k_is); (case k11 => k_is); (case a12 => k_is); (case l12 => k_is); (case c12 => k_is); (case k12 => k_is); (case a13 => k_is); (case l13 => k_is); (case c13 => k_is); (case k13 => k_is); (case a14 => k_is); (case l14 => k_is); (case c14 => k_is); (case k14 => k_is); (case a15 => k_is); (case l15 => k_is); (case c15 => k_is); (case k15 => k_is); (case a16 => k_is); (case l16 => k_is); (case c16 => k_is); (case k16 => k_is); (case a17 => k_is); (case l17 => k_is); (case c17 => k_is); (case k17 => k_is); (case a18 => k_is); (case l18 => k_is); (case c18 => k_is); (case k18 => k_is); (case a19 => k_is); (case l19 => k_is); (case c19 => k_is); (case k19 => k_is); (case a20 => k_is); (case l20 => k_is); (case c20 => k_is); (case k20 => k_is); (case a21 => k_is); (case l21 => k_is); (case c21 => k_is); (case k21 => k_is); (case a22 => k_is); (case l22 => k_is); (case c22 => k_is); (case k22 => k_is); (case a23 => k_is); (case l23 => k_is); (case c23 => k_is); (case k23 => k_is); (case a24 => k_is); (case l24 => k_is); (case c24 => k_is); (case k24 => k_is); (case a25 => k_is); (case l25 => k_is); (case c25 => k_is); (case k25 => k_is); (case a26 => k_is); (case l26 => k_is); (case c26 => k_is); (case k26 => k_is); (case a27 => k_is); (case l27 => k_is); (case c27 => k_is); (case k27 => k_is); (case a28 => k_is); (case l28 => k_is); (case c28 => k_is); (case k28 => k_is); (case a29 => k_is); (case l29 => k_is); (case c29 => k_is); (case k29 => k_is); (case a30 => k_is); (case l30 => k_is); (case c30 => k_is); (case k30 => k_is); (case a31 => k_is); (case l31 => k_is); (case c31 => k_is); (case k31 => k_is); (case a32 => k_is); (case l32 => k_is); (case c32 => k_is); (case k32 => k_is); (case a33 => k_is); (case l33 => k_is); (case c33 => k_is); (case k33 => k_is); (case a34 => k_is); (case l34 => k_is); (case c34 => k_is); (case k34 => k_is); (case a35 => k_is); (case l35 => k_is); (case c35 => k_is); (case k35 => k_is); (case a36 => k_is); (case l36 => k_is); (case c36 => k_is); (case k36 => k_is); (case a37 => k_is); (case l37 => k_is); (case c37 => k_is); (case k37 => k_is); (case a38 => k_is); (case l38 => k_is); (case c38 => k_is); (case k38 => k_is); (case z_abs => k_is); (case z_bool => k_is); (case z_int => k_is); (case z_isinstance => k_is); (case z_len => k_is); (case z_max => k_is); (case z_min => k_is); (case z_range => k_is); (case z_str => k_is); (case z_tuple => k_is); (case cn_MOST_WIDE => k_is); (case xa0 => k_is); (case xa1 => k_is); (case xa2 => k_is); (case xa3 => k_is); (case xa4 => k_is); (case xn5 => k_is); (case xn6 => k_is); (case xn7 => k_is); (case xn8 => k_is); (case xn9 => k_is); (case xn10 => k_is); (case xn11 => k_is); (case xa12 => k_is); (case xn13 => k_is); (case xn14 => k_is); (case xn15 => k_is); (case xe0 => k_is); (case xh0 => k_is); (case xt0 => k_is); (case xe1 => k_is); (case xh1 => k_is); (case xt1 => k_is); (case xe2 => k_is); (case xh2 => k_is); (case xt2 => k_is); (case xe3 => k_is); (case xh3 => k_is); (case xt3 => k_is); (case xe4 => k_is); (case xh4 => k_is); (case xt4 => k_is); (case xe12 => k_is); (case xh12 => k_is); (case xt12 => k_is); (case xs0_0 => k_is); (case xs1_1 => k_is); (case xs2_2 => k_is); (case xs3_3 => k_is); (case xs4_4 => k_is); (case xcn => k_is); (case xct => k_is); (case xs12_0 => k_is); (case xs12_1 => k_is); (case xs12_2 => k_is); (case xs12_3 => k_is); (case xs12_4 => k_is); (case xs12_12 => k_is); (case xga12 => k_is); (case xgg12 => k_is); (case xcl12 => k_is); (case xmo12 => k_is); (case xf0_12 => k_is); (case xf1_12 => k_is); (case xf2_12 => k_is); (case xf3_12 => k_is); (case xl12 => k_is); (case xr12 => exact (by decide +kernel)); (case xsa12 => k_is); (case xkp12 => k_is); (case xi12 => k_is); (case xti12 => k_is); (case xlf12 => k_is); (case xco12_ => k_is); (case xki12 => k_is)
end

