import PyProof.Rows.All
import Wide.All
import OpenK.AllK
import Wide.FinOn
import HandS.ForMost
import HandS.Walk
import HandS.DictComp
import HandS.More
import HandS.IsInst
import HandS.Conv
import HandS.Zip
import HandS.ListItems
import HandS.TupAny
import HandS.Codes
import HandS.List
import PyProof.Rows.StrMeet
import KE.GoesMore
import KE.GoesEnum
import PyProof.EnumMake
import PyProof.Draws
import HandS.SortRule
import PyProof.Rows.SortKeyStr
import HandS.Style
import KE.KDictDisplayH
import KE.DataAny
import PyProof.Rows.Walk
import PySem.Challenge.RW_mingleddeeds_k61_whole_divided_by_logs
set_option Elab.async false
set_option linter.all false
set_option maxRecDepth 100000
namespace DL
open PySem PySem.Spec L2

/-! ### data, and how it lies in an abstract heap -/
inductive D where
  | non | bl (b : Bool) | int (i : Int) | str (s : Str)
  | lst (xs : List D) | tup (xs : List D)
  | dK (kvs : List (Key × D)) | dT (kvs : List (List Key × D))
  | ins (C : Addr) (fs : List (Str × D))
  | kl (xs : List D) | kt (xs : List D)
  | raw (v : V)

def isDct : HO → Bool
  | .dK _ => true
  | .dT _ => true
  | .frz _ _ => true
  | _ => false

def isFrz : HO → Bool
  | .frz _ _ => true
  | _ => false

section
variable (K : PySem.W.Frag) (G : Hp)
mutual
def rep : D → V → Prop
  | .non, v => v = .non
  | .bl b, v => v = .bl b
  | .int i, v => v = .int i
  | .str s, v => v = .str s
  | .lst xs, v => ∃ p vs, v = .ref p ∧ G p = some (.lst vs) ∧ reps xs vs
  | .tup xs, v => ∃ p vs, v = .ref p ∧ G p = some (.tup vs) ∧ reps xs vs
  | .dK kvs, v => ∃ p ws, v = .ref p ∧ Rd G p (.dK ws) ∧ repK kvs ws
  | .dT kvs, v => ∃ p ws, v = .ref p ∧ Rd G p (.dT ws) ∧ repT kvs ws
  | .ins C fs, v => ∃ p dx ws, v = .ref p ∧ G p = some (.ins C dx ws) ∧ repF fs ws
  | .kl xs, v => ∃ p vs, v = .ref p ∧ SqL K G p vs ∧ reps xs vs
  | .kt xs, v => ∃ p vs, v = .ref p ∧ SqT K G p vs ∧ reps xs vs
  | .raw u, v => v = u
def reps : List D → List V → Prop
  | [], vs => vs = []
  | x :: xs, vs => ∃ v r, vs = v :: r ∧ rep x v ∧ reps xs r
def repK : List (Key × D) → List (Key × V) → Prop
  | [], vs => vs = []
  | (k, x) :: xs, vs => ∃ v r, vs = (k, v) :: r ∧ rep x v ∧ repK xs r
def repT : List (List Key × D) → List (List Key × V) → Prop
  | [], vs => vs = []
  | (k, x) :: xs, vs => ∃ v r, vs = (k, v) :: r ∧ rep x v ∧ repT xs r
def repF : List (Str × D) → List (Str × V) → Prop
  | [], vs => vs = []
  | (k, x) :: xs, vs => ∃ v r, vs = (k, v) :: r ∧ rep x v ∧ repF xs r
end
end

/-- all that is there stays -/
def Ex (H H' : Hp) : Prop := ∀ a o, H a = some o → H' a = some o
theorem Ex.refl (H : Hp) : Ex H H := fun _ _ h => h
theorem Ex.trans {H H1 H2 : Hp} (a : Ex H H1) (b : Ex H1 H2) : Ex H H2 := fun x o h => b x o (a x o h)
theorem Ex.upd {H : Hp} {p : Addr} {o : HO} (h : H p = none) : Ex H (upd H p o) := fun a u e => by
  rw [upd_ne (ne_of_none e h)]; exact e
/-- what can be read stays readable; all but dicts stays as it is -/
structure Le (G G' : Hp) : Prop where
  rd : ∀ a u, isFrz u = false → Rd G a u → Rd G' a u
  st : ∀ a o, isDct o = false → G a = some o → G' a = some o
theorem Ex.le {G G' : Hp} (e : Ex G G') : Le G G' := ⟨fun a u _ h => by
  rcases h with h | ⟨o, h⟩
  · exact .inl (e _ _ h)
  · exact .inr ⟨o, e _ _ h⟩, fun a o _ h => e a o h⟩
section
variable {K : PySem.W.Frag} {G G' : Hp}
theorem Le.sqL {a : Addr} {xs : List V} (e : Le G G') (h : SqL K G a xs) : SqL K G' a xs := by
  rcases h with h | h
  · exact .inl (e.rd _ _ rfl h)
  · exact .inr h
theorem Le.sqT {a : Addr} {xs : List V} (e : Le G G') (h : SqT K G a xs) : SqT K G' a xs := by
  rcases h with h | h
  · exact .inl (e.rd _ _ rfl h)
  · exact .inr h
mutual
theorem rep_le (e : Le G G') : ∀ (x : D) (v : V), rep K G x v → rep K G' x v
  | .non, v, h => h
  | .bl b, v, h => h
  | .int i, v, h => h
  | .str s, v, h => h
  | .lst xs, v, ⟨p, vs, e1, e2, e3⟩ => ⟨p, vs, e1, e.st _ _ rfl e2, reps_le e xs vs e3⟩
  | .tup xs, v, ⟨p, vs, e1, e2, e3⟩ => ⟨p, vs, e1, e.st _ _ rfl e2, reps_le e xs vs e3⟩
  | .dK kvs, v, ⟨p, ws, e1, e2, e3⟩ => ⟨p, ws, e1, e.rd _ _ rfl e2, repK_le e kvs ws e3⟩
  | .dT kvs, v, ⟨p, ws, e1, e2, e3⟩ => ⟨p, ws, e1, e.rd _ _ rfl e2, repT_le e kvs ws e3⟩
  | .ins C fs, v, ⟨p, dx, ws, e1, e2, e3⟩ => ⟨p, dx, ws, e1, e.st _ _ rfl e2, repF_le e fs ws e3⟩
  | .kl xs, v, ⟨p, vs, e1, e2, e3⟩ => ⟨p, vs, e1, e.sqL e2, reps_le e xs vs e3⟩
  | .kt xs, v, ⟨p, vs, e1, e2, e3⟩ => ⟨p, vs, e1, e.sqT e2, reps_le e xs vs e3⟩
  | .raw u, v, h => h
theorem reps_le (e : Le G G') : ∀ (xs : List D) (vs : List V), reps K G xs vs → reps K G' xs vs
  | [], vs, h => h
  | x :: xs, vs, ⟨v, r, e1, e2, e3⟩ => ⟨v, r, e1, rep_le e x v e2, reps_le e xs r e3⟩
theorem repK_le (e : Le G G') : ∀ (xs : List (Key × D)) (vs : List (Key × V)), repK K G xs vs → repK K G' xs vs
  | [], vs, h => h
  | (k, x) :: xs, vs, ⟨v, r, e1, e2, e3⟩ => ⟨v, r, e1, rep_le e x v e2, repK_le e xs r e3⟩
theorem repT_le (e : Le G G') : ∀ (xs : List (List Key × D)) (vs : List (List Key × V)), repT K G xs vs → repT K G' xs vs
  | [], vs, h => h
  | (k, x) :: xs, vs, ⟨v, r, e1, e2, e3⟩ => ⟨v, r, e1, rep_le e x v e2, repT_le e xs r e3⟩
theorem repF_le (e : Le G G') : ∀ (xs : List (Str × D)) (vs : List (Str × V)), repF K G xs vs → repF K G' xs vs
  | [], vs, h => h
  | (k, x) :: xs, vs, ⟨v, r, e1, e2, e3⟩ => ⟨v, r, e1, rep_le e x v e2, repF_le e xs r e3⟩
end
theorem reps_len : ∀ {xs : List D} {vs : List V}, reps K G xs vs → vs.length = xs.length
  | [], vs, h => by rw [show vs = [] from h]; rfl
  | x :: xs, vs, ⟨v, r, e1, e2, e3⟩ => by rw [e1, List.length_cons, List.length_cons, reps_len e3]
theorem reps_app : ∀ {xs ys : List D} {vs ws : List V}, reps K G xs vs → reps K G ys ws → reps K G (xs ++ ys) (vs ++ ws)
  | [], ys, vs, ws, h, h2 => by rw [show vs = [] from h]; exact h2
  | x :: xs, ys, vs, ws, ⟨v, r, e1, e2, e3⟩, h2 => by rw [e1]; exact ⟨v, r ++ ws, rfl, e2, reps_app e3 h2⟩
theorem reps_get : ∀ {xs : List D} {vs : List V} {i : Nat}, reps K G xs vs → ∀ {x}, xs[i]? = some x → ∃ v, vs[i]? = some v ∧ rep K G x v
  | [], vs, i, h, x, e => by simp at e
  | x :: xs, vs, 0, ⟨v, r, e1, e2, e3⟩, y, e => by
    rw [e1]; simp only [List.getElem?_cons_zero, Option.some.injEq] at e ⊢; exact ⟨v, rfl, e ▸ e2⟩
  | x :: xs, vs, i + 1, ⟨v, r, e1, e2, e3⟩, y, e => by
    rw [e1]; simp only [List.getElem?_cons_succ] at e ⊢; exact reps_get e3 e
theorem reps_drop : ∀ {xs : List D} {vs : List V} (n : Nat), reps K G xs vs → reps K G (xs.drop n) (vs.drop n)
  | [], vs, n, h => by rw [show vs = [] from h]; simp [reps]
  | x :: xs, vs, 0, h => h
  | x :: xs, vs, n + 1, ⟨v, r, e1, e2, e3⟩ => by rw [e1]; exact reps_drop n e3
theorem reps_take : ∀ {xs : List D} {vs : List V} (n : Nat), reps K G xs vs → reps K G (xs.take n) (vs.take n)
  | [], vs, n, h => by rw [show vs = [] from h]; simp [reps]
  | x :: xs, vs, 0, h => rfl
  | x :: xs, vs, n + 1, ⟨v, r, e1, e2, e3⟩ => by rw [e1]; exact ⟨v, _, rfl, e2, reps_take n e3⟩
theorem reps_rev : ∀ {xs : List D} {vs : List V}, reps K G xs vs → reps K G xs.reverse vs.reverse
  | [], vs, h => by rw [show vs = [] from h]; rfl
  | x :: xs, vs, ⟨v, r, e1, e2, e3⟩ => by
    rw [e1, List.reverse_cons, List.reverse_cons]; exact reps_app (reps_rev e3) ⟨v, [], rfl, e2, rfl⟩
theorem reps_set : ∀ {xs : List D} {vs : List V} {x : D} {v : V} (i : Nat), reps K G xs vs → rep K G x v → reps K G (xs.set i x) (vs.set i v)
  | [], vs, x, v, i, h, _ => by rw [show vs = [] from h]; rfl
  | y :: xs, vs, x, v, 0, ⟨u, r, e1, e2, e3⟩, q => by rw [e1]; exact ⟨v, r, rfl, q, e3⟩
  | y :: xs, vs, x, v, i + 1, ⟨u, r, e1, e2, e3⟩, q => by rw [e1]; exact ⟨u, _, rfl, e2, reps_set i e3 q⟩
theorem reps_erase : ∀ {xs : List D} {vs : List V} (i : Nat), reps K G xs vs → reps K G (xs.eraseIdx i) (vs.eraseIdx i)
  | [], vs, i, h => by rw [show vs = [] from h]; rfl
  | y :: xs, vs, 0, ⟨u, r, e1, e2, e3⟩ => by rw [e1]; exact e3
  | y :: xs, vs, i + 1, ⟨u, r, e1, e2, e3⟩ => by rw [e1]; exact ⟨u, _, rfl, e2, reps_erase i e3⟩
/-- a list of one kind of plain data -/
theorem reps_map {α : Type} {f : α → D} {g : α → V} (h : ∀ a v, rep K G (f a) v ↔ v = g a) : ∀ {xs : List α} {vs : List V}, reps K G (xs.map f) vs ↔ vs = xs.map g
  | [], vs => Iff.rfl
  | x :: xs, vs => by
    constructor
    · rintro ⟨v, r, e1, e2, e3⟩
      rw [e1, (h x v).mp e2, (reps_map h).mp e3]; rfl
    · intro e
      exact ⟨g x, xs.map g, e, (h x _).mpr rfl, (reps_map h).mpr rfl⟩
theorem reps_strs {xs : List Str} {vs : List V} : reps K G (xs.map D.str) vs ↔ vs = xs.map V.str := reps_map (f := D.str) (g := V.str) fun _ _ => Iff.rfl
theorem reps_ints {xs : List Int} {vs : List V} : reps K G (xs.map D.int) vs ↔ vs = xs.map V.int := reps_map (f := D.int) (g := V.int) fun _ _ => Iff.rfl
theorem reps_bls {xs : List Bool} {vs : List V} : reps K G (xs.map D.bl) vs ↔ vs = xs.map V.bl := reps_map (f := D.bl) (g := V.bl) fun _ _ => Iff.rfl

/-- read at the top in H, below it in G -/
def repS (K : PySem.W.Frag) (G H : Hp) : D → V → Prop
  | .lst xs, v => ∃ p vs, v = .ref p ∧ H p = some (.lst vs) ∧ reps K G xs vs
  | .dK kvs, v => ∃ p ws, v = .ref p ∧ Rd H p (.dK ws) ∧ repK K G kvs ws
  | .dT kvs, v => ∃ p ws, v = .ref p ∧ Rd H p (.dT ws) ∧ repT K G kvs ws
  | x, v => rep K G x v
theorem repS_of {H : Hp} (e : Ex G H) : ∀ (x : D) (v : V), rep K G x v → repS K G H x v
  | .lst xs, v, ⟨p, vs, e1, e2, e3⟩ => ⟨p, vs, e1, e _ _ e2, e3⟩
  | .dK kvs, v, ⟨p, ws, e1, e2, e3⟩ => ⟨p, ws, e1, e.le.rd _ _ rfl e2, e3⟩
  | .dT kvs, v, ⟨p, ws, e1, e2, e3⟩ => ⟨p, ws, e1, e.le.rd _ _ rfl e2, e3⟩
  | .non, v, h => h
  | .bl b, v, h => h
  | .int i, v, h => h
  | .str s, v, h => h
  | .tup xs, v, h => h
  | .ins C fs, v, h => h
  | .kl xs, v, h => h
  | .kt xs, v, h => h
  | .raw u, v, h => h

/-! dicts' data -/
section
variable {κ : Type} [DecidableEq κ]
def lookD {α : Type} (kvs : List (κ × α)) (k : κ) : Option α := (kvs.find? fun kv => decide (kv.1 = k)).map (·.2)
def putD {α : Type} (kvs : List (κ × α)) (k : κ) (v : α) : List (κ × α) := if (kvs.any fun kv => decide (kv.1 = k)) then kvs.map fun kv => if kv.1 = k then (kv.1, v) else kv else kvs ++ [(k, v)]
end
end
end DL

set_option Elab.async false
set_option linter.all false
set_option maxRecDepth 100000
namespace DL
open PySem PySem.Spec L2
variable {K : PySem.W.Frag} {G G' H H' : Hp}

/-! ### what a def owns: objects that it alone knows, and may change -/
structure Own where
  R : PySem.W.Frag → Hp → Hp → V → List Addr → Prop
  dat : Option D
  see : Option D
  mono : ∀ {K G G' H v fp}, Le G G' → R K G H v fp → R K G' H v fp
  loc : ∀ {K G H H' v fp}, (∀ p ∈ fp, H' p = H p) → R K G H v fp → R K G H' v fp
  liv : ∀ {K G H v fp}, R K G H v fp → ∀ p ∈ fp, ∃ o, H p = some o ∧ isFrz o = false
  fz : ∀ {K G H v fp x}, dat = some x → R K G H v fp → (∀ p ∈ fp, G p = none) → fp.Nodup → ∃ G', Ex G G' ∧ (∀ a o, G' a = some o → G a = some o ∨ (a ∈ fp ∧ H a = some o)) ∧ rep K G' x v
  sh : ∀ {K G H v fp x}, see = some x → R K G H v fp → repS K G H x v
def ownL (xs : List D) : Own where
  R := fun K G H v fp => ∃ p vs, v = .ref p ∧ fp = [p] ∧ H p = some (.lst vs) ∧ reps K G xs vs
  dat := some (.lst xs)
  see := some (.lst xs)
  mono := fun e ⟨p, vs, e1, e2, e3, e4⟩ => ⟨p, vs, e1, e2, e3, reps_le e _ _ e4⟩
  loc := fun e ⟨p, vs, e1, e2, e3, e4⟩ => ⟨p, vs, e1, e2, (e p (by rw [e2]; simp)).trans e3, e4⟩
  liv := fun ⟨p, vs, e1, e2, e3, e4⟩ q hq => by
    rw [e2, List.mem_singleton] at hq
    rw [hq]; exact ⟨_, e3, rfl⟩
  fz := fun {K G H v fp x} hx ⟨p, vs, e1, e2, e3, e4⟩ hn _ => by
    cases hx
    have hp : G p = none := hn p (by rw [e2]; simp)
    refine ⟨upd G p (.lst vs), Ex.upd hp, fun a o h => ?_, ⟨p, vs, e1, upd_same, reps_le (Ex.upd hp).le _ _ e4⟩⟩
    by_cases ha : a = p
    · subst ha; rw [upd_same] at h; cases h; exact .inr ⟨by rw [e2]; simp, e3⟩
    · rw [upd_ne ha] at h; exact .inl h
  sh := fun hx ⟨p, vs, e1, e2, e3, e4⟩ => by cases hx; exact ⟨p, vs, e1, e3, e4⟩
def ownK (kvs : List (Key × D)) : Own where
  R := fun K G H v fp => ∃ p ws, v = .ref p ∧ fp = [p] ∧ H p = some (.dK ws) ∧ repK K G kvs ws
  dat := some (.dK kvs)
  see := some (.dK kvs)
  mono := fun e ⟨p, vs, e1, e2, e3, e4⟩ => ⟨p, vs, e1, e2, e3, repK_le e _ _ e4⟩
  loc := fun e ⟨p, vs, e1, e2, e3, e4⟩ => ⟨p, vs, e1, e2, (e p (by rw [e2]; simp)).trans e3, e4⟩
  liv := fun ⟨p, vs, e1, e2, e3, e4⟩ q hq => by
    rw [e2, List.mem_singleton] at hq
    rw [hq]; exact ⟨_, e3, rfl⟩
  fz := fun {K G H v fp x} hx ⟨p, vs, e1, e2, e3, e4⟩ hn _ => by
    cases hx
    have hp : G p = none := hn p (by rw [e2]; simp)
    refine ⟨upd G p (.dK vs), Ex.upd hp, fun a o h => ?_, ⟨p, vs, e1, .inl upd_same, repK_le (Ex.upd hp).le _ _ e4⟩⟩
    by_cases ha : a = p
    · subst ha; rw [upd_same] at h; cases h; exact .inr ⟨by rw [e2]; simp, e3⟩
    · rw [upd_ne ha] at h; exact .inl h
  sh := fun hx ⟨p, vs, e1, e2, e3, e4⟩ => by cases hx; exact ⟨p, vs, e1, .inl e3, e4⟩
def ownT (kvs : List (List Key × D)) : Own where
  R := fun K G H v fp => ∃ p ws, v = .ref p ∧ fp = [p] ∧ H p = some (.dT ws) ∧ repT K G kvs ws
  dat := some (.dT kvs)
  see := some (.dT kvs)
  mono := fun e ⟨p, vs, e1, e2, e3, e4⟩ => ⟨p, vs, e1, e2, e3, repT_le e _ _ e4⟩
  loc := fun e ⟨p, vs, e1, e2, e3, e4⟩ => ⟨p, vs, e1, e2, (e p (by rw [e2]; simp)).trans e3, e4⟩
  liv := fun ⟨p, vs, e1, e2, e3, e4⟩ q hq => by
    rw [e2, List.mem_singleton] at hq
    rw [hq]; exact ⟨_, e3, rfl⟩
  fz := fun {K G H v fp x} hx ⟨p, vs, e1, e2, e3, e4⟩ hn _ => by
    cases hx
    have hp : G p = none := hn p (by rw [e2]; simp)
    refine ⟨upd G p (.dT vs), Ex.upd hp, fun a o h => ?_, ⟨p, vs, e1, .inl upd_same, repT_le (Ex.upd hp).le _ _ e4⟩⟩
    by_cases ha : a = p
    · subst ha; rw [upd_same] at h; cases h; exact .inr ⟨by rw [e2]; simp, e3⟩
    · rw [upd_ne ha] at h; exact .inl h
  sh := fun hx ⟨p, vs, e1, e2, e3, e4⟩ => by cases hx; exact ⟨p, vs, e1, .inl e3, e4⟩

/-! ### cells: slots and temporaries, by what they hold -/
inductive SV where
  | any | d (x : D) | al (j : Nat) | own (O : Own)
def CellOk (K : PySem.W.Frag) (G H : Hp) (σ0 : St) : SV → Option V → List Addr → Prop
  | .any, _, fp => fp = []
  | .d x, o, fp => fp = [] ∧ ∃ v, o = some v ∧ rep K G x v
  | .al j, o, fp => fp = [] ∧ ∃ v, o = some v ∧ σ0[j]? = some (some v)
  | .own O, o, fp => ∃ v, o = some v ∧ O.R K G H v fp
inductive Cells (K : PySem.W.Frag) (G H : Hp) (σ0 : St) : List SV → List (Option V) → List Addr → Prop
  | nil : Cells K G H σ0 [] [] []
  | cons {s ρ o σ fp fq} : CellOk K G H σ0 s o fp → Cells K G H σ0 ρ σ fq → Cells K G H σ0 (s :: ρ) (o :: σ) (fp ++ fq)

theorem CellOk.mono {σ0 : St} {s : SV} {o : Option V} {fp : List Addr} (e : Le G G') (h : CellOk K G H σ0 s o fp) : CellOk K G' H σ0 s o fp := by
  cases s with
  | any => exact h
  | d x => obtain ⟨h1, v, h2, h3⟩ := h; exact ⟨h1, v, h2, rep_le e _ _ h3⟩
  | al j => exact h
  | own O => obtain ⟨v, h1, h2⟩ := h; exact ⟨v, h1, O.mono e h2⟩
theorem CellOk.loc {σ0 : St} {s : SV} {o : Option V} {fp : List Addr} (e : ∀ p ∈ fp, H' p = H p) (h : CellOk K G H σ0 s o fp) : CellOk K G H' σ0 s o fp := by
  cases s with
  | any => exact h
  | d x => exact h
  | al j => exact h
  | own O => obtain ⟨v, h1, h2⟩ := h; exact ⟨v, h1, O.loc e h2⟩
theorem CellOk.liv {σ0 : St} {s : SV} {o : Option V} {fp : List Addr} (h : CellOk K G H σ0 s o fp) : ∀ p ∈ fp, ∃ o, H p = some o ∧ isFrz o = false := by
  cases s with
  | any => rw [show fp = [] from h]; intro p hp; simp at hp
  | d x => rw [h.1]; intro p hp; simp at hp
  | al j => rw [h.1]; intro p hp; simp at hp
  | own O => obtain ⟨v, h1, h2⟩ := h; exact O.liv h2
section
variable {σ0 : St} {ρ ρ' : List SV} {σ σ' : List (Option V)} {fp fq : List Addr}
theorem Cells.mono (e : Le G G') (h : Cells K G H σ0 ρ σ fp) : Cells K G' H σ0 ρ σ fp := by
  induction h with
  | nil => exact .nil
  | cons a _ ih => exact .cons (a.mono e) ih
theorem Cells.loc (h : Cells K G H σ0 ρ σ fp) (e : ∀ p ∈ fp, H' p = H p) : Cells K G H' σ0 ρ σ fp := by
  induction h with
  | nil => exact .nil
  | cons a _ ih => exact .cons (a.loc fun p hp => e p (List.mem_append_left _ hp)) (ih fun p hp => e p (List.mem_append_right _ hp))
theorem Cells.liv' (h : Cells K G H σ0 ρ σ fp) : ∀ p ∈ fp, ∃ o, H p = some o ∧ isFrz o = false := by
  induction h with
  | nil => intro p hp; simp at hp
  | cons a _ ih => intro p hp; rcases List.mem_append.mp hp with q | q; exact a.liv p q; exact ih p q
theorem Cells.liv (h : Cells K G H σ0 ρ σ fp) : ∀ p ∈ fp, H p ≠ none := fun p hp z => by
  obtain ⟨o, e, _⟩ := h.liv' p hp
  rw [e] at z; cases z
theorem Cells.len (h : Cells K G H σ0 ρ σ fp) : ρ.length = σ.length := by
  induction h with
  | nil => rfl
  | cons _ _ ih => rw [List.length_cons, List.length_cons, ih]
theorem Cells.app (h : Cells K G H σ0 ρ σ fp) (h' : Cells K G H σ0 ρ' σ' fq) : Cells K G H σ0 (ρ ++ ρ') (σ ++ σ') (fp ++ fq) := by
  induction h with
  | nil => exact h'
  | cons a _ ih => rw [List.append_assoc]; exact .cons a ih
/-- one place out of the row -/
theorem Cells.take {s : SV} : ∀ {ρ : List SV} {σ : List (Option V)} {fp : List Addr} {i : Nat}, Cells K G H σ0 ρ σ fp → ρ[i]? = some s →
    ∃ o f1 f2 f3, σ[i]? = some o ∧ fp = f1 ++ (f2 ++ f3) ∧ CellOk K G H σ0 s o f2 ∧
      ∀ (s' : SV) (o' : Option V) (G' H' : Hp) (f2' : List Addr), Le G G' → (∀ p ∈ f1 ++ f3, H' p = H p) → CellOk K G' H' σ0 s' o' f2' → Cells K G' H' σ0 (ρ.set i s') (σ.set i o') (f1 ++ (f2' ++ f3))
  | [], _, _, i, _, e => by simp at e
  | t :: ρ, _, _, 0, .cons (o := o) (fp := fp) (fq := fq) a r, e => by
    simp only [List.getElem?_cons_zero, Option.some.injEq] at e
    subst e
    exact ⟨o, [], fp, fq, rfl, rfl, a, fun s' o' G' H' f2' le hl c => by
      show Cells K G' H' σ0 (s' :: ρ) (o' :: _) (f2' ++ fq)
      exact .cons c ((r.mono le).loc fun p hp => hl p (by simpa using hp))⟩
  | t :: ρ, _, _, i + 1, .cons (o := o) (fp := fp) (fq := fq) a r, e => by
    simp only [List.getElem?_cons_succ] at e
    obtain ⟨o1, f1, f2, f3, e1, e2, c, k⟩ := Cells.take r e
    refine ⟨o1, fp ++ f1, f2, f3, by simpa using e1, by rw [e2, List.append_assoc], c, fun s' o' G' H' f2' le hl c' => ?_⟩
    have := k s' o' G' H' f2' le (fun p hp => hl p (by rw [List.append_assoc]; exact List.mem_append_right _ hp)) c'
    rw [List.append_assoc]
    exact .cons ((a.mono le).loc fun p hp => hl p (by rw [List.append_assoc]; exact List.mem_append_left _ hp)) this
end

/-! ### the state of a def's run -/
structure Bs where
  G : Hp
  H : Hp
structure SatG (K : PySem.W.Frag) (b : Bs) (ρ : List SV) (σ : St) (θ : List SV) (τ : List V) (H G : Hp) (fp fq : List Addr) : Prop where
  gg : Ex b.G G
  hh : Ex b.H H
  gh : Ex G H
  sep : ∀ p, b.H p ≠ none → b.G p = none → G p = none
  fr : ∀ a o u, G a = some (.frz o u) → b.G a = some (.frz o u)
  sl : Cells K G H [] ρ σ fp
  tm : Cells K G H σ θ (τ.map some) fq
  out : ∀ p ∈ fp ++ fq, G p = none ∧ b.H p = none
  nd : (fp ++ fq).Nodup
def Sat (K : PySem.W.Frag) (b : Bs) (ρ : List SV) (σ : St) (θ : List SV) (τ : List V) (H : Hp) : Prop := ∃ G fp fq, SatG K b ρ σ θ τ H G fp fq
section
variable {b : Bs} {ρ : List SV} {σ : St} {θ : List SV} {τ : List V} {fp fq : List Addr} {z : SV} {v : V}
/-- the heap grows -/
theorem SatG.grow (S : SatG K b ρ σ θ τ H G fp fq) (e : Ex H H') : SatG K b ρ σ θ τ H' G fp fq := by
  have same : ∀ p, H p ≠ none → H' p = H p := fun p hp => by
    cases q : H p with
    | none => exact absurd q hp
    | some o => exact e p o q
  exact ⟨S.gg, S.hh.trans e, S.gh.trans e, S.sep, S.fr, S.sl.loc fun p hp => same p (S.sl.liv p hp), S.tm.loc fun p hp => same p (S.tm.liv p hp), S.out, S.nd⟩
/-- a temporary is dropped -/
theorem SatG.drop (S : SatG K b ρ σ (z :: θ) (v :: τ) H G fp fq) : ∃ fq', SatG K b ρ σ θ τ H G fp fq' := by
  obtain ⟨gg, hh, gh, sep, fr, sl, tm, out, nd⟩ := S
  cases tm with
  | cons a r =>
    rename_i f1 f2
    refine ⟨f2, gg, hh, gh, sep, fr, sl, r, fun p hp => out p ?_, ?_⟩
    · rcases List.mem_append.mp hp with h | h
      · exact List.mem_append_left _ h
      · exact List.mem_append_right _ (List.mem_append_right _ h)
    · rw [List.nodup_append] at nd ⊢
      obtain ⟨n1, n2, n3⟩ := nd
      rw [List.nodup_append] at n2
      exact ⟨n1, n2.2.1, fun a ha c hc => n3 a ha c (List.mem_append_right _ hc)⟩
theorem Sat.drop (S : Sat K b ρ σ (z :: θ) (v :: τ) H) : Sat K b ρ σ θ τ H := let ⟨G, fp, fq, s⟩ := S; let ⟨fq', s'⟩ := s.drop; ⟨G, fp, fq', s'⟩
/-- a temporary of plain data comes -/
theorem SatG.push {x : D} (S : SatG K b ρ σ θ τ H G fp fq) (r : rep K G x v) : SatG K b ρ σ (.d x :: θ) (v :: τ) H G fp fq :=
  ⟨S.gg, S.hh, S.gh, S.sep, S.fr, S.sl, .cons (fp := []) ⟨rfl, v, rfl, r⟩ S.tm, S.out, S.nd⟩
/-- the frozen part grows by a new object -/
theorem SatG.lay {p : Addr} {o : HO} (S : SatG K b ρ σ θ τ H G fp fq) (hp : H p = none) (hf : isFrz o = false := by rfl) : SatG K b ρ σ θ τ (upd H p o) (upd G p o) fp fq := by
  have gp : G p = none := by
    cases q : G p with
    | none => rfl
    | some u => rw [S.gh p u q] at hp; cases hp
  have bp : b.H p = none := by
    cases q : b.H p with
    | none => rfl
    | some u => rw [S.hh p u q] at hp; cases hp
  have S1 := S.grow (Ex.upd (o := o) hp)
  refine ⟨S.gg.trans (Ex.upd gp), S1.hh, fun a u h => ?_, fun q h1 h2 => ?_, fun a o' u h => ?_, S1.sl.mono (Ex.upd gp).le, S1.tm.mono (Ex.upd gp).le, fun q hq => ⟨?_, (S.out q hq).2⟩, S.nd⟩
  · by_cases ha : a = p
    · subst ha; rw [upd_same] at h ⊢; exact h
    · rw [upd_ne ha] at h ⊢; exact S.gh a u h
  · by_cases ha : q = p
    · subst ha; exact absurd bp h1
    · rw [upd_ne ha]; exact S.sep q h1 h2
  · by_cases ha : a = p
    · subst ha; rw [upd_same] at h; cases h; cases hf
    · rw [upd_ne ha] at h; exact S.fr a o' u h
  · have hq' : H q ≠ none := by
      rcases List.mem_append.mp hq with h | h
      · exact S.sl.liv q h
      · exact S.tm.liv q h
    have ne : q ≠ p := fun z => hq' (z ▸ hp)
    rw [upd_ne ne]; exact (S.out q hq).1
/-- a new object of one's own comes as a temporary -/
theorem SatG.owned {p : Addr} {o : HO} {O : Own} (S : SatG K b ρ σ θ τ H G fp fq) (hp : H p = none) (r : O.R K G (upd H p o) v [p]) : SatG K b ρ σ (.own O :: θ) (v :: τ) (upd H p o) G fp (p :: fq) := by
  have gp : G p = none := by
    cases q : G p with
    | none => rfl
    | some u => rw [S.gh p u q] at hp; cases hp
  have bp : b.H p = none := by
    cases q : b.H p with
    | none => rfl
    | some u => rw [S.hh p u q] at hp; cases hp
  have S1 := S.grow (Ex.upd (o := o) hp)
  have ne : ∀ q ∈ fp ++ fq, q ≠ p := fun q hq z => by
    rcases List.mem_append.mp hq with h | h
    · exact S.sl.liv q h (z ▸ hp)
    · exact S.tm.liv q h (z ▸ hp)
  refine ⟨S1.gg, S1.hh, S1.gh, S1.sep, S1.fr, S1.sl, .cons (fp := [p]) ⟨v, rfl, r⟩ S1.tm, fun q hq => ?_, ?_⟩
  · rcases List.mem_append.mp hq with h | h
    · exact S.out q (List.mem_append_left _ h)
    · rcases List.mem_cons.mp h with h | h
      · subst h; exact ⟨gp, bp⟩
      · exact S.out q (List.mem_append_right _ h)
  · have := S.nd
    rw [List.nodup_append] at this ⊢
    obtain ⟨n1, n2, n3⟩ := this
    refine ⟨n1, List.nodup_cons.mpr ⟨fun h => ne p (List.mem_append_right _ h) rfl, n2⟩, fun a ha c hc => ?_⟩
    rcases List.mem_cons.mp hc with h | h
    · subst h; exact ne a (List.mem_append_left _ ha)
    · exact n3 a ha c h
end
end DL

set_option Elab.async false
set_option linter.all false
set_option maxRecDepth 100000
namespace DL
open PySem PySem.Spec L2
variable {K : PySem.W.Frag}

/-! ### what a reading makes of what is known -/
def WE (K : PySem.W.Frag) (te : TE) (ρ : List SV) (C : SV → List SV → Prop) : Prop :=
  ∀ b σ H θ τ (Q : VK), Sat K b ρ σ θ τ H → (∀ z ρ' v H', C z ρ' → Sat K b ρ' σ (z :: θ) (v :: τ) H' → Q v H') → te σ H Q
def WT (K : PySem.W.Frag) (tt : TT) (ρ : List SV) (C : Bool → List SV → Prop) : Prop :=
  ∀ b σ H θ τ (Q : Bool → Hp → Prop), Sat K b ρ σ θ τ H → (∀ k ρ' H', C k ρ' → Sat K b ρ' σ θ τ H' → Q k H') → tt σ H Q
/-- arguments: the last one on top -/
def WA (K : PySem.W.Frag) (ta : TA) (ρ : List SV) (C : List SV → List SV → Prop) : Prop :=
  ∀ b σ H θ τ (Q : List V → Hp → Prop), Sat K b ρ σ θ τ H → (∀ zs ρ' vs H', C zs ρ' → Sat K b ρ' σ (zs.reverse ++ θ) (vs.reverse ++ τ) H' → zs.length = vs.length → Q vs H') → ta σ H Q
/-- by values -/
def W1 (K : PySem.W.Frag) (r : V → Hp → VK → Prop) (x : SV) (ρ : List SV) (C : SV → List SV → Prop) : Prop :=
  ∀ b σ H θ τ v (Q : VK), Sat K b ρ σ (x :: θ) (v :: τ) H → (∀ z ρ' u H', C z ρ' → Sat K b ρ' σ (z :: θ) (u :: τ) H' → Q u H') → r v H Q
def W2 (K : PySem.W.Frag) (r : R2) (x y : SV) (ρ : List SV) (C : SV → List SV → Prop) : Prop :=
  ∀ b σ H θ τ v w (Q : VK), Sat K b ρ σ (y :: x :: θ) (w :: v :: τ) H → (∀ z ρ' u H', C z ρ' → Sat K b ρ' σ (z :: θ) (u :: τ) H' → Q u H') → r v w H Q
def WR (K : PySem.W.Frag) (r : List V → Hp → VK → Prop) (xs : List SV) (ρ : List SV) (C : SV → List SV → Prop) : Prop :=
  ∀ b σ H θ τ vs (Q : VK), Sat K b ρ σ (xs.reverse ++ θ) (vs.reverse ++ τ) H → xs.length = vs.length → (∀ z ρ' u H', C z ρ' → Sat K b ρ' σ (z :: θ) (u :: τ) H' → Q u H') → r vs H Q
def WM (K : PySem.W.Frag) (r : V → List V → Hp → VK → Prop) (x : SV) (xs : List SV) (ρ : List SV) (C : SV → List SV → Prop) : Prop :=
  ∀ b σ H θ τ v vs (Q : VK), Sat K b ρ σ (xs.reverse ++ (x :: θ)) (vs.reverse ++ (v :: τ)) H → xs.length = vs.length → (∀ z ρ' u H', C z ρ' → Sat K b ρ' σ (z :: θ) (u :: τ) H' → Q u H') → r v vs H Q

section
variable {ta tb te tc : TE} {tt tu : TT} {ts tr : TA} {ρ : List SV} {C : SV → List SV → Prop} {r : R2} {i : Nat} {x : D}

/-- frozen: what it is as data, and the slots behind that -/
def fzT : SV → List SV → Option (D × List SV)
  | .d x, ρ => some (x, ρ)
  | .own O, ρ => O.dat.map fun x => (x, ρ)
  | .al j, ρ => match ρ[j]? with
    | some (.own O) => O.dat.map fun x => (x, ρ.set j (.d x))
    | some (.d x) => some (x, ρ)
    | _ => none
  | .any, _ => none
theorem Cells.get {G H : Hp} {σ0 : L2.St} {ρ : List SV} {σ : List (Option V)} {fp : List Addr} {j : Nat} {s : SV} (h : Cells K G H σ0 ρ σ fp) (e : ρ[j]? = some s) : ∃ o f1 f2 f3, σ[j]? = some o ∧ fp = f1 ++ (f2 ++ f3) ∧ CellOk K G H σ0 s o f2 := by
  obtain ⟨o, f1, f2, f3, e1, e2, c, _⟩ := h.take e
  exact ⟨o, f1, f2, f3, e1, e2, c⟩
theorem nd_mid {f1 f2 f3 fq : List Addr} (h : (f1 ++ (f2 ++ f3) ++ fq).Nodup) : (f1 ++ ([] ++ f3) ++ fq).Nodup ∧ f2.Nodup ∧ ∀ p ∈ f2, p ∉ f1 ++ ([] ++ f3) ++ fq := by
  simp only [List.append_assoc, List.nil_append, List.nodup_append, List.mem_append] at h ⊢
  obtain ⟨n1, ⟨n2, ⟨n3, n4, n34⟩, n2'⟩, n1'⟩ := h
  refine ⟨⟨n1, ⟨n3, n4, n34⟩, fun a ha c hc => n1' a ha c (.inr hc)⟩, n2, fun p hp => ?_⟩
  rintro (h | h)
  · exact n1' p h p (.inl hp) rfl
  · exact n2' p hp p h rfl
/-- freezing slot j -/
theorem SatG.freezeSlot {b : Bs} {σ : L2.St} {θ : List SV} {τ : List V} {H G : Hp} {fp fq : List Addr} {j : Nat} {O : Own} (S : SatG K b ρ σ θ τ H G fp fq) (e : ρ[j]? = some (.own O)) (hx : O.dat = some x) :
    ∃ G' fp', Ex G G' ∧ SatG K b (ρ.set j (.d x)) σ θ τ H G' fp' fq ∧ ∃ v, σ[j]? = some (some v) ∧ rep K G' x v := by
  obtain ⟨o, f1, f2, f3, e1, e2, ⟨v, e3, hR⟩, k⟩ := S.sl.take e
  subst e2 e3
  obtain ⟨nd, n2, n3⟩ := nd_mid S.nd
  have o2 : ∀ p ∈ f2, G p = none ∧ b.H p = none := fun p hp => S.out p (by simp [hp])
  obtain ⟨G', g1, g2, g3⟩ := O.fz hx hR (fun p hp => (o2 p hp).1) n2
  have sl := k (.d x) (some v) G' H [] g1.le (fun p _ => rfl) ⟨rfl, v, rfl, g3⟩
  have es : σ.set j (some v) = σ := by
    refine List.ext_getElem? fun m => ?_
    by_cases hm : m = j
    · subst hm
      have : m < σ.length := (List.getElem?_eq_some_iff.mp e1).1
      rw [List.getElem?_set_self this, e1]
    · rw [List.getElem?_set_ne (Ne.symm hm)]
  rw [es] at sl
  refine ⟨G', _, g1, ⟨S.gg.trans g1, S.hh, fun a o h => ?_, fun p h1 h2 => ?_, fun a o u h => ?_, sl, S.tm.mono g1.le, fun p hp => ?_, nd⟩, v, e1, g3⟩
  · rcases g2 a o h with q | q
    · exact S.gh a o q
    · exact q.2
  · cases q : G' p with
    | none => rfl
    | some u =>
      rcases g2 p u q with z | z
      · rw [S.sep p h1 h2] at z; cases z
      · exact absurd (o2 p z.1).2 h1
  · rcases g2 a _ h with q | q
    · exact S.fr a o u q
    · obtain ⟨o', e, ne⟩ := O.liv hR a q.1
      rw [q.2] at e; cases e; cases ne
  · have hp' : p ∈ f1 ++ (f2 ++ f3) ++ fq := by
      simp only [List.mem_append, List.nil_append] at hp ⊢
      rcases hp with (h | h) | h
      · exact .inl (.inl h)
      · exact .inl (.inr (.inr h))
      · exact .inr h
    refine ⟨?_, (S.out p hp').2⟩
    cases q : G' p with
    | none => rfl
    | some u =>
      rcases g2 p u q with z | z
      · rw [(S.out p hp').1] at z; cases z
      · exact absurd hp (n3 p z.1)
/-- freezing the temporary on top -/
theorem Sat.fz {b : Bs} {σ : L2.St} {θ : List SV} {τ : List V} {H : Hp} {z : SV} {v : V} {ρ' : List SV} (S : Sat K b ρ σ (z :: θ) (v :: τ) H) (h : fzT z ρ = some (x, ρ')) : Sat K b ρ' σ (.d x :: θ) (v :: τ) H := by
  obtain ⟨G, fp, fq, S⟩ := S
  cases z with
  | any => cases h
  | d y =>
    cases h
    exact ⟨G, fp, fq, S⟩
  | own O =>
    have h : O.dat.map (fun x => (x, ρ)) = some (x, ρ') := h
    obtain ⟨x1, hx, e⟩ := Option.map_eq_some_iff.mp h
    cases e
    obtain ⟨gg, hh, gh, sep, fr, sl, tm, out, nd⟩ := S
    cases tm with
    | cons a r =>
      rename_i f2 f3
      obtain ⟨v', e3, hR⟩ := a
      cases e3
      have nd' : (fp ++ (f2 ++ f3) ++ []).Nodup := by simpa using nd
      obtain ⟨nd2, n2, n3⟩ := nd_mid nd'
      have o2 : ∀ p ∈ f2, G p = none ∧ b.H p = none := fun p hp => out p (by simp [hp])
      obtain ⟨G', g1, g2, g3⟩ := O.fz hx hR (fun p hp => (o2 p hp).1) n2
      refine ⟨G', fp, f3, gg.trans g1, hh, fun a o h => ?_, fun p h1 h2 => ?_, fun a o u h => ?_, sl.mono g1.le, .cons (fp := []) ⟨rfl, v, rfl, g3⟩ (r.mono g1.le), fun p hp => ?_, by simpa using nd2⟩
      · rcases g2 a o h with q | q
        · exact gh a o q
        · exact q.2
      · cases q : G' p with
        | none => rfl
        | some u =>
          rcases g2 p u q with z | z
          · rw [sep p h1 h2] at z; cases z
          · exact absurd (o2 p z.1).2 h1
      · rcases g2 a _ h with q | q
        · exact fr a o u q
        · obtain ⟨o', e, ne⟩ := O.liv hR a q.1
          rw [q.2] at e; cases e; cases ne
      · have hp' : p ∈ fp ++ (f2 ++ f3) := by
          simp only [List.mem_append] at hp ⊢
          rcases hp with h | h
          · exact .inl h
          · exact .inr (.inr h)
        refine ⟨?_, (out p hp').2⟩
        cases q : G' p with
        | none => rfl
        | some u =>
          rcases g2 p u q with z | z
          · rw [(out p hp').1] at z; cases z
          · exact absurd (by simpa using hp) (n3 p z.1)
  | al j =>
    have h : (match ρ[j]? with
      | some (.own O) => O.dat.map fun x => (x, ρ.set j (.d x))
      | some (.d x) => some (x, ρ)
      | _ => none) = some (x, ρ') := h
    cases e : ρ[j]? with
    | none => rw [e] at h; cases h
    | some s =>
      rw [e] at h
      have top : ∃ f2, σ[j]? = some (some v) ∧ SatG K b ρ σ θ τ H G fp f2 := by
        have tm := S.tm
        obtain ⟨fq', S'⟩ := S.drop
        cases tm with
        | cons a r =>
          obtain ⟨_, v', e3, e4⟩ := a
          cases e3
          exact ⟨fq', e4, S'⟩
      obtain ⟨f2, ev, S'⟩ := top
      cases s with
      | any => cases h
      | al m => cases h
      | d y =>
        cases h
        obtain ⟨o, g1, g2, g3, e1, e2, c⟩ := S'.sl.get e
        obtain ⟨_, v', e3, e4⟩ := c
        rw [ev] at e1; cases e1; cases e3
        exact ⟨G, fp, f2, S'.push e4⟩
      | own O =>
        obtain ⟨x1, hx, e'⟩ := Option.map_eq_some_iff.mp (show O.dat.map (fun x => (x, ρ.set j (.d x))) = some (x, ρ') from h)
        cases e'
        obtain ⟨G', fp', g1, S2, v', e1, g3⟩ := S'.freezeSlot e hx
        rw [ev] at e1; cases e1
        exact ⟨G', fp', f2, S2.push g3⟩

/-! ### names, constants -/
theorem we_var (h : ρ[i]? = some (.d x)) (k : C (.d x) ρ) : WE K (tVar i) ρ C := fun b σ H θ τ Q S q => by
  obtain ⟨G, fp, fq, S⟩ := S
  obtain ⟨o, g1, g2, g3, e1, e2, ⟨_, v, e3, e4⟩⟩ := S.sl.get h
  subst e3
  exact ⟨v, e1, q _ _ v H k ⟨G, fp, fq, S.push e4⟩⟩
theorem we_varO {O : Own} (h : ρ[i]? = some (.own O)) (k : C (.al i) ρ) : WE K (tVar i) ρ C := fun b σ H θ τ Q S q => by
  obtain ⟨G, fp, fq, S⟩ := S
  obtain ⟨o, g1, g2, g3, e1, e2, ⟨v, e3, e4⟩⟩ := S.sl.get h
  subst e3
  refine ⟨v, e1, q _ _ v H k ⟨G, fp, fq, S.gg, S.hh, S.gh, S.sep, S.fr, S.sl, .cons (fp := []) ⟨rfl, v, rfl, e1⟩ S.tm, S.out, S.nd⟩⟩
/-- a constant's data -/
def cD : V → D
  | .non => .non
  | .bl b => .bl b
  | .int i => .int i
  | .str s => .str s
  | v => .raw v
theorem rep_cD {G : Hp} (v : V) : rep K G (cD v) v := by cases v <;> rfl
theorem we_c {v : V} (k : C (.d (cD v)) ρ) : WE K (tC v) ρ C := fun b σ H θ τ Q S q => by
  obtain ⟨G, fp, fq, S⟩ := S
  exact q _ _ v H k ⟨G, fp, fq, S.push (rep_cD v)⟩

/-! ### operators, calls by values -/
theorem we_op (h : WE K ta ρ fun x ρ1 => WE K tb ρ1 fun y ρ2 => W2 K r x y ρ2 C) : WE K (tOp r ta tb) ρ C := fun b σ H θ τ Q S q =>
  h b σ H θ τ _ S fun x ρ1 v H1 h1 S1 => h1 b σ H1 _ _ _ S1 fun y ρ2 w H2 h2 S2 => h2 b σ H2 θ τ v w Q S2 q
theorem we_un {r : V → Hp → VK → Prop} (h : WE K ta ρ fun x ρ1 => W1 K r x ρ1 C) : WE K (tUn r ta) ρ C := fun b σ H θ τ Q S q =>
  h b σ H θ τ _ S fun x ρ1 v H1 h1 S1 => h1 b σ H1 θ τ v Q S1 q
theorem wa_nil {C : List SV → List SV → Prop} (k : C [] ρ) : WA K tNil ρ C := fun b σ H θ τ Q S q => q [] ρ [] H k S rfl
theorem wa_cons {C : List SV → List SV → Prop} (h : WE K ta ρ fun x ρ1 => WA K ts ρ1 fun xs ρ2 => C (x :: xs) ρ2) : WA K (tCons ta ts) ρ C := fun b σ H θ τ Q S q =>
  h b σ H θ τ _ S fun x ρ1 v H1 h1 S1 => h1 b σ H1 _ _ _ S1 fun xs ρ2 vs H2 h2 S2 hl => q (x :: xs) ρ2 (v :: vs) H2 h2 (by
    rw [List.reverse_cons, List.reverse_cons, List.append_assoc, List.append_assoc]; exact S2) (by simp [hl])
theorem we_cb {r : List V → Hp → VK → Prop} (h : WA K ts ρ fun xs ρ1 => WR K r xs ρ1 C) : WE K (tCB r ts) ρ C := fun b σ H θ τ Q S q =>
  h b σ H θ τ _ S fun xs ρ1 vs H1 h1 S1 hl => h1 b σ H1 θ τ vs Q S1 hl q

/-! ### tests -/
theorem wt_test {C : Bool → List SV → Prop} (h : WE K te ρ fun z ρ1 => ∃ k, z = .d (.bl k) ∧ C k ρ1) : WT K (tTest te) ρ C := fun b σ H θ τ Q S q =>
  h b σ H θ τ _ S fun z ρ1 v H1 ⟨k, e, hk⟩ S1 => by
    subst e
    obtain ⟨G, fp, fq, S1⟩ := S1
    have tm := S1.tm
    obtain ⟨fq', S2⟩ := S1.drop
    cases tm with
    | cons a _ =>
      obtain ⟨_, v', e3, e4⟩ := a
      cases e3
      exact ⟨k, e4, q k ρ1 H1 hk ⟨G, fp, fq', S2⟩⟩
theorem wt_B {C : Bool → List SV → Prop} (h : WE K te ρ fun z ρ1 => ∃ k, z = .d (.bl k) ∧ C k ρ1) : WT K (tB te) ρ C := wt_test h
theorem wt_and {C : Bool → List SV → Prop} (h : WT K tt ρ fun k ρ1 => if k = true then WT K tu ρ1 C else C false ρ1) : WT K (tAnd tt tu) ρ C := fun b σ H θ τ Q S q =>
  h b σ H θ τ _ S fun k ρ1 H1 hk S1 => by
    cases k with
    | true => exact (hk : WT K tu ρ1 C) b σ H1 θ τ Q S1 q
    | false => exact q false ρ1 H1 hk S1
theorem wt_or {C : Bool → List SV → Prop} (h : WT K tt ρ fun k ρ1 => if k = true then C true ρ1 else WT K tu ρ1 C) : WT K (tOr tt tu) ρ C := fun b σ H θ τ Q S q =>
  h b σ H θ τ _ S fun k ρ1 H1 hk S1 => by
    cases k with
    | true => exact q true ρ1 H1 hk S1
    | false => exact (hk : WT K tu ρ1 C) b σ H1 θ τ Q S1 q
theorem wt_not {C : Bool → List SV → Prop} (h : WT K tt ρ fun k ρ1 => C (!k) ρ1) : WT K (tNot tt) ρ C := fun b σ H θ τ Q S q =>
  h b σ H θ τ _ S fun k ρ1 H1 hk S1 => q (!k) ρ1 H1 hk S1
theorem we_if (h : WT K tt ρ fun k ρ1 => if k = true then WE K ta ρ1 C else WE K tb ρ1 C) : WE K (tIf tt ta tb) ρ C := fun b σ H θ τ Q S q =>
  h b σ H θ τ _ S fun k ρ1 H1 hk S1 => by
    cases k with
    | true => exact (hk : WE K ta ρ1 C) b σ H1 θ τ Q S1 q
    | false => exact (hk : WE K tb ρ1 C) b σ H1 θ τ Q S1 q
/-- and, or, not as values -/
theorem bl_of {b : Bs} {σ : L2.St} {θ : List SV} {τ : List V} {H : Hp} {v : V} {k : Bool} (S : Sat K b ρ σ (.d (.bl k) :: θ) (v :: τ) H) : v = .bl k ∧ Sat K b ρ σ θ τ H := by
  obtain ⟨G, fp, fq, S1⟩ := S
  have tm := S1.tm
  obtain ⟨fq', S2⟩ := S1.drop
  cases tm with
  | cons a _ =>
    obtain ⟨_, v', e3, e4⟩ := a
    cases e3
    exact ⟨e4, G, fp, fq', S2⟩
theorem Sat.bl {b : Bs} {σ : L2.St} {θ : List SV} {τ : List V} {H : Hp} {k : Bool} (S : Sat K b ρ σ θ τ H) : Sat K b ρ σ (.d (.bl k) :: θ) (.bl k :: τ) H := by
  obtain ⟨G, fp, fq, S1⟩ := S
  exact ⟨G, fp, fq, S1.push rfl⟩
theorem we_andV (h : WE K ta ρ fun z ρ1 => ∃ k, z = .d (.bl k) ∧ if k = true then WE K tb ρ1 C else C (.d (.bl false)) ρ1) : WE K (tAndV ta tb) ρ C := fun b σ H θ τ Q S q =>
  h b σ H θ τ _ S fun z ρ1 v H1 ⟨k, e, hk⟩ S1 => by
    subst e
    obtain ⟨e1, S2⟩ := bl_of S1
    subst e1
    refine ⟨k, rfl, ?_⟩
    cases k with
    | true => exact (hk : WE K tb ρ1 C) b σ H1 θ τ Q S2 q
    | false => exact q _ _ _ H1 hk S1
theorem we_orV (h : WE K ta ρ fun z ρ1 => ∃ k, z = .d (.bl k) ∧ if k = true then C (.d (.bl true)) ρ1 else WE K tb ρ1 C) : WE K (tOrV ta tb) ρ C := fun b σ H θ τ Q S q =>
  h b σ H θ τ _ S fun z ρ1 v H1 ⟨k, e, hk⟩ S1 => by
    subst e
    obtain ⟨e1, S2⟩ := bl_of S1
    subst e1
    refine ⟨k, rfl, ?_⟩
    cases k with
    | true => exact q _ _ _ H1 hk S1
    | false => exact (hk : WE K tb ρ1 C) b σ H1 θ τ Q S2 q
theorem we_notV (h : WE K ta ρ fun z ρ1 => ∃ k, z = .d (.bl k) ∧ C (.d (.bl (!k))) ρ1) : WE K (tNotV ta) ρ C := fun b σ H θ τ Q S q =>
  h b σ H θ τ _ S fun z ρ1 v H1 ⟨k, e, hk⟩ S1 => by
    subst e
    obtain ⟨e1, S2⟩ := bl_of S1
    subst e1
    exact ⟨k, rfl, q _ _ _ H1 hk S2.bl⟩
end
end DL

set_option Elab.async false
set_option linter.all false
set_option maxRecDepth 100000
namespace DL
open PySem PySem.Spec L2
variable {K : PySem.W.Frag}

/-! ### temporaries of a frame: no names of slots among them -/
def noAl : List SV → Bool
  | [] => true
  | .al _ :: _ => false
  | _ :: r => noAl r
theorem Cells.noAl_any {G H : Hp} {σ0 σ1 : L2.St} : ∀ {θ : List SV} {τ : List (Option V)} {fq : List Addr}, noAl θ = true → Cells K G H σ0 θ τ fq → Cells K G H σ1 θ τ fq
  | [], _, _, _, .nil => .nil
  | .any :: r, _, _, h, .cons a t => .cons a (Cells.noAl_any (θ := r) h t)
  | .d x :: r, _, _, h, .cons a t => .cons a (Cells.noAl_any (θ := r) h t)
  | .own O :: r, _, _, h, .cons a t => .cons a (Cells.noAl_any (θ := r) h t)
  | .al j :: r, _, _, h, _ => by cases h

/-! ### statements -/
structure Post where
  nx : List SV → Prop
  rt : SV → List SV → Prop
  bk : List SV → Prop := fun _ => False
  ct : List SV → Prop := fun _ => False
def WS (K : PySem.W.Frag) (ts : TS) (ρ : List SV) (R : Post) : Prop :=
  ∀ b σ H θ τ (D : Ends), noAl θ = true → Sat K b ρ σ θ τ H → (∀ ρ' σ' H', R.nx ρ' → Sat K b ρ' σ' θ τ H' → D.nx σ' H') →
    (∀ z ρ' σ' v H', R.rt z ρ' → Sat K b ρ' σ' (z :: θ) (v :: τ) H' → D.rt v H') →
    (∀ ρ' σ' H', R.bk ρ' → Sat K b ρ' σ' θ τ H' → D.bk σ' H') → (∀ ρ' σ' H', R.ct ρ' → Sat K b ρ' σ' θ τ H' → D.ct σ' H') → ts D σ H
section
variable {ta tb te : TE} {tt : TT} {t u : TS} {ρ : List SV} {R : Post} {i : Nat} {x : D}
theorem ws_next (h : R.nx ρ) : WS K tNext ρ R := fun b σ H θ τ D _ S q1 _ _ _ => q1 ρ σ H h S
theorem ws_break (h : R.bk ρ) : WS K tBreak ρ R := fun b σ H θ τ D _ S _ _ q3 _ => q3 ρ σ H h S
theorem ws_cont (h : R.ct ρ) : WS K tCont ρ R := fun b σ H θ τ D _ S _ _ _ q4 => q4 ρ σ H h S
theorem ws_seq (h : WS K t ρ { R with nx := fun ρ1 => WS K u ρ1 R }) : WS K (tSeq t u) ρ R := fun b σ H θ τ D na S q1 q2 q3 q4 =>
  h b σ H θ τ _ na S (fun ρ1 σ1 H1 h1 S1 => h1 b σ1 H1 θ τ D na S1 q1 q2 q3 q4) q2 q3 q4
theorem ws_drop (h : WE K te ρ fun _ ρ1 => R.nx ρ1) : WS K (tDrop te) ρ R := fun b σ H θ τ D na S q1 _ _ _ =>
  h b σ H θ τ _ S fun z ρ1 v H1 h1 S1 => q1 ρ1 σ H1 h1 S1.drop
theorem ws_ret (h : WE K te ρ fun z ρ1 => R.rt z ρ1) : WS K (tRet te) ρ R := fun b σ H θ τ D na S _ q2 _ _ =>
  h b σ H θ τ _ S fun z ρ1 v H1 h1 S1 => q2 z ρ1 σ v H1 h1 S1
theorem ws_retN (h : R.rt (.d .non) ρ) : WS K tRetN ρ R := fun b σ H θ τ D na S _ q2 _ _ => by
  obtain ⟨G, fp, fq, S⟩ := S
  exact q2 _ ρ σ .non H h ⟨G, fp, fq, S.push rfl⟩
theorem ws_if (h : WT K tt ρ fun k ρ1 => if k = true then WS K t ρ1 R else WS K u ρ1 R) : WS K (tIfS tt t u) ρ R := fun b σ H θ τ D na S q1 q2 q3 q4 =>
  h b σ H θ τ _ S fun k ρ1 H1 hk S1 => by
    cases k with
    | true => exact (hk : WS K t ρ1 R) b σ H1 θ τ D na S1 q1 q2 q3 q4
    | false => exact (hk : WS K u ρ1 R) b σ H1 θ τ D na S1 q1 q2 q3 q4
/-- weaker ends -/
theorem WS.imp {R' : Post} (h : WS K t ρ R) (h1 : ∀ ρ', R.nx ρ' → R'.nx ρ') (h2 : ∀ z ρ', R.rt z ρ' → R'.rt z ρ') (h3 : ∀ ρ', R.bk ρ' → R'.bk ρ') (h4 : ∀ ρ', R.ct ρ' → R'.ct ρ') : WS K t ρ R' := fun b σ H θ τ D na S q1 q2 q3 q4 =>
  h b σ H θ τ D na S (fun ρ' σ' H' a s => q1 ρ' σ' H' (h1 _ a) s) (fun z ρ' σ' v H' a s => q2 z ρ' σ' v H' (h2 _ _ a) s) (fun ρ' σ' H' a s => q3 ρ' σ' H' (h3 _ a) s) fun ρ' σ' H' a s => q4 ρ' σ' H' (h4 _ a) s
/-- code that is never come to -/
theorem ws_absurd (h : False) : WS K t ρ R := h.elim

/-! ### what is stored in a slot -/
def asg (i : Nat) : SV → List SV → Option (List SV)
  | .d x, ρ => if i < ρ.length then some (ρ.set i (.d x)) else none
  | .own O, ρ => if i < ρ.length then some (ρ.set i (.own O)) else none
  | .al j, ρ => if i < ρ.length then (fzT (.al j) ρ).map fun p => p.2.set i (.d p.1) else none
  | .any, _ => none
theorem fzT_len {z : SV} {ρ' : List SV} (h : fzT z ρ = some (x, ρ')) : ρ'.length = ρ.length := by
  cases z with
  | any => cases h
  | d y => cases h; rfl
  | own O =>
    obtain ⟨x1, _, e⟩ := Option.map_eq_some_iff.mp (show O.dat.map (fun x => (x, ρ)) = some (x, ρ') from h)
    cases e; rfl
  | al j =>
    have h : (match ρ[j]? with
      | some (.own O) => O.dat.map fun x => (x, ρ.set j (.d x))
      | some (.d x) => some (x, ρ)
      | _ => none) = some (x, ρ') := h
    cases e : ρ[j]? with
    | none => rw [e] at h; cases h
    | some s =>
      rw [e] at h
      cases s with
      | any => cases h
      | al m => cases h
      | d y => cases h; rfl
      | own O =>
        obtain ⟨x1, _, e⟩ := Option.map_eq_some_iff.mp (show O.dat.map (fun x => (x, ρ.set j (.d x))) = some (x, ρ') from h)
        cases e; simp
/-- data on top goes into a slot -/
theorem SatG.storeD {b : Bs} {σ : L2.St} {θ : List SV} {τ : List V} {H G : Hp} {fp fq : List Addr} {v : V} (na : noAl θ = true) (S : SatG K b ρ σ θ τ H G fp fq) (r : rep K G x v) (hi : i < ρ.length) :
    ∃ fp', SatG K b (ρ.set i (.d x)) (σ.set i (some v)) θ τ H G fp' fq := by
  obtain ⟨o, f1, f2, f3, e1, e2, c, k⟩ := S.sl.take (List.getElem?_eq_getElem hi)
  subst e2
  obtain ⟨nd, n2, n3⟩ := nd_mid S.nd
  refine ⟨_, S.gg, S.hh, S.gh, S.sep, S.fr, k (.d x) (some v) G H [] (Ex.refl G).le (fun _ _ => rfl) ⟨rfl, v, rfl, r⟩, S.tm.noAl_any na, fun p hp => S.out p ?_, nd⟩
  simp only [List.mem_append, List.nil_append] at hp ⊢
  rcases hp with (h | h) | h
  · exact .inl (.inl h)
  · exact .inl (.inr (.inr h))
  · exact .inr h
theorem Sat.store {b : Bs} {σ : L2.St} {θ : List SV} {τ : List V} {H : Hp} {z : SV} {v : V} {ρ' : List SV} (na : noAl θ = true) (S : Sat K b ρ σ (z :: θ) (v :: τ) H) (h : asg i z ρ = some ρ') : Sat K b ρ' (σ.set i (some v)) θ τ H := by
  have top : ∀ {x : D} {ρ : List SV}, Sat K b ρ σ (.d x :: θ) (v :: τ) H → i < ρ.length → Sat K b (ρ.set i (.d x)) (σ.set i (some v)) θ τ H := fun {x ρ} S hi => by
    obtain ⟨G, fp, fq, S⟩ := S
    have tm := S.tm
    obtain ⟨fq', S'⟩ := S.drop
    cases tm with
    | cons a r =>
      obtain ⟨_, v', e3, e4⟩ := a
      cases e3
      obtain ⟨fp', S2⟩ := S'.storeD na e4 hi
      exact ⟨G, fp', fq', S2⟩
  cases z with
  | any => cases h
  | d x =>
    have h : (if i < ρ.length then some (ρ.set i (.d x)) else none) = some ρ' := h
    split at h
    · cases h; exact top S (by assumption)
    · cases h
  | al j =>
    have h : (if i < ρ.length then (fzT (.al j) ρ).map fun p => p.2.set i (.d p.1) else none) = some ρ' := h
    split at h
    · obtain ⟨⟨x1, ρ1⟩, hx, e⟩ := Option.map_eq_some_iff.mp h
      cases e
      have S1 := S.fz hx
      exact top S1 (by rw [fzT_len hx]; assumption)
    · cases h
  | own O =>
    have h : (if i < ρ.length then some (ρ.set i (.own O)) else none) = some ρ' := h
    split at h
    · cases h
      rename_i hi
      obtain ⟨G, fp, fq, S⟩ := S
      obtain ⟨gg, hh, gh, sep, fr, sl, tm, out, nd⟩ := S
      cases tm with
      | cons a r =>
        rename_i q1 q2
        obtain ⟨v', e3, e4⟩ := a
        cases e3
        obtain ⟨o, f1, f2, f3, e1, e2, c, k⟩ := sl.take (List.getElem?_eq_getElem hi)
        subst e2
        have slN := k (.own O) (some v) G H q1 (Ex.refl G).le (fun _ _ => rfl) ⟨v, rfl, e4⟩
        refine ⟨G, _, q2, gg, hh, gh, sep, fr, slN, Cells.noAl_any na r, fun p hp => out p ?_, ?_⟩
        · simp only [List.mem_append] at hp ⊢
          rcases hp with (h | h | h) | h
          · exact .inl (.inl h)
          · exact .inr (.inl h)
          · exact .inl (.inr (.inr h))
          · exact .inr (.inr h)
        · simp only [List.append_assoc, List.nodup_append, List.mem_append] at nd ⊢
          obtain ⟨n1, ⟨n2, ⟨n3, ⟨m1, m2, m12⟩, n4⟩, n5⟩, n6⟩ := nd
          refine ⟨n1, ⟨m1, ⟨n3, m2, fun a ha c hc => n4 a ha c (.inr hc)⟩, fun a ha c hc => ?_⟩, fun a ha c hc => n6 a ha c ?_⟩
          · rcases hc with hc | hc
            · exact fun e => n4 c hc a (.inl ha) e.symm
            · exact m12 a ha c hc
          · rcases hc with hc | hc | hc
            · exact .inr (.inr (.inl hc))
            · exact .inr (.inl hc)
            · exact .inr (.inr (.inr hc))
    · cases h
theorem ws_set (h : WE K te ρ fun z ρ1 => ∃ ρ2, asg i z ρ1 = some ρ2 ∧ R.nx ρ2) : WS K (tAsg te (gName i)) ρ R := fun b σ H θ τ D na S q1 _ _ _ =>
  h b σ H θ τ _ S fun z ρ1 v H1 ⟨ρ2, e, h1⟩ S1 => q1 ρ2 _ H1 h1 (S1.store na e)

/-! ### targets. P: the places that they may store -/
def WG (K : PySem.W.Frag) (P : Nat → Prop) (g : TG) (z : SV) (ρ : List SV) (C : List SV → Prop) : Prop :=
  ∀ b σ H θ τ v (Q : L2.St → Hp → Prop), noAl θ = true → Sat K b ρ σ (z :: θ) (v :: τ) H → (∀ ρ' σ' H', C ρ' → Sat K b ρ' σ' θ τ H' → (∀ j, ¬ P j → σ'[j]? = σ[j]?) → σ'.length = σ.length → Q σ' H') → g v σ H Q
def WGs (K : PySem.W.Frag) (P : Nat → Prop) (g : TGs) (zs : List SV) (ρ : List SV) (C : List SV → Prop) : Prop :=
  ∀ b σ H θ τ vs (Q : L2.St → Hp → Prop), noAl θ = true → Sat K b ρ σ (zs ++ θ) (vs ++ τ) H → zs.length = vs.length → (∀ ρ' σ' H', C ρ' → Sat K b ρ' σ' θ τ H' → (∀ j, ¬ P j → σ'[j]? = σ[j]?) → σ'.length = σ.length → Q σ' H') → g vs σ H Q
variable {P : Nat → Prop} {C : List SV → Prop} {g : TG} {gs : TGs} {z : SV} {zs : List SV}
theorem wg_name (hp : P i) (h : ∃ ρ2, asg i z ρ = some ρ2 ∧ C ρ2) : WG K P (gName i) z ρ C := fun b σ H θ τ v Q na S q => by
  obtain ⟨ρ2, e, h1⟩ := h
  refine q ρ2 _ H h1 (S.store na e) (fun j hj => ?_) (by simp)
  exact List.getElem?_set_ne fun (e : i = j) => hj (e ▸ hp)
theorem wgs_nil (h : C ρ) : WGs K P gNil [] ρ C := fun b σ H θ τ vs Q na S hl q => by
  have e : vs = [] := by cases vs with | nil => rfl | cons _ _ => cases hl
  subst e
  exact ⟨rfl, q ρ σ H h S (fun _ _ => rfl) rfl⟩
/-- no names of slots, and no objects of one's own, among what is taken apart -/
def allD : List SV → Bool
  | [] => true
  | .d _ :: r => allD r
  | .own _ :: r => allD r
  | _ :: _ => false
theorem noAl_app : ∀ {zs θ : List SV}, allD zs = true → noAl θ = true → noAl (zs ++ θ) = true
  | [], _, _, h => h
  | .d _ :: r, θ, h, h' => noAl_app (zs := r) h h'
  | .own _ :: r, θ, h, h' => noAl_app (zs := r) h h'
theorem wgs_cons (hd : allD zs = true) (h : WG K P g z ρ fun ρ1 => WGs K P gs zs ρ1 C) : WGs K P (gCons g gs) (z :: zs) ρ C := fun b σ H θ τ vs Q na S hl q => by
  cases vs with
  | nil => cases hl
  | cons v vs =>
    refine ⟨v, vs, rfl, h b σ H _ _ v _ (noAl_app hd na) S fun ρ1 σ1 H1 h1 S1 k1 l1 => ?_⟩
    refine h1 b σ1 H1 θ τ vs Q na S1 (by simpa using hl) fun ρ2 σ2 H2 h2 S2 k2 l2 => q ρ2 σ2 H2 h2 S2 (fun j hj => (k2 j hj).trans (k1 j hj)) (l2.trans l1)
/-- a tuple's items come as temporaries, the first one on top -/
theorem SatG.items {b : Bs} {σ : L2.St} {θ : List SV} {τ : List V} {H G : Hp} {fp fq : List Addr} : ∀ {xs : List D} {vs : List V}, SatG K b ρ σ θ τ H G fp fq → reps K G xs vs → SatG K b ρ σ (xs.map SV.d ++ θ) (vs ++ τ) H G fp fq
  | [], vs, S, h => by rw [show vs = [] from h]; exact S
  | x :: xs, vs, S, ⟨v, r, e1, e2, e3⟩ => by rw [e1]; exact (SatG.items S e3).push e2
theorem allD_map : ∀ {xs : List D}, allD (xs.map SV.d) = true
  | [] => rfl
  | _ :: r => allD_map (xs := r)
theorem wg_tup {n : Nat} {xs : List D} (hz : z = .d (.tup xs)) (hl : xs.length = n) (h : WGs K P gs (xs.map SV.d) ρ C) : WG K P (gTup K n gs) z ρ C := fun b σ H θ τ v Q na S q => by
  subst hz
  obtain ⟨G, fp, fq, S⟩ := S
  have tm := S.tm
  obtain ⟨fq', S'⟩ := S.drop
  cases tm with
  | cons a r =>
    obtain ⟨_, v', e3, p, vs, e4, e5, e6⟩ := a
    cases e3
    exact ⟨p, vs, e4, .inl (.inl (S.gh _ _ e5)), (reps_len e6).trans hl, h b σ H θ τ vs Q na ⟨G, fp, fq', S'.items e6⟩ (by rw [List.length_map, reps_len e6]) q⟩
/-- a target that is no name -/
theorem ws_asg (h : WE K te ρ fun z ρ1 => WG K (fun _ => True) g z ρ1 R.nx) : WS K (tAsg te g) ρ R := fun b σ H θ τ D na S q1 _ _ _ =>
  h b σ H θ τ _ S fun z ρ1 v H1 h1 S1 => h1 b σ H1 θ τ v _ na S1 fun ρ' σ' H' c s _ _ => q1 ρ' σ' H' c s
end
end DL

set_option Elab.async false
set_option linter.all false
set_option maxRecDepth 100000
namespace DL
open PySem PySem.Spec L2
variable {K : PySem.W.Frag}

/-! ### arguments as data -/
def fzA : List SV → List SV → List D → Option (List D × List SV)
  | [], ρ, acc => some (acc, ρ)
  | z :: zs, ρ, acc => match fzT z ρ with
    | some (x, ρ1) => fzA zs ρ1 (x :: acc)
    | none => none
theorem fzA_cons {z : SV} {zs ρ : List SV} {acc : List D} {p : List D × List SV} (h : fzA (z :: zs) ρ acc = some p) : ∃ x ρ1, fzT z ρ = some (x, ρ1) ∧ fzA zs ρ1 (x :: acc) = some p := by
  have h : (match fzT z ρ with
    | some (x, ρ1) => fzA zs ρ1 (x :: acc)
    | none => none) = some p := h
  cases e : fzT z ρ with
  | none => rw [e] at h; cases h
  | some q => rw [e] at h; exact ⟨q.1, q.2, rfl, h⟩
theorem fzs_go {b : Bs} {σ : L2.St} {θ : List SV} {τ : List V} {H : Hp} : ∀ (zs : List SV) (vs : List V) {ρ ρ2 : List SV} {acc ds : List D} {as : List V} {G : Hp} {fp fq : List Addr}, SatG K b ρ σ (zs ++ θ) (vs ++ τ) H G fp fq → zs.length = vs.length → fzA zs ρ acc = some (ds, ρ2) → reps K G acc as →
    ∃ G' fp' fq', SatG K b ρ2 σ θ τ H G' fp' fq' ∧ reps K G' ds (vs.reverse ++ as)
  | [], vs, ρ, ρ2, acc, ds, as, G, fp, fq, S, hl, h, ha => by
    have e : vs = [] := by cases vs with | nil => rfl | cons _ _ => cases hl
    subst e
    cases h
    exact ⟨G, fp, fq, S, ha⟩
  | z :: zs, [], _, _, _, _, _, _, _, _, _, hl, _, _ => by cases hl
  | z :: zs, v :: vs, ρ, ρ2, acc, ds, as, G, fp, fq, S, hl, h, ha => by
    obtain ⟨x, ρ1, e1, e2⟩ := fzA_cons h
    -- the accumulated ones ride along as temporaries
    have S0 : SatG K b ρ σ (z :: (zs ++ θ)) (v :: (vs ++ τ)) H G fp fq := S
    have key : ∃ G' fp' fq', Ex G G' ∧ SatG K b ρ1 σ (zs ++ θ) (vs ++ τ) H G' fp' fq' ∧ rep K G' x v := by
      have S1 : Sat K ⟨G, b.H⟩ ρ σ (z :: (zs ++ θ)) (v :: (vs ++ τ)) H := ⟨G, fp, fq, Ex.refl G, S0.hh, S0.gh, fun p _ hg => hg, fun a o u q => q, S0.sl, S0.tm, S0.out, S0.nd⟩
      obtain ⟨G', fp', fq', S2⟩ := S1.fz e1
      have tm := S2.tm
      obtain ⟨fq'', S3⟩ := S2.drop
      cases tm with
      | cons a r =>
        obtain ⟨_, v', e3, e4⟩ := a
        cases e3
        refine ⟨G', fp', fq'', S2.gg, ⟨S.gg.trans S3.gg, S3.hh, S3.gh, fun p h1 h2 => S3.sep p h1 (S.sep p h1 h2), fun a o u q => S.fr a o u (S3.fr a o u q), S3.sl, S3.tm, S3.out, S3.nd⟩, e4⟩
    obtain ⟨G', fp', fq', g1, S2, r⟩ := key
    obtain ⟨G2, fp2, fq2, S3, r3⟩ := fzs_go zs vs S2 (by simpa using hl) e2 (as := v :: as) ⟨v, as, rfl, r, reps_le g1.le _ _ ha⟩
    refine ⟨G2, fp2, fq2, S3, ?_⟩
    rw [List.reverse_cons, List.append_assoc]
    exact r3
theorem Sat.args {b : Bs} {σ : L2.St} {θ : List SV} {τ : List V} {H : Hp} {zs : List SV} {vs : List V} {ρ ρ2 : List SV} {ds : List D} (S : Sat K b ρ σ (zs.reverse ++ θ) (vs.reverse ++ τ) H) (hl : zs.length = vs.length) (h : fzA zs.reverse ρ [] = some (ds, ρ2)) :
    ∃ G fp fq, SatG K b ρ2 σ θ τ H G fp fq ∧ reps K G ds vs := by
  obtain ⟨G, fp, fq, S⟩ := S
  obtain ⟨G', fp', fq', S', r⟩ := fzs_go zs.reverse vs.reverse S (by simp [hl]) h (as := []) rfl
  refine ⟨G', fp', fq', S', ?_⟩
  simpa using r

/-! ### promises over data -/
/-- a def that only reads what it is handed -/
def spP (K : PySem.W.Frag) (pre : List D → Prop) (post : List D → D → Prop) : Sp := fun vs H Q _ =>
  ∃ G ds, Ex G H ∧ reps K G ds vs ∧ pre ds ∧ ∀ d v G' H', post ds d → Ex G G' → Ex H H' → Ex G' H' → (∀ p, H p ≠ none → G p = none → G' p = none) → (∀ a o u, G' a = some (.frz o u) → G a = some (.frz o u)) → rep K G' d v → Q v H'
/-- a def that changes the object of its first argument -/
def spS (K : PySem.W.Frag) {S : Type} (O : S → Own) (pre : S → List D → Prop) (post : S → List D → S → D → Prop) : Sp := fun vs H Q _ =>
  ∃ G st ds u ws fp, vs = u :: ws ∧ Ex G H ∧ (O st).R K G H u fp ∧ (∀ p ∈ fp, G p = none) ∧ fp.Nodup ∧ reps K G ds ws ∧ pre st ds ∧
    ∀ st' d v G' H' fp', post st ds st' d → Ex G G' → Ex G' H' → (∀ p o, p ∉ fp → H p = some o → H' p = some o) → (∀ p, p ∉ fp → H p ≠ none → G p = none → G' p = none) → (∀ a o u, G' a = some (.frz o u) → G a = some (.frz o u)) →
      (O st').R K G' H' u fp' → (∀ p ∈ fp', G' p = none ∧ (p ∈ fp ∨ H p = none)) → fp'.Nodup → rep K G' d v → Q v H'
def isSc : D → Bool
  | .non => true
  | .bl _ => true
  | .int _ => true
  | .str _ => true
  | _ => false
theorem rep_sc {G G' : Hp} {x : D} {v : V} (h : isSc x = true) (r : rep K G x v) : rep K G' x v := by
  cases x <;> first | exact r | cases h
section
variable {ts : TA} {te tr tx : TE} {ρ : List SV} {C : SV → List SV → Prop} {E : XK} {pre : List D → Prop} {post : List D → D → Prop}
theorem we_call (h : WA K ts ρ fun zs ρ1 => ∃ ds ρ2, fzA zs.reverse ρ1 [] = some (ds, ρ2) ∧ pre ds ∧ ∀ d, post ds d → C (.d d) ρ2) : WE K (tCall (spP K pre post) [] E ts) ρ C := fun b σ H θ τ Q S q =>
  h b σ H θ τ _ S fun zs ρ1 vs H1 ⟨ds, ρ2, e, hp, hc⟩ S1 hl => by
    obtain ⟨G, fp, fq, S2, r⟩ := S1.args hl e
    rw [List.append_nil]
    refine ⟨G, ds, S2.gh, r, hp, fun d v G' H' hd g1 g2 g3 g4 g5 g6 => q _ ρ2 v H' (hc d hd) ⟨G', fp, fq, SatG.push ?_ g6⟩⟩
    have S3 := S2.grow g2
    refine ⟨S3.gg.trans g1, S3.hh, g3, fun p h1 h2 => g4 p ?_ (S2.sep p h1 h2), fun a o u z => S2.fr a o u (g5 a o u z), S3.sl.mono g1.le, S3.tm.mono g1.le, fun p hp => ⟨g4 p ?_ (S2.out p hp).1, (S2.out p hp).2⟩, S3.nd⟩
    · intro z
      cases e : b.H p with
      | none => exact h1 e
      | some o => rw [S2.hh p o e] at z; cases z
    · rcases List.mem_append.mp hp with z | z
      · exact S2.sl.liv p z
      · exact S2.tm.liv p z
/-- .. that gives a plain value: what it was handed stays one's own -/
theorem we_callB (h : WA K ts ρ fun zs ρ1 => ∃ ds ρ2, fzA zs.reverse ρ1 [] = some (ds, ρ2) ∧ pre ds ∧ ∀ d, post ds d → isSc d = true ∧ C (.d d) ρ1) : WE K (tCall (spP K pre post) [] E ts) ρ C := fun b σ H θ τ Q S q =>
  h b σ H θ τ _ S fun zs ρ1 vs H1 ⟨ds, ρ2, e, hp, hc⟩ S1 hl => by
    obtain ⟨G, fp, fq, S2, r⟩ := S1.args hl e
    rw [List.append_nil]
    have drops : ∀ (zs : List SV) (vs : List V), zs.length = vs.length → Sat K b ρ1 σ (zs ++ θ) (vs ++ τ) H1 → Sat K b ρ1 σ θ τ H1 := by
      intro zs
      induction zs with
      | nil => intro vs hl S; cases vs with | nil => exact S | cons _ _ => cases hl
      | cons z zs ih => intro vs hl S; cases vs with | nil => cases hl | cons v vs => exact ih vs (by simpa using hl) (Sat.drop S)
    refine ⟨G, ds, S2.gh, r, hp, fun d v G' H' hd g1 g2 g3 g4 g5 g6 => ?_⟩
    obtain ⟨sc, hcd⟩ := hc d hd
    obtain ⟨G0, fp0, fq0, S0⟩ := drops zs.reverse vs.reverse (by simp [hl]) S1
    exact q _ ρ1 v H' hcd ⟨G0, fp0, fq0, (S0.grow g2).push (rep_sc sc g6)⟩
/-- .. that changes an object that stands in slot j -/
theorem we_callS {S : Type} {O : S → Own} {pre : S → List D → Prop} {post : S → List D → S → D → Prop}
    (h : WA K ts ρ fun zs ρ1 => ∃ j rest st ds ρ2, zs = .al j :: rest ∧ fzA rest.reverse ρ1 [] = some (ds, ρ2) ∧ ρ2[j]? = some (.own (O st)) ∧ pre st ds ∧ ∀ st' d, post st ds st' d → C (.d d) (ρ2.set j (.own (O st')))) :
    WE K (tCall (spS K O pre post) [] E ts) ρ C := fun b σ H θ τ Q S0 q =>
  h b σ H θ τ _ S0 fun zs ρ1 vs H1 ⟨j, rest, st, ds, ρ2, ez, e, ej, hp, hc⟩ S1 hl => by
    subst ez
    cases vs with
    | nil => cases hl
    | cons u ws =>
      rw [List.append_nil]
      have S1' : Sat K b ρ1 σ (rest.reverse ++ (.al j :: θ)) (ws.reverse ++ (u :: τ)) H1 := by
        rw [List.reverse_cons, List.reverse_cons, List.append_assoc, List.append_assoc] at S1
        exact S1
      obtain ⟨G, fp, fq, S2, r⟩ := S1'.args (by simpa using hl) e
      have hu : σ[j]? = some (some u) := by
        have tm := S2.tm
        cases tm with
        | cons a _ =>
          obtain ⟨_, v', e3, e4⟩ := a
          cases e3
          exact e4
      obtain ⟨fq', S3⟩ := S2.drop
      obtain ⟨o, f1, f2, f3, e1, e2, ⟨v0, e3, hR⟩, k⟩ := S3.sl.take ej
      subst e2 e3
      rw [hu] at e1
      cases e1
      obtain ⟨nd, n2, n3⟩ := nd_mid S3.nd
      have o2 : ∀ p ∈ f2, G p = none ∧ b.H p = none := fun p hp => S3.out p (by simp [hp])
      refine ⟨G, st, ds, u, ws, f2, rfl, S3.gh, hR, fun p hp => (o2 p hp).1, n2, r, hp, fun st' d v G' H' fp' hd g1 g2 g3 g4 g5 g6 g7 g8 g9 => q _ _ v H' (hc st' d hd) ?_⟩
      have liv : ∀ p ∈ f1 ++ (f2 ++ f3) ++ fq', H1 p ≠ none := fun p hp => by
        rcases List.mem_append.mp hp with z | z
        · exact S3.sl.liv p z
        · exact S3.tm.liv p z
      have same : ∀ p, H1 p ≠ none → p ∉ f2 → H' p = H1 p := fun p hp hn => by
        cases z : H1 p with
        | none => exact absurd z hp
        | some o => exact g3 p o hn z
      have es : σ.set j (some u) = σ := by
        refine List.ext_getElem? fun m => ?_
        by_cases hm : m = j
        · subst hm
          have : m < σ.length := (List.getElem?_eq_some_iff.mp hu).1
          rw [List.getElem?_set_self this, hu]
        · rw [List.getElem?_set_ne (Ne.symm hm)]
      have m13 : ∀ p ∈ f1 ++ f3, p ∈ f1 ++ (f2 ++ f3) ++ fq' ∧ p ∉ f2 := fun p hp => by
        refine ⟨?_, fun hq => n3 p hq ?_⟩
        · simp only [List.mem_append] at hp ⊢
          rcases hp with z | z
          · exact .inl (.inl z)
          · exact .inl (.inr (.inr z))
        · simp only [List.mem_append, List.nil_append] at hp ⊢
          rcases hp with z | z
          · exact .inl (.inl z)
          · exact .inl (.inr z)
      have mq : ∀ p ∈ fq', p ∈ f1 ++ (f2 ++ f3) ++ fq' ∧ p ∉ f2 := fun p hp => ⟨List.mem_append_right _ hp, fun hq => n3 p hq (List.mem_append_right _ hp)⟩
      have sl := k (.own (O st')) (some u) G' H' fp' g1.le (fun p hp => same p (liv p (m13 p hp).1) (m13 p hp).2) ⟨u, rfl, g6⟩
      rw [es] at sl
      have tm := (S3.tm.mono g1.le).loc (H' := H') fun p hp => same p (liv p (mq p hp).1) (mq p hp).2
      have bl : ∀ p, b.H p ≠ none → H1 p ≠ none := fun p hp z => by
        cases e : b.H p with
        | none => exact hp e
        | some o => rw [S3.hh p o e] at z; cases z
      refine ⟨G', _, fq', SatG.push ⟨S3.gg.trans g1, fun p o e => g3 p o (fun hp => ?_) (S3.hh p o e), g2, fun p h1 h2 => g4 p (fun hp => h1 (o2 p hp).2) (bl p h1) (S3.sep p h1 h2), fun a o u z => S3.fr a o u (g5 a o u z), sl, tm, fun p hp => ?_, ?_⟩ g9⟩
      · rw [(o2 p hp).2] at e; cases e
      · simp only [List.mem_append] at hp
        have old : p ∈ f1 ++ (f2 ++ f3) ++ fq' → p ∉ f2 → G' p = none ∧ b.H p = none := fun hm hn => ⟨g4 p hn (liv p hm) (S3.out p hm).1, (S3.out p hm).2⟩
        rcases hp with (z | z | z) | z
        · exact old (m13 p (List.mem_append_left _ z)).1 (m13 p (List.mem_append_left _ z)).2
        · refine ⟨(g7 p z).1, ?_⟩
          rcases (g7 p z).2 with y | y
          · exact (o2 p y).2
          · cases e : b.H p with
            | none => rfl
            | some o => exact absurd y (bl p (by rw [e]; exact fun z => nomatch z))
        · exact old (m13 p (List.mem_append_right _ z)).1 (m13 p (List.mem_append_right _ z)).2
        · exact old (mq p z).1 (mq p z).2
      · have dis : ∀ p ∈ fp', ∀ c ∈ f1 ++ (f2 ++ f3) ++ fq', c ∉ f2 → p ≠ c := fun p hp c hc hn e => by
          subst e
          rcases (g7 p hp).2 with y | y
          · exact hn y
          · exact liv p hc y
        have nd' := nd
        simp only [List.append_assoc, List.nil_append, List.nodup_append, List.mem_append] at nd' ⊢
        obtain ⟨n1, ⟨n4, n5, n6⟩, n7⟩ := nd'
        refine ⟨n1, ⟨g8, ⟨n4, n5, n6⟩, fun a ha c hc => ?_⟩, fun a ha c hc => ?_⟩
        · rcases hc with hc | hc
          · exact dis a ha c (m13 c (List.mem_append_right _ hc)).1 (m13 c (List.mem_append_right _ hc)).2
          · exact dis a ha c (mq c hc).1 (mq c hc).2
        · rcases hc with hc | hc
          · exact fun z => dis c hc a (m13 a (List.mem_append_left _ ha)).1 (m13 a (List.mem_append_left _ ha)).2 z.symm
          · exact n7 a ha c hc
end

/-! ### a def keeps its promise -/
def slots (N : List Str) (ds : List SV) : List SV := ds ++ List.replicate (N.length - ds.length) .any
theorem cells_any {G H : Hp} {σ0 : L2.St} : ∀ n : Nat, Cells K G H σ0 (List.replicate n .any) (List.replicate n none) []
  | 0 => .nil
  | n + 1 => Cells.cons (fp := []) rfl (cells_any n)
theorem cells_d {G H : Hp} {σ0 : L2.St} : ∀ {ds : List D} {vs : List V}, reps K G ds vs → Cells K G H σ0 (ds.map SV.d) (vs.map some) []
  | [], vs, h => by rw [show vs = [] from h]; exact .nil
  | x :: xs, vs, ⟨v, r, e1, e2, e3⟩ => by rw [e1]; exact Cells.cons (fp := []) ⟨rfl, v, rfl, e2⟩ (cells_d e3)
section
variable {P : Program} {w : World} {mg : Str → Option Value} {base : Heap}
theorem fn_pure {x qual : Str} {st : Stmt} {f : Addr} {fd : FuncData} {N ps : List Str} {k : Nat} {pre : List D → Prop} {post : List D → D → Prop} (F : Fun K x qual st f fd) (S : FnScope N ps (defScope st))
    (len : ∀ ds, pre ds → ds.length = ps.length)
    (hbody : ∀ (cdv : Value) (A : Around) (outer : List Env) (s : Shared) (H : Hp) (E : XK) (ds : List D), Room k (A.deeper (PyProof.Rows.envOfC qual (defScope st) s.heap.objs.size f cdv)) → pre ds →
      ∃ t, PSs (cxOf CX0 P w K mg base N qual (defScope st) f cdv A outer s H E).nox (defBody st) t ∧
        WS K t (slots N (ds.map SV.d)) { nx := fun _ => post ds .non, rt := fun z ρ => ∃ x ρ', fzT z ρ = some (x, ρ') ∧ post ds x }) : FnOk P w K mg base CX0 (k + 1) f fd ps (spP K pre post) := by
  refine F.ok S (fun vs H Q E h => ?_) (fun cdv A outer s H vs Q E hr h => ?_)
  · obtain ⟨G, ds, _, r, hp, _⟩ := h
    rw [reps_len r]; exact len ds hp
  · obtain ⟨G, ds, gh, r, hp, q⟩ := h
    obtain ⟨t, h1, h2⟩ := hbody cdv A outer s H E ds hr hp
    refine ⟨t, h1, h2 ⟨G, H⟩ _ H [] [] _ rfl ?_ (fun ρ' σ' H' hn S1 => ?_) (fun z ρ' σ' v H' hz S1 => ?_) (fun _ _ _ z _ => z.elim) (fun _ _ _ z _ => z.elim)⟩
    · have c := (cells_d (H := H) (σ0 := []) r).app (cells_any (K := K) (G := G) (H := H) (σ0 := []) (N.length - vs.length))
      refine ⟨G, [], [], Ex.refl G, Ex.refl H, gh, fun p _ h => h, fun a o u h => h, ?_, .nil, fun p hp => by simp at hp, List.nodup_nil⟩
      unfold L2.start slots
      rw [List.length_map, ← reps_len r]
      exact c
    · obtain ⟨G', fp, fq, S2⟩ := S1
      exact q .non .non G' H' hn S2.gg S2.hh S2.gh S2.sep S2.fr rfl
    · obtain ⟨x, ρ'', e, hx⟩ := hz
      obtain ⟨G', fp, fq, S2⟩ := S1.fz e
      have tm := S2.tm
      cases tm with
      | cons a _ =>
        obtain ⟨_, v', e3, e4⟩ := a
        cases e3
        exact q x v G' H' hx S2.gg S2.hh S2.gh S2.sep S2.fr e4
end
end DL

set_option Elab.async false
set_option linter.all false
set_option maxRecDepth 100000
namespace DL
open PySem PySem.Spec L2
variable {K : PySem.W.Frag}

/-! ### what is read of a temporary -/
def vw : SV → List SV → Option D
  | .d x, _ => some x
  | .own O, _ => O.see
  | .al j, ρ => match ρ[j]? with
    | some (.own O) => O.see
    | some (.d x) => some x
    | _ => none
  | .any, _ => none
section
variable {b : Bs} {ρ : List SV} {σ : L2.St} {θ : List SV} {τ : List V} {H G : Hp} {fp fq : List Addr} {z : SV} {v : V} {x : D}
theorem SatG.vw (S : SatG K b ρ σ (z :: θ) (v :: τ) H G fp fq) (h : DL.vw z ρ = some x) : repS K G H x v ∧ ∃ fq', SatG K b ρ σ θ τ H G fp fq' := by
  refine ⟨?_, S.drop⟩
  have tm := S.tm
  cases tm with
  | cons a r =>
    cases z with
    | any => cases h
    | d y =>
      cases h
      obtain ⟨_, v', e3, e4⟩ := a
      cases e3
      exact repS_of S.gh _ _ e4
    | own O =>
      obtain ⟨v', e3, e4⟩ := a
      cases e3
      exact O.sh h e4
    | al j =>
      obtain ⟨_, v', e3, e4⟩ := a
      cases e3
      have h : (match ρ[j]? with
        | some (.own O) => O.see
        | some (.d x) => some x
        | _ => none) = some x := h
      cases e : ρ[j]? with
      | none => rw [e] at h; cases h
      | some s =>
        rw [e] at h
        obtain ⟨o, g1, g2, g3, e1, e2, c⟩ := S.sl.get e
        rw [e4] at e1
        cases e1
        cases s with
        | any => cases h
        | al m => cases h
        | d y =>
          cases h
          obtain ⟨_, v', e5, e6⟩ := c
          cases e5
          exact repS_of S.gh _ _ e6
        | own O =>
          obtain ⟨v', e5, e6⟩ := c
          cases e5
          exact O.sh h e6
/-- one read, two read -/
theorem Sat.vw1 (S : Sat K b ρ σ (z :: θ) (v :: τ) H) (h : DL.vw z ρ = some x) : ∃ G fp fq, repS K G H x v ∧ SatG K b ρ σ θ τ H G fp fq := by
  obtain ⟨G, fp, fq, S⟩ := S
  obtain ⟨r, fq', S'⟩ := S.vw h
  exact ⟨G, fp, fq', r, S'⟩
theorem Sat.vw2 {y : SV} {w : V} {x' : D} (S : Sat K b ρ σ (y :: z :: θ) (w :: v :: τ) H) (h : DL.vw z ρ = some x) (h' : DL.vw y ρ = some x') : ∃ G fp fq, repS K G H x v ∧ repS K G H x' w ∧ SatG K b ρ σ θ τ H G fp fq := by
  obtain ⟨G, fp, fq, S⟩ := S
  obtain ⟨r', fq1, S1⟩ := S.vw h'
  obtain ⟨r, fq2, S2⟩ := S1.vw h
  exact ⟨G, fp, fq2, r, r', S2⟩
end

/-! ### plain values -/
section
variable {ρ : List SV} {C : SV → List SV → Prop} {x y z : SV} {i j : Int} {s t : Str}
theorem w2_I0 {g : Int → Int → V} (hx : vw x ρ = some (.int i)) (hy : vw y ρ = some (.int j)) (k : C (.d (cD (g i j))) ρ) : W2 K (rI0 g) x y ρ C := fun b σ H θ τ v w Q S q => by
  obtain ⟨G, fp, fq, r, r', S'⟩ := S.vw2 hx hy
  exact ⟨i, j, r, r', q _ ρ _ H k ⟨G, fp, fq, S'.push (rep_cD _)⟩⟩
theorem w2_I {Cd : Int → Int → Prop} {g : Int → Int → V} (hx : vw x ρ = some (.int i)) (hy : vw y ρ = some (.int j)) (hc : Cd i j) (k : C (.d (cD (g i j))) ρ) : W2 K (rI Cd g) x y ρ C := fun b σ H θ τ v w Q S q => by
  obtain ⟨G, fp, fq, r, r', S'⟩ := S.vw2 hx hy
  exact ⟨i, j, r, r', hc, q _ ρ _ H k ⟨G, fp, fq, S'.push (rep_cD _)⟩⟩
theorem w2_inl {r r' : R2} (h : W2 K r x y ρ C) : W2 K (fun x y H Q => r x y H Q ∨ r' x y H Q) x y ρ C := fun b σ H θ τ v w Q S q => .inl (h b σ H θ τ v w Q S q)
theorem w2_inr {r r' : R2} (h : W2 K r' x y ρ C) : W2 K (fun x y H Q => r x y H Q ∨ r' x y H Q) x y ρ C := fun b σ H θ τ v w Q S q => .inr (h b σ H θ τ v w Q S q)
theorem wr_inl {r r' : List V → Hp → VK → Prop} {xs : List SV} (h : WR K r xs ρ C) : WR K (fun x H Q => r x H Q ∨ r' x H Q) xs ρ C := fun b σ H θ τ v Q S hl q => .inl (h b σ H θ τ v Q S hl q)
theorem wr_inr {r r' : List V → Hp → VK → Prop} {xs : List SV} (h : WR K r' xs ρ C) : WR K (fun x H Q => r x H Q ∨ r' x H Q) xs ρ C := fun b σ H θ τ v Q S hl q => .inr (h b σ H θ τ v Q S hl q)
/-- == and != of plain values of one kind -/
def scV : D → Option V
  | .non => some .non
  | .bl b => some (.bl b)
  | .int i => some (.int i)
  | .str s => some (.str s)
  | _ => none
theorem repS_sc {G H : Hp} {x : D} {v u : V} (h : scV x = some u) (r : repS K G H x v) : v = u := by
  cases x <;> first | (cases h; exact r) | cases h
theorem w2_eq {p q : D} {a c : V} (hx : vw x ρ = some p) (hy : vw y ρ = some q) (ha : scV p = some a) (hc : scV q = some c) (hs : scal a c = true) (k : C (.d (.bl (decide (a = c)))) ρ) : W2 K rEq x y ρ C := fun b σ H θ τ v w Q S q => by
  obtain ⟨G, fp, fq, r, r', S'⟩ := S.vw2 hx hy
  rw [repS_sc ha r, repS_sc hc r']
  exact ⟨hs, q _ ρ _ H k ⟨G, fp, fq, S'.push rfl⟩⟩
theorem w2_ne {p q : D} {a c : V} (hx : vw x ρ = some p) (hy : vw y ρ = some q) (ha : scV p = some a) (hc : scV q = some c) (hs : scal a c = true) (k : C (.d (.bl (!decide (a = c)))) ρ) : W2 K rNe x y ρ C := fun b σ H θ τ v w Q S q => by
  obtain ⟨G, fp, fq, r, r', S'⟩ := S.vw2 hx hy
  rw [repS_sc ha r, repS_sc hc r']
  exact ⟨hs, q _ ρ _ H k ⟨G, fp, fq, S'.push rfl⟩⟩
/-- is None -/
def isNonD : D → Bool
  | .non => true
  | _ => false
def nraw : D → Bool
  | .raw _ => false
  | _ => true
theorem repS_non {G H : Hp} {x : D} {v : V} (h : nraw x = true) (r : repS K G H x v) : decide (v = .non) = isNonD x := by
  cases x <;> first
    | (rw [show v = _ from r]; rfl)
    | (obtain ⟨p, vs, e, _⟩ := r; rw [e]; rfl)
    | (obtain ⟨p, dx, ws, e, _⟩ := r; rw [e]; rfl)
    | cases h
theorem we_isN {te : TE} (h : WE K te ρ fun z ρ1 => ∃ x, vw z ρ1 = some x ∧ nraw x = true ∧ C (.d (.bl (isNonD x))) ρ1) : WE K (tIsN te) ρ C := fun b σ H θ τ Q S q =>
  h b σ H θ τ _ S fun z ρ1 v H1 ⟨x, hx, hn, k⟩ S1 => by
    obtain ⟨G, fp, fq, r, S'⟩ := S1.vw1 hx
    rw [repS_non hn r]
    exact q _ ρ1 _ H1 k ⟨G, fp, fq, S'.push rfl⟩
theorem we_notN {te : TE} (h : WE K te ρ fun z ρ1 => ∃ x, vw z ρ1 = some x ∧ nraw x = true ∧ C (.d (.bl (!isNonD x))) ρ1) : WE K (tNotN te) ρ C := fun b σ H θ τ Q S q =>
  h b σ H θ τ _ S fun z ρ1 v H1 ⟨x, hx, hn, k⟩ S1 => by
    obtain ⟨G, fp, fq, r, S'⟩ := S1.vw1 hx
    rw [repS_non hn r]
    exact q _ ρ1 _ H1 k ⟨G, fp, fq, S'.push rfl⟩

/-! ### lists, tuples, made new -/
theorem repsA {b : Bs} {σ : L2.St} {θ : List SV} {τ : List V} {H : Hp} {zs : List SV} {vs : List V} {ρ ρ2 : List SV} {ds : List D} (S : Sat K b ρ σ (zs.reverse ++ θ) (vs.reverse ++ τ) H) (hl : zs.length = vs.length) (h : fzA zs.reverse ρ [] = some (ds, ρ2)) :
    ∃ G fp fq, SatG K b ρ2 σ θ τ H G fp fq ∧ reps K G ds vs := S.args hl h
theorem rep_laid {G : Hp} {p : Addr} {o : HO} {x : D} {v : V} (hp : G p = none) (r : rep K G x v) : rep K (upd G p o) x v := rep_le (Ex.upd hp).le _ _ r
theorem reps_laid {G : Hp} {p : Addr} {o : HO} {x : List D} {v : List V} (hp : G p = none) (r : reps K G x v) : reps K (upd G p o) x v := reps_le (Ex.upd hp).le _ _ r
theorem repK_laid {G : Hp} {p : Addr} {o : HO} {x : List (Key × D)} {v : List (Key × V)} (hp : G p = none) (r : repK K G x v) : repK K (upd G p o) x v := repK_le (Ex.upd hp).le _ _ r
theorem SatG.free {b : Bs} {σ : L2.St} {θ : List SV} {τ : List V} {H G : Hp} {fp fq : List Addr} {p : Addr} (S : SatG K b ρ σ θ τ H G fp fq) (hp : H p = none) : G p = none := by
  cases q : G p with
  | none => rfl
  | some u => rw [S.gh p u q] at hp; cases hp
theorem we_tup {ta : TA} (h : WA K ta ρ fun zs ρ1 => ∃ ds ρ2, fzA zs.reverse ρ1 [] = some (ds, ρ2) ∧ ds.length ≤ sizeLine ∧ C (.d (.tup ds)) ρ2) : WE K (tTup ta) ρ C := fun b σ H θ τ Q S q =>
  h b σ H θ τ _ S fun zs ρ1 vs H1 ⟨ds, ρ2, e, hz, k⟩ S1 hl => by
    obtain ⟨G, fp, fq, S2, r⟩ := S1.args hl e
    refine ⟨by rw [reps_len r]; exact hz, fun p hp => ?_⟩
    have gp := S2.free hp
    exact q _ ρ2 _ _ k ⟨_, fp, fq, (S2.lay hp).push ⟨p, vs, rfl, upd_same, reps_laid gp r⟩⟩
/-- a written list: one's own -/
theorem we_lst {ta : TA} (h : WA K ta ρ fun zs ρ1 => ∃ ds ρ2, fzA zs.reverse ρ1 [] = some (ds, ρ2) ∧ ds.length ≤ sizeLine ∧ C (.own (ownL ds)) ρ2) : WE K (tLst ta) ρ C := fun b σ H θ τ Q S q =>
  h b σ H θ τ _ S fun zs ρ1 vs H1 ⟨ds, ρ2, e, hz, k⟩ S1 hl => by
    obtain ⟨G, fp, fq, S2, r⟩ := S1.args hl e
    refine ⟨by rw [reps_len r]; exact hz, fun p hp => ?_⟩
    exact q _ ρ2 _ _ k ⟨_, fp, _, S2.owned (O := ownL ds) hp ⟨p, vs, rfl, rfl, upd_same, r⟩⟩
theorem we_dnewK (k : C (.own (ownK [])) ρ) : WE K tDNewK ρ C := fun b σ H θ τ Q S q p hp => by
  obtain ⟨G, fp, fq, S⟩ := S
  exact q _ ρ _ _ k ⟨_, fp, _, S.owned (O := ownK []) hp ⟨p, [], rfl, rfl, upd_same, rfl⟩⟩
theorem we_dnewT (k : C (.own (ownT [])) ρ) : WE K tDNewT ρ C := fun b σ H θ τ Q S q p hp => by
  obtain ⟨G, fp, fq, S⟩ := S
  exact q _ ρ _ _ k ⟨_, fp, _, S.owned (O := ownT []) hp ⟨p, [], rfl, rfl, upd_same, rfl⟩⟩
theorem Cells.split {G H : Hp} {σ0 : L2.St} : ∀ {r1 r2 : List SV} {s1 s2 : List (Option V)} {fp : List Addr}, r1.length = s1.length → Cells K G H σ0 (r1 ++ r2) (s1 ++ s2) fp → ∃ fa fb, fp = fa ++ fb ∧ Cells K G H σ0 r1 s1 fa ∧ Cells K G H σ0 r2 s2 fb
  | [], r2, [], s2, fp, _, h => ⟨[], fp, rfl, .nil, h⟩
  | [], _, _ :: _, _, _, e, _ => by cases e
  | _ :: _, _, [], _, _, e, _ => by cases e
  | a :: r1, r2, o :: s1, s2, _, e, .cons (fp := f1) c t => by
    obtain ⟨fa, fb, e1, h1, h2⟩ := Cells.split (by simpa using e) t
    exact ⟨f1 ++ fa, fb, by rw [e1, List.append_assoc], .cons c h1, h2⟩
theorem Cells.rev {G H : Hp} {σ0 : L2.St} {r : List SV} {s : List (Option V)} {fp : List Addr} (h : Cells K G H σ0 r s fp) : ∃ fq, Cells K G H σ0 r.reverse s.reverse fq ∧ fq.Perm fp := by
  induction h with
  | nil => exact ⟨[], .nil, .nil⟩
  | cons a _ ih =>
    rename_i f1 f2 _
    obtain ⟨fq, c, p⟩ := ih
    refine ⟨fq ++ (f1 ++ []), ?_, ?_⟩
    · rw [List.reverse_cons, List.reverse_cons]
      exact c.app (.cons a .nil)
    · rw [List.append_nil]
      exact (List.perm_append_comm).trans (p.append_left f1)
theorem Sat.flip {b : Bs} {σ : L2.St} {θ : List SV} {τ : List V} {H : Hp} {zs : List SV} {vs : List V} {ρ : List SV} (S : Sat K b ρ σ (zs.reverse ++ θ) (vs.reverse ++ τ) H) (hl : zs.length = vs.length) : Sat K b ρ σ (zs ++ θ) (vs ++ τ) H := by
  obtain ⟨G, fp, fq, S⟩ := S
  have tm := S.tm
  rw [List.map_append, List.map_reverse] at tm
  obtain ⟨fa, fb, e, c1, c2⟩ := Cells.split (by simp [hl]) tm
  obtain ⟨fc, c3, p⟩ := c1.rev
  rw [List.reverse_reverse, List.reverse_reverse] at c3
  have pm : (fp ++ (fc ++ fb)).Perm (fp ++ fq) := by rw [e]; exact (p.append_right fb).append_left fp
  refine ⟨G, fp, fc ++ fb, S.gg, S.hh, S.gh, S.sep, S.fr, S.sl, ?_, fun x hx => S.out x (pm.mem_iff.mp hx), pm.nodup_iff.mpr S.nd⟩
  rw [List.map_append]
  exact c3.app c2
/-- several names at once: the tuple is thrown away -/
theorem ws_multi {ta : TA} {n : Nat} {gs : TGs} {R : Post} (h : WA K ta ρ fun zs ρ1 => zs.length = n ∧ n ≤ sizeLine ∧ allD zs = true ∧ WGs K (fun _ => True) gs zs ρ1 R.nx) : WS K (tAsg (tTup ta) (gTup K n gs)) ρ R := fun b σ H θ τ D na S q1 _ _ _ =>
  h b σ H θ τ _ S fun zs ρ1 vs H1 ⟨hn, hz, hd, hg⟩ S1 hl => by
    refine ⟨by omega, fun p hp => ⟨p, vs, rfl, .inl (.inl upd_same), by omega, ?_⟩⟩
    obtain ⟨G, fp, fq, S1⟩ := S1
    have S2 : Sat K b ρ1 σ (zs.reverse ++ θ) (vs.reverse ++ τ) (upd H1 p (.tup vs)) := ⟨G, fp, fq, S1.grow (Ex.upd hp)⟩
    have S3 := S2.flip (zs := zs) hl
    exact hg b σ _ θ τ vs _ na S3 hl fun ρ' σ' H' c s _ _ => q1 ρ' σ' H' c s
end
end DL

set_option Elab.async false
set_option linter.all false
set_option maxRecDepth 100000
namespace L2
open PySem PySem.Spec PyProof.Rows
variable {X : Cx}
/-! ### more rules by values -/
def rDIn (neg : Bool) : R2 := fun y x H Q => ∃ a o, x = .ref a ∧ DGet H a y o ∧ Q (.bl (if neg then !o.isSome else o.isSome)) H
theorem op_in_dict (hu : X.A.units + 1 < cLine) : OpR X (compareOp .In) (rDIn false) := by
  intro pins s σ H x y v u Q I rx ry h
  obtain ⟨a, o, rfl, g, q⟩ := h
  cases ry
  exact d_in hu I g rx fun s' I' => ⟨.bl o.isSome, H, I', rfl, q⟩
theorem op_notin_dict (hu : X.A.units + 1 < cLine) : OpR X (compareOp .NotIn) (rDIn true) := by
  intro pins s σ H x y v u Q I rx ry h
  obtain ⟨a, o, rfl, g, q⟩ := h
  cases ry
  exact d_notIn hu I g rx fun s' I' => ⟨.bl (!o.isSome), H, I', rfl, q⟩
def rInStr (neg : Bool) : R2 := fun x y H Q => ∃ i j, x = .str i ∧ y = .str j ∧ Q (.bl (if neg then !(!(Builtin.Str.occurrences j i 0 j.length 1).isEmpty) else !(Builtin.Str.occurrences j i 0 j.length 1).isEmpty)) H
def rInA (K : PySem.W.Frag) (neg : Bool) : R2 := fun x y H Q => rDIn neg x y H Q ∨ (rIn K neg x y H Q ∨ rInStr neg x y H Q)
theorem op_inA (hu : X.A.units + 1 < cLine) : OpR X (compareOp .In) (rInA X.K false) := (op_in_dict hu).or (op_in_seq.or op_in_str)
theorem op_notInA (hu : X.A.units + 1 < cLine) : OpR X (compareOp .NotIn) (rInA X.K true) := (op_notin_dict hu).or (op_notIn_seq.or op_notIn_str)
/-- a + b -/
def rAddA (K : PySem.W.Frag) : R2 := fun x y H Q => rI0 (fun i j => .int (i + j)) x y H Q ∨ ((∃ i j, x = .str i ∧ y = .str j ∧ i.length + j.length ≤ sizeLine ∧ Q (.str (i ++ j)) H) ∨ (rCat x y H Q ∨ rCatA K x y H Q))
theorem op_addA : OpR X (binaryOp .Add) (rAddA X.K) := op_add.or (op_add_str.or (op_cat.or op_catA))
/-- a[b] of a dict -/
def rIxDc : R2 := fun x y H Q => ∃ a v, x = .ref a ∧ DGet H a y (some v) ∧ Q v H
theorem ix_dict (hu : X.A.units + 1 < cLine) : IxR X rIxDc := by
  intro value slice pins s σ H x y v u Q I rx ry h hs
  obtain ⟨a, w', rfl, g, q⟩ := h
  cases rx
  exact tail_any (dict_typeIs I g) slot_dict_getitem.lookup (d_getItem hu I g ry fun w2 s' I' r' => ⟨w', H, I', r', q⟩) hs
def rIxA (K : PySem.W.Frag) : R2 := fun x y H Q => rIxDc x y H Q ∨ (rIxL K x y H Q ∨ (rIxT K x y H Q ∨ rIxS x y H Q))
theorem ix_any (hu : X.A.units + 1 < cLine) : IxR X (rIxA X.K) := (ix_dict hu).or (ix_list.or (ix_tup.or ix_str))
/-- a[i:j] of lists, tuples -/
def rSlLT (K : PySem.W.Frag) : V → Option Int → Option Int → Hp → VK → Prop := fun x lo hi H Q => rSlL K x lo hi H Q ∨ rSlA K x lo hi H Q
theorem sl_any : SlR X (rSlLT X.K) := sl_list.or sl_tupA
/-- d.update(e), two dicts -/
def rUpdD : V → List V → Hp → VK → Prop := fun x vs H Q => ∃ a c kvs more, x = .ref a ∧ vs = [.ref c] ∧ a ≠ c ∧ H a = some (.dK kvs) ∧ Rd H c (.dK more) ∧ kvs.length + more.length ≤ sizeLine ∧ Q .non (upd H a (.dK (mergeK kvs more)))
theorem mt_update : MtR X "dict.update" rUpdD := by
  intro pins s σ H x vs v us Q I rx rv h
  obtain ⟨a, c, kvs, more, rfl, rfl, hac, ha, hc, hz, q⟩ := h
  cases rx
  obtain ⟨u, rfl, ru⟩ := vals1 rv
  cases ru
  obtain ⟨z1, hd1, ws, rel, dd⟩ := dk_of I.hok ha
  obtain ⟨z2, hd2, ms, rel2, dd2⟩ := dk_rd I.hok hc
  refine call_meetsIn PySem.F.slot_dict_update dd.typeIs PySem.F.entry_dict_update (PySem.F.args_dict_update_2 _ _) (PySem.meets_dict_update (mixKind X.prog X.w) a c hac hd2)
    ⟨ws, ms, dd, dd2, by rw [← rel.length, ← rel2.length]; exact hz, fun h' dd' _ hs => ⟨.non, upd H a (.dK (mergeK kvs more)), ?_, rfl, q⟩⟩
  have he : ∃ q, h'.get? a = some q := let ⟨q, _, _, hq, _⟩ := dd'; ⟨q, hq⟩
  exact d_write (t' := s.toks) I (by rw [ha]; exact True.intro) hs he (dk_new (Nat.le_trans (length_mergeK more kvs) hz) hd1 (KV.merge rel2 rel) dd')
/-- len of anything -/
def rLenA (K : PySem.W.Frag) : List V → Hp → VK → Prop := fun xs H Q => (∃ p ys, xs = [.ref p] ∧ (SqL K H p ys ∨ SqT K H p ys) ∧ Q (.int ys.length) H) ∨ ((∃ a kvs, xs = [V.ref a] ∧ Rd H a (.dK kvs) ∧ Q (.int kvs.length) H) ∨ (∃ z, xs = [.str z] ∧ z.length ≤ sizeLine ∧ Q (.int z.length) H))
theorem call_lenDR : CallR X (.builtin "len") (fun xs H Q => ∃ a kvs, xs = [V.ref a] ∧ Rd H a (.dK kvs) ∧ Q (.int kvs.length) H) := by
  intro pins s σ H xs us Q I r h
  obtain ⟨a, kvs, rfl, ha, q⟩ := h
  obtain ⟨u, rfl, ru⟩ := vals1 r
  cases ru
  exact d_len I ha fun t s' I' => ⟨.int kvs.length, H, I', ⟨t, rfl⟩, q⟩
theorem call_lenA : CallR X (.builtin "len") (rLenA X.K) := call_len_seq.or (call_lenDR.or call_len_str)
/-- list(..), tuple(..), sorted(..), dict(..) -/
def rListA (K : PySem.W.Frag) : List V → Hp → VK → Prop := fun xs H Q => (∃ p ys, xs = [.ref p] ∧ (SqL K H p ys ∨ SqT K H p ys) ∧ ∀ l, H l = none → Q (.ref l) (upd H l (.lst ys))) ∨
  (∃ (a : Addr) (kvs : List (Key × V)), xs = [.ref a] ∧ Rd H a (.dK kvs) ∧ ∀ p, H p = none → Q (.ref p) (upd H p (.lst (kvs.map fun kv => kV kv.1))))
theorem call_listA (hc : X.calm = true) : CallR X (.type "list") (rListA X.K) := call_list_of.or (call_listD hc)
end L2

set_option Elab.async false
set_option linter.all false
set_option maxRecDepth 100000
namespace DL
open PySem PySem.Spec L2
variable {K : PySem.W.Frag}

/-! ### dicts' data -/
section
variable {κ : Type} [DecidableEq κ] {G : Hp}
theorem repK_val : ∀ {kvs : List (Key × D)} {ws : List (Key × V)}, repK K G kvs ws → ∀ k, (lookD kvs k = none ∧ valV ws k = none) ∨ ∃ x v, lookD kvs k = some x ∧ valV ws k = some v ∧ rep K G x v
  | [], ws, h, k => by rw [show ws = [] from h]; exact .inl ⟨rfl, rfl⟩
  | (c, x) :: r, ws, ⟨v, t, e1, e2, e3⟩, k => by
    subst e1
    by_cases e : c = k
    · exact .inr ⟨x, v, by simp [lookD, List.find?_cons, e], valV_pos e, e2⟩
    · rw [valV_neg (p := (c, v)) e, show lookD ((c, x) :: r) k = lookD r k by simp [lookD, List.find?_cons, e]]
      exact repK_val e3 k
theorem repT_val : ∀ {kvs : List (List Key × D)} {ws : List (List Key × V)}, repT K G kvs ws → ∀ k, (lookD kvs k = none ∧ valV ws k = none) ∨ ∃ x v, lookD kvs k = some x ∧ valV ws k = some v ∧ rep K G x v
  | [], ws, h, k => by rw [show ws = [] from h]; exact .inl ⟨rfl, rfl⟩
  | (c, x) :: r, ws, ⟨v, t, e1, e2, e3⟩, k => by
    subst e1
    by_cases e : c = k
    · exact .inr ⟨x, v, by simp [lookD, List.find?_cons, e], valV_pos e, e2⟩
    · rw [valV_neg (p := (c, v)) e, show lookD ((c, x) :: r) k = lookD r k by simp [lookD, List.find?_cons, e]]
      exact repT_val e3 k
theorem repK_any {kvs : List (Key × D)} {ws : List (Key × V)} (h : repK K G kvs ws) (k : Key) : (kvs.any fun kv => decide (kv.1 = k)) = (ws.any fun kv => decide (kv.1 = k)) := by
  induction kvs generalizing ws with
  | nil => rw [show ws = [] from h]; rfl
  | cons p r ih =>
    obtain ⟨c, x⟩ := p
    obtain ⟨v, t, e1, e2, e3⟩ := h
    subst e1
    simp only [List.any_cons]
    rw [ih e3]
theorem repT_any {kvs : List (List Key × D)} {ws : List (List Key × V)} (h : repT K G kvs ws) (k : List Key) : (kvs.any fun kv => decide (kv.1 = k)) = (ws.any fun kv => decide (kv.1 = k)) := by
  induction kvs generalizing ws with
  | nil => rw [show ws = [] from h]; rfl
  | cons p r ih =>
    obtain ⟨c, x⟩ := p
    obtain ⟨v, t, e1, e2, e3⟩ := h
    subst e1
    simp only [List.any_cons]
    rw [ih e3]
theorem repK_app : ∀ {kvs more : List (Key × D)} {ws us : List (Key × V)}, repK K G kvs ws → repK K G more us → repK K G (kvs ++ more) (ws ++ us)
  | [], more, ws, us, h, h2 => by rw [show ws = [] from h]; exact h2
  | (c, x) :: r, more, ws, us, ⟨v, t, e1, e2, e3⟩, h2 => by rw [e1]; exact ⟨v, t ++ us, rfl, e2, repK_app e3 h2⟩
theorem repT_app : ∀ {kvs more : List (List Key × D)} {ws us : List (List Key × V)}, repT K G kvs ws → repT K G more us → repT K G (kvs ++ more) (ws ++ us)
  | [], more, ws, us, h, h2 => by rw [show ws = [] from h]; exact h2
  | (c, x) :: r, more, ws, us, ⟨v, t, e1, e2, e3⟩, h2 => by rw [e1]; exact ⟨v, t ++ us, rfl, e2, repT_app e3 h2⟩
theorem repK_repl {x : D} {v : V} {k : Key} (q : rep K G x v) : ∀ {kvs : List (Key × D)} {ws : List (Key × V)}, repK K G kvs ws → repK K G (kvs.map fun kv => if kv.1 = k then (kv.1, x) else kv) (ws.map fun kv => if kv.1 = k then (kv.1, v) else kv)
  | [], ws, h => by rw [show ws = [] from h]; rfl
  | (c, y) :: r, ws, ⟨u, t, e1, e2, e3⟩ => by
    subst e1
    rw [List.map_cons, List.map_cons]
    by_cases e : c = k
    · rw [if_pos e, if_pos e]; exact ⟨v, _, rfl, q, repK_repl q e3⟩
    · rw [if_neg e, if_neg e]; exact ⟨u, _, rfl, e2, repK_repl q e3⟩
theorem repT_repl {x : D} {v : V} {k : List Key} (q : rep K G x v) : ∀ {kvs : List (List Key × D)} {ws : List (List Key × V)}, repT K G kvs ws → repT K G (kvs.map fun kv => if kv.1 = k then (kv.1, x) else kv) (ws.map fun kv => if kv.1 = k then (kv.1, v) else kv)
  | [], ws, h => by rw [show ws = [] from h]; rfl
  | (c, y) :: r, ws, ⟨u, t, e1, e2, e3⟩ => by
    subst e1
    rw [List.map_cons, List.map_cons]
    by_cases e : c = k
    · rw [if_pos e, if_pos e]; exact ⟨v, _, rfl, q, repT_repl q e3⟩
    · rw [if_neg e, if_neg e]; exact ⟨u, _, rfl, e2, repT_repl q e3⟩
theorem repK_put {kvs : List (Key × D)} {ws : List (Key × V)} {k : Key} {x : D} {v : V} (h : repK K G kvs ws) (q : rep K G x v) : repK K G (putD kvs k x) (putK ws k v) := by
  unfold putD putK
  rw [repK_any h k]
  split
  · exact repK_repl q h
  · exact repK_app h ⟨v, [], rfl, q, rfl⟩
theorem repT_put {kvs : List (List Key × D)} {ws : List (List Key × V)} {k : List Key} {x : D} {v : V} (h : repT K G kvs ws) (q : rep K G x v) : repT K G (putD kvs k x) (putK ws k v) := by
  unfold putD putK
  rw [repT_any h k]
  split
  · exact repT_repl q h
  · exact repT_app h ⟨v, [], rfl, q, rfl⟩
theorem repK_len : ∀ {kvs : List (Key × D)} {ws : List (Key × V)}, repK K G kvs ws → ws.length = kvs.length
  | [], ws, h => by rw [show ws = [] from h]; rfl
  | (c, x) :: r, ws, ⟨v, t, e1, e2, e3⟩ => by rw [e1, List.length_cons, List.length_cons, repK_len e3]
theorem repT_len : ∀ {kvs : List (List Key × D)} {ws : List (List Key × V)}, repT K G kvs ws → ws.length = kvs.length
  | [], ws, h => by rw [show ws = [] from h]; rfl
  | (c, x) :: r, ws, ⟨v, t, e1, e2, e3⟩ => by rw [e1, List.length_cons, List.length_cons, repT_len e3]
theorem repK_keys : ∀ {kvs : List (Key × D)} {ws : List (Key × V)}, repK K G kvs ws → ws.map (·.1) = kvs.map (·.1)
  | [], ws, h => by rw [show ws = [] from h]; rfl
  | (c, x) :: r, ws, ⟨v, t, e1, e2, e3⟩ => by rw [e1, List.map_cons, List.map_cons, repK_keys e3]
theorem repK_get : ∀ {kvs : List (Key × D)} {ws : List (Key × V)} {i : Nat}, repK K G kvs ws → ∀ {k v}, ws[i]? = some (k, v) → ∃ x, kvs[i]? = some (k, x) ∧ rep K G x v
  | [], ws, i, h, k, v, e => by rw [show ws = [] from h] at e; simp at e
  | (c, x) :: r, ws, 0, ⟨u, t, e1, e2, e3⟩, k, v, e => by
    rw [e1] at e; simp only [List.getElem?_cons_zero, Option.some.injEq] at e
    cases e; exact ⟨x, rfl, e2⟩
  | (c, x) :: r, ws, i + 1, ⟨u, t, e1, e2, e3⟩, k, v, e => by
    rw [e1] at e; simp only [List.getElem?_cons_succ] at e ⊢; exact repK_get e3 e
def mergeD (kvs more : List (Key × D)) : List (Key × D) := more.foldl (fun acc kv => putD acc kv.1 kv.2) kvs
theorem repK_merge : ∀ {more : List (Key × D)} {us : List (Key × V)} {kvs : List (Key × D)} {ws : List (Key × V)}, repK K G kvs ws → repK K G more us → repK K G (mergeD kvs more) (mergeK ws us)
  | [], us, kvs, ws, h, h2 => by rw [show us = [] from h2]; exact h
  | (c, x) :: r, us, kvs, ws, h, ⟨v, t, e1, e2, e3⟩ => by
    subst e1
    show repK K G (mergeD (putD kvs c x) r) (mergeK (putK ws c v) t)
    exact repK_merge (repK_put h e2) e3
end
/-- keys by data -/
def dkey : D → Option Key
  | .int i => some (.inl i)
  | .str s => some (.inr s)
  | _ => none
theorem rep_key {G : Hp} {x : D} {k : Key} {v : V} (h : dkey x = some k) (r : rep K G x v) : v = kV k := by
  cases x <;> first | (cases h; exact r) | cases h
def keyD : Key → D
  | .inl i => .int i
  | .inr s => .str s
theorem rep_keyD {G : Hp} (k : Key) : rep K G (keyD k) (kV k) := by cases k <;> rfl
/-- keys that are tuples -/
def dkeys : List D → Option (List Key)
  | [] => some []
  | x :: xs => match dkey x, dkeys xs with
    | some k, some ks => some (k :: ks)
    | _, _ => none
theorem reps_keys {G : Hp} : ∀ {xs : List D} {ks : List Key} {vs : List V}, dkeys xs = some ks → reps K G xs vs → vs = ks.map kV
  | [], ks, vs, h, r => by cases h; exact r
  | x :: xs, ks, vs, h, ⟨v, t, e1, e2, e3⟩ => by
    have h : (match dkey x, dkeys xs with
      | some k, some ks => some (k :: ks)
      | _, _ => none) = some ks := h
    cases a : dkey x with
    | none => rw [a] at h; cases h
    | some k =>
      cases c : dkeys xs with
      | none => rw [a, c] at h; cases h
      | some ks' =>
        rw [a, c] at h
        cases h
        rw [e1, rep_key a e2, reps_keys c e3]
        rfl

section
variable {b : Bs} {ρ : List SV} {σ : L2.St} {θ : List SV} {τ : List V} {H G : Hp} {fp fq : List Addr} {C : SV → List SV → Prop} {x y z : SV}
/-- an own object in slot j may change -/
theorem SatG.mut {j : Nat} {O : Own} (S : SatG K b ρ σ θ τ H G fp fq) (e : ρ[j]? = some (.own O)) : ∃ v f2, σ[j]? = some (some v) ∧ O.R K G H v f2 ∧ (∀ p ∈ f2, G p = none) ∧
    ∀ (H' : Hp) (O' : Own), (∀ q, q ∉ f2 → H' q = H q) → O'.R K G H' v f2 → SatG K b (ρ.set j (.own O')) σ θ τ H' G fp fq := by
  obtain ⟨o, f1, f2, f3, e1, e2, ⟨v, e3, hR⟩, k⟩ := S.sl.take e
  subst e2 e3
  obtain ⟨nd, n2, n3⟩ := nd_mid S.nd
  have o2 : ∀ p ∈ f2, G p = none ∧ b.H p = none := fun p hp => S.out p (by simp [hp])
  refine ⟨v, f2, e1, hR, fun p hp => (o2 p hp).1, fun H' O' hs hR' => ?_⟩
  have es : σ.set j (some v) = σ := by
    refine List.ext_getElem? fun m => ?_
    by_cases hm : m = j
    · subst hm
      have : m < σ.length := (List.getElem?_eq_some_iff.mp e1).1
      rw [List.getElem?_set_self this, e1]
    · rw [List.getElem?_set_ne (Ne.symm hm)]
  have sl := k (.own O') (some v) G H' f2 (Ex.refl G).le (fun p hp => hs p fun q => n3 p q (by
    simp only [List.mem_append, List.nil_append] at hp ⊢
    rcases hp with z | z
    · exact .inl (.inl z)
    · exact .inl (.inr z))) ⟨v, rfl, hR'⟩
  rw [es] at sl
  refine ⟨S.gg, fun p o q => ?_, fun p o q => ?_, S.sep, S.fr, sl, S.tm.loc fun p hp => hs p fun q => n3 p q (List.mem_append_right _ hp), S.out, S.nd⟩
  · rw [hs p fun hp => by rw [(o2 p hp).2] at q; cases q]
    exact S.hh p o q
  · rw [hs p fun hp => by rw [(o2 p hp).1] at q; cases q]
    exact S.gh p o q
theorem SatG.al {j : Nat} {v : V} (S : SatG K b ρ σ (.al j :: θ) (v :: τ) H G fp fq) : σ[j]? = some (some v) := by
  have tm := S.tm
  cases tm with
  | cons a _ =>
    obtain ⟨_, v', e3, e4⟩ := a
    cases e3
    exact e4

/-! ### reading lists, tuples, dicts -/
theorem wr_len {xs : List D} (h : vw x ρ = some (.lst xs) ∨ vw x ρ = some (.tup xs)) (k : C (.d (.int xs.length)) ρ) : WR K (rLenA K) [x] ρ C := fun b σ H θ τ vs Q S hl q => by
  obtain ⟨v, rfl⟩ : ∃ v, vs = [v] := by
    cases vs with
    | nil => cases hl
    | cons v r => cases r with
      | nil => exact ⟨v, rfl⟩
      | cons _ _ => cases hl
  have S : Sat K b ρ σ (x :: θ) (v :: τ) H := S
  rcases h with h | h
  · obtain ⟨G, fp, fq, ⟨p, ws, e1, e2, e3⟩, S'⟩ := S.vw1 h
    refine .inl ⟨p, ws, by rw [e1], .inl (.inl (.inl e2)), ?_⟩
    rw [reps_len e3]
    exact q _ ρ _ H k ⟨G, fp, fq, S'.push rfl⟩
  · obtain ⟨G, fp, fq, ⟨p, ws, e1, e2, e3⟩, S'⟩ := S.vw1 h
    refine .inl ⟨p, ws, by rw [e1], .inr (.inl (.inl (S'.gh _ _ e2))), ?_⟩
    rw [reps_len e3]
    exact q _ ρ _ H k ⟨G, fp, fq, S'.push rfl⟩
theorem wr_lenD {kvs : List (Key × D)} (h : vw x ρ = some (.dK kvs)) (k : C (.d (.int kvs.length)) ρ) : WR K (rLenA K) [x] ρ C := fun b σ H θ τ vs Q S hl q => by
  obtain ⟨v, rfl⟩ : ∃ v, vs = [v] := by
    cases vs with
    | nil => cases hl
    | cons v r => cases r with
      | nil => exact ⟨v, rfl⟩
      | cons _ _ => cases hl
  have S : Sat K b ρ σ (x :: θ) (v :: τ) H := S
  obtain ⟨G, fp, fq, ⟨p, ws, e1, e2, e3⟩, S'⟩ := S.vw1 h
  refine .inr (.inl ⟨p, ws, by rw [e1], e2, ?_⟩)
  rw [repK_len e3]
  exact q _ ρ _ H k ⟨G, fp, fq, S'.push rfl⟩
theorem wr_lenS {s : Str} (h : vw x ρ = some (.str s)) (hz : s.length ≤ sizeLine) (k : C (.d (.int s.length)) ρ) : WR K (rLenA K) [x] ρ C := fun b σ H θ τ vs Q S hl q => by
  obtain ⟨v, rfl⟩ : ∃ v, vs = [v] := by
    cases vs with
    | nil => cases hl
    | cons v r => cases r with
      | nil => exact ⟨v, rfl⟩
      | cons _ _ => cases hl
  have S : Sat K b ρ σ (x :: θ) (v :: τ) H := S
  obtain ⟨G, fp, fq, e1, S'⟩ := S.vw1 h
  exact .inr (.inr ⟨s, by rw [show v = .str s from e1], hz, q _ ρ _ H k ⟨G, fp, fq, S'.push rfl⟩⟩)
theorem reps_ix {xs : List D} {ws : List V} {i : Int} {a : D} (r : reps K G xs ws) (h : atI xs i = some a) : ∃ v, atI ws i = some v ∧ rep K G a v := by
  unfold atI at h ⊢
  rw [reps_len r]
  cases e : ixN xs.length i with
  | none => rw [e] at h; cases h
  | some j =>
    rw [e] at h
    exact reps_get r h
theorem w2_ixL {xs : List D} {i : Int} {a : D} (h : vw x ρ = some (.lst xs)) (hi : vw y ρ = some (.int i)) (ha : atI xs i = some a) (k : C (.d a) ρ) : W2 K (rIxA K) x y ρ C := fun b σ H θ τ v w Q S q => by
  obtain ⟨G, fp, fq, ⟨p, ws, e1, e2, e3⟩, e4, S'⟩ := S.vw2 h hi
  obtain ⟨u, hu, ru⟩ := reps_ix e3 ha
  exact .inr (.inl ⟨p, ws, i, u, e1, e4, .inl (.inl e2), hu, q _ ρ _ H k ⟨G, fp, fq, S'.push ru⟩⟩)
theorem w2_ixT {xs : List D} {i : Int} {a : D} (h : vw x ρ = some (.tup xs)) (hi : vw y ρ = some (.int i)) (ha : atI xs i = some a) (k : C (.d a) ρ) : W2 K (rIxA K) x y ρ C := fun b σ H θ τ v w Q S q => by
  obtain ⟨G, fp, fq, ⟨p, ws, e1, e2, e3⟩, e4, S'⟩ := S.vw2 h hi
  obtain ⟨u, hu, ru⟩ := reps_ix e3 ha
  exact .inr (.inr (.inl ⟨p, ws, i, u, e1, e4, .inl (.inl (S'.gh _ _ e2)), hu, q _ ρ _ H k ⟨G, fp, fq, S'.push ru⟩⟩))
theorem w2_ixS {s : Str} {i : Int} {c : Nat} (h : vw x ρ = some (.str s)) (hi : vw y ρ = some (.int i)) (hz : s.length ≤ sizeLine) (ha : atI s.cps.toList i = some c) (k : C (.d (.str ⟨#[c]⟩)) ρ) : W2 K (rIxA K) x y ρ C := fun b σ H θ τ v w Q S q => by
  obtain ⟨G, fp, fq, e1, e4, S'⟩ := S.vw2 h hi
  exact .inr (.inr (.inr ⟨s, i, c, e1, e4, hz, ha, q _ ρ _ H k ⟨G, fp, fq, S'.push rfl⟩⟩))
theorem w2_ixK {kvs : List (Key × D)} {d a : D} {c : Key} (h : vw x ρ = some (.dK kvs)) (hi : vw y ρ = some d) (hd : dkey d = some c) (ha : lookD kvs c = some a) (k : C (.d a) ρ) : W2 K (rIxA K) x y ρ C := fun b σ H θ τ v w Q S q => by
  obtain ⟨G, fp, fq, ⟨p, ws, e1, e2, e3⟩, e4, S'⟩ := S.vw2 h hi
  have ew : w = kV c := by
    cases d <;> first | (cases hd; exact e4) | cases hd
  rcases repK_val e3 c with ⟨z, _⟩ | ⟨a', u, z1, z2, z3⟩
  · rw [ha] at z; cases z
  · rw [ha] at z1; cases z1
    exact .inl ⟨p, u, e1, .inl ⟨ws, c, e2, ew, z2.symm⟩, q _ ρ _ H k ⟨G, fp, fq, S'.push z3⟩⟩
/-- in, not in: a dict by its keys -/
theorem w2_inK {neg : Bool} {kvs : List (Key × D)} {d : D} {c : Key} (h : vw y ρ = some (.dK kvs)) (hi : vw x ρ = some d) (hd : dkey d = some c) (k : C (.d (.bl (if neg then !(lookD kvs c).isSome else (lookD kvs c).isSome))) ρ) : W2 K (rInA K neg) x y ρ C := fun b σ H θ τ v w Q S q => by
  obtain ⟨G, fp, fq, e4, ⟨p, ws, e1, e2, e3⟩, S'⟩ := S.vw2 hi h
  have ew : v = kV c := by
    cases d <;> first | (cases hd; exact e4) | cases hd
  have eo : (valV ws c).isSome = (lookD kvs c).isSome := by
    rcases repK_val e3 c with ⟨z1, z2⟩ | ⟨a', u, z1, z2, z3⟩
    · rw [z1, z2]; rfl
    · rw [z1, z2]; rfl
  refine .inl ⟨p, valV ws c, e1, .inl ⟨ws, c, e2, ew, rfl⟩, ?_⟩
  rw [eo]
  exact q _ ρ _ H k ⟨G, fp, fq, S'.push rfl⟩
theorem w2_inT {neg : Bool} {kvs : List (List Key × D)} {xs : List D} {c : List Key} (h : vw y ρ = some (.dT kvs)) (hi : vw x ρ = some (.tup xs)) (hd : dkeys xs = some c) (k : C (.d (.bl (if neg then !(lookD kvs c).isSome else (lookD kvs c).isSome))) ρ) : W2 K (rInA K neg) x y ρ C := fun b σ H θ τ v w Q S q => by
  obtain ⟨G, fp, fq, ⟨p1, w1, e4, e5, e6⟩, ⟨p, ws, e1, e2, e3⟩, S'⟩ := S.vw2 hi h
  have ew : w1 = c.map kV := reps_keys hd e6
  have eo : (valV ws c).isSome = (lookD kvs c).isSome := by
    rcases repT_val e3 c with ⟨z1, z2⟩ | ⟨a', u, z1, z2, z3⟩
    · rw [z1, z2]; rfl
    · rw [z1, z2]; rfl
  refine .inl ⟨p, valV ws c, e1, .inr ⟨ws, c, p1, e2, e4, ?_, rfl⟩, ?_⟩
  · rw [← ew]; exact S'.gh _ _ e5
  · rw [eo]
    exact q _ ρ _ H k ⟨G, fp, fq, S'.push rfl⟩
/-- .. a list or a tuple of texts -/
theorem flat_strs' (ys : List Str) : (ys.map V.str).all flatV = true := by
  rw [List.all_map]; exact List.all_eq_true.mpr fun _ _ => rfl
theorem flat_ints' (ys : List Int) : (ys.map V.int).all flatV = true := by
  rw [List.all_map]; exact List.all_eq_true.mpr fun _ _ => rfl
theorem inV_strs (s : Str) (ys : List Str) : inV (.str s) (ys.map V.str) = decide (s ∈ ys) := by
  unfold inV
  rw [List.any_map]
  rw [Bool.eq_iff_iff, List.any_eq_true, decide_eq_true_iff]
  constructor
  · rintro ⟨a, ha, e⟩
    have e' : (a == s) = true := e
    exact (beq_iff_eq.mp e') ▸ ha
  · intro h
    exact ⟨s, h, by show (s == s) = true; exact beq_self_eq_true s⟩
theorem inV_ints (s : Int) (ys : List Int) : inV (.int s) (ys.map V.int) = decide (s ∈ ys) := by
  unfold inV
  rw [List.any_map]
  rw [Bool.eq_iff_iff, List.any_eq_true, decide_eq_true_iff]
  constructor
  · rintro ⟨a, ha, e⟩
    have e' : (a == s) = true := e
    exact (beq_iff_eq.mp e') ▸ ha
  · intro h
    exact ⟨s, h, by show (s == s) = true; exact beq_self_eq_true s⟩
theorem w2_inSeq {neg : Bool} {ys : List Str} {s : Str} (h : vw y ρ = some (.lst (ys.map D.str)) ∨ vw y ρ = some (.tup (ys.map D.str))) (hi : vw x ρ = some (.str s)) (k : C (.d (.bl (if neg then !decide (s ∈ ys) else decide (s ∈ ys)))) ρ) : W2 K (rInA K neg) x y ρ C := fun b σ H θ τ v w Q S q => by
  rcases h with h | h
  · obtain ⟨G, fp, fq, e4, ⟨p, ws, e1, e2, e3⟩, S'⟩ := S.vw2 hi h
    have e5 := reps_strs.mp e3
    subst e5
    rw [show v = .str s from e4]
    refine .inr (.inl ⟨p, _, e1, .inl (.inl (.inl e2)), rfl, flat_strs' ys, ?_⟩)
    rw [inV_strs]
    exact q _ ρ _ H k ⟨G, fp, fq, S'.push rfl⟩
  · obtain ⟨G, fp, fq, e4, ⟨p, ws, e1, e2, e3⟩, S'⟩ := S.vw2 hi h
    have e5 := reps_strs.mp e3
    subst e5
    rw [show v = .str s from e4]
    refine .inr (.inl ⟨p, _, e1, .inr (.inl (.inl (S'.gh _ _ e2))), rfl, flat_strs' ys, ?_⟩)
    rw [inV_strs]
    exact q _ ρ _ H k ⟨G, fp, fq, S'.push rfl⟩
/-- .. a text in a text -/
theorem w2_inStr {neg : Bool} {s t : Str} (h : vw y ρ = some (.str t)) (hi : vw x ρ = some (.str s)) (k : C (.d (.bl (if neg then !(!(Builtin.Str.occurrences t s 0 t.length 1).isEmpty) else !(Builtin.Str.occurrences t s 0 t.length 1).isEmpty))) ρ) : W2 K (rInA K neg) x y ρ C := fun b σ H θ τ v w Q S q => by
  obtain ⟨G, fp, fq, e4, e1, S'⟩ := S.vw2 hi h
  exact .inr (.inr ⟨s, t, e4, e1, q _ ρ _ H k ⟨G, fp, fq, S'.push rfl⟩⟩)

/-! ### sums -/
theorem w2_addI {i j : Int} (h : vw x ρ = some (.int i)) (hi : vw y ρ = some (.int j)) (k : C (.d (.int (i + j))) ρ) : W2 K (rAddA K) x y ρ C := fun b σ H θ τ v w Q S q => .inl (w2_I0 h hi k b σ H θ τ v w Q S q)
theorem w2_addS {i j : Str} (h : vw x ρ = some (.str i)) (hi : vw y ρ = some (.str j)) (hz : i.length + j.length ≤ sizeLine) (k : C (.d (.str (i ++ j))) ρ) : W2 K (rAddA K) x y ρ C := fun b σ H θ τ v w Q S q => by
  obtain ⟨G, fp, fq, e4, e1, S'⟩ := S.vw2 h hi
  exact .inr (.inl ⟨i, j, e4, e1, hz, q _ ρ _ H k ⟨G, fp, fq, S'.push rfl⟩⟩)
theorem w2_addL {xs ys : List D} (h : vw x ρ = some (.lst xs)) (hi : vw y ρ = some (.lst ys)) (hz : xs.length + ys.length ≤ sizeLine) (k : C (.own (ownL (xs ++ ys))) ρ) : W2 K (rAddA K) x y ρ C := fun b σ H θ τ v w Q S q => by
  obtain ⟨G, fp, fq, ⟨p, ws, e1, e2, e3⟩, ⟨p', ws', e1', e2', e3'⟩, S'⟩ := S.vw2 h hi
  refine .inr (.inr (.inl ⟨p, p', ws, ws', e1, e1', e2, e2', by rw [reps_len e3, reps_len e3']; exact hz, fun a ha => ?_⟩))
  exact q _ ρ _ _ k ⟨G, fp, _, S'.owned (O := ownL (xs ++ ys)) ha ⟨a, ws ++ ws', rfl, rfl, upd_same, reps_app e3 e3'⟩⟩
theorem w2_addT {xs ys : List D} (h : vw x ρ = some (.tup xs)) (hi : vw y ρ = some (.tup ys)) (hz : xs.length + ys.length ≤ sizeLine) (k : C (.d (.tup (xs ++ ys))) ρ) : W2 K (rAddA K) x y ρ C := fun b σ H θ τ v w Q S q => by
  obtain ⟨G, fp, fq, ⟨p, ws, e1, e2, e3⟩, ⟨p', ws', e1', e2', e3'⟩, S'⟩ := S.vw2 h hi
  refine .inr (.inr (.inr ⟨p, p', ws, ws', e1, e1', .inl (.inl (S'.gh _ _ e2)), .inl (.inl (S'.gh _ _ e2')), by rw [reps_len e3, reps_len e3']; exact hz, fun z => ?_, fun z1 z2 => ?_, fun z1 z2 a ha => ?_⟩))
  · subst z
    have : xs = [] := List.length_eq_zero_iff.mp (reps_len e3).symm
    subst this
    exact q _ ρ _ _ k ⟨G, fp, fq, S'.push ⟨p', ws', rfl, e2', e3'⟩⟩
  · subst z2
    have : ys = [] := List.length_eq_zero_iff.mp (reps_len e3').symm
    subst this
    rw [List.append_nil] at k
    exact q _ ρ _ _ k ⟨G, fp, fq, S'.push ⟨p, ws, rfl, e2, e3⟩⟩
  · have gp := S'.free ha
    exact q _ ρ _ _ k ⟨_, fp, fq, (S'.lay ha).push ⟨a, _, rfl, upd_same, reps_laid gp (reps_app e3 e3')⟩⟩

/-! ### slices -/
def WO (K : PySem.W.Frag) (to : TO) (ρ : List SV) (C : Option Int → List SV → Prop) : Prop :=
  ∀ b σ H θ τ (Q : Option Int → Hp → Prop), Sat K b ρ σ θ τ H → (∀ o ρ' H', C o ρ' → Sat K b ρ' σ θ τ H' → Q o H') → to σ H Q
def W3 (K : PySem.W.Frag) (r : V → Option Int → Option Int → Hp → VK → Prop) (x : SV) (lo hi : Option Int) (ρ : List SV) (C : SV → List SV → Prop) : Prop :=
  ∀ b σ H θ τ v (Q : VK), Sat K b ρ σ (x :: θ) (v :: τ) H → (∀ z ρ' u H', C z ρ' → Sat K b ρ' σ (z :: θ) (u :: τ) H' → Q u H') → r v lo hi H Q
theorem wo_no {C : Option Int → List SV → Prop} (k : C none ρ) : WO K tNoPart ρ C := fun b σ H θ τ Q S q => q none ρ H k S
theorem wo_some {te : TE} {C : Option Int → List SV → Prop} (h : WE K te ρ fun z ρ1 => ∃ i, vw z ρ1 = some (.int i) ∧ C (some i) ρ1) : WO K (tPart te) ρ C := fun b σ H θ τ Q S q =>
  h b σ H θ τ _ S fun z ρ1 v H1 ⟨i, hi, k⟩ S1 => by
    obtain ⟨G, fp, fq, e, S'⟩ := S1.vw1 hi
    exact ⟨i, e, q _ ρ1 H1 k ⟨G, fp, fq, S'⟩⟩
theorem we_sl {te : TE} {tl th : TO} {r : V → Option Int → Option Int → Hp → VK → Prop} (h : WE K te ρ fun x ρ1 => WO K tl ρ1 fun lo ρ2 => WO K th ρ2 fun hi ρ3 => W3 K r x lo hi ρ3 C) : WE K (tSl r te tl th) ρ C := fun b σ H θ τ Q S q =>
  h b σ H θ τ _ S fun x ρ1 v H1 h1 S1 => h1 b σ H1 _ _ _ S1 fun lo ρ2 H2 h2 S2 => h2 b σ H2 _ _ _ S2 fun hi ρ3 H3 h3 S3 => h3 b σ H3 θ τ v Q S3 q
def cutL {α : Type} (xs : List α) (lo hi : Option Int) : List α := (xs.drop (HT.sIx xs.length 0 lo)).take (HT.sIx xs.length xs.length hi - HT.sIx xs.length 0 lo)
theorem reps_cut {xs : List D} {ws : List V} (r : reps K G xs ws) (lo hi : Option Int) : reps K G (cutL xs lo hi) (cutV ws lo hi) := by
  unfold cutL cutV
  rw [reps_len r]
  exact reps_take _ (reps_drop _ r)
theorem w3_L {xs : List D} {lo hi : Option Int} (h : vw x ρ = some (.lst xs)) (k : C (.own (ownL (cutL xs lo hi))) ρ) : W3 K (rSlLT K) x lo hi ρ C := fun b σ H θ τ v Q S q => by
  obtain ⟨G, fp, fq, ⟨p, ws, e1, e2, e3⟩, S'⟩ := S.vw1 h
  refine .inl ⟨p, ws, e1, .inl (.inl e2), fun a ha => ?_⟩
  exact q _ ρ _ _ k ⟨G, fp, _, S'.owned (O := ownL (cutL xs lo hi)) ha ⟨a, _, rfl, rfl, upd_same, reps_cut e3 lo hi⟩⟩
theorem w3_T {xs : List D} {lo hi : Option Int} (h : vw x ρ = some (.tup xs)) (k : C (.d (.tup (cutL xs lo hi))) ρ) : W3 K (rSlLT K) x lo hi ρ C := fun b σ H θ τ v Q S q => by
  obtain ⟨G, fp, fq, ⟨p, ws, e1, e2, e3⟩, S'⟩ := S.vw1 h
  refine .inr ⟨p, ws, e1, .inl (.inl (S'.gh _ _ e2)), fun hw => ?_, fun hw a ha => ?_⟩
  · have e : cutL xs lo hi = xs := by
      unfold cutL
      rw [reps_len e3] at hw
      rw [hw.1, hw.2]
      simp
    rw [e] at k
    exact q _ ρ _ _ k ⟨G, fp, fq, S'.push ⟨p, ws, rfl, e2, e3⟩⟩
  · have gp := S'.free ha
    exact q _ ρ _ _ k ⟨_, fp, fq, (S'.lay ha).push ⟨a, _, rfl, upd_same, reps_laid gp (reps_cut e3 lo hi)⟩⟩
theorem cutL_to {α : Type} (xs : List α) (n : Nat) : cutL xs none (some (n : Int)) = xs.take n := by
  unfold cutL
  rw [HT.sIx_none, HT.sIx_nat, List.drop_zero, Nat.sub_zero]
  rcases Nat.le_total n xs.length with h | h
  · rw [Nat.min_eq_left h]
  · rw [Nat.min_eq_right h, List.take_length, List.take_of_length_le h]
theorem cutL_from {α : Type} (xs : List α) (n : Nat) : cutL xs (some (n : Int)) none = xs.drop n := by
  unfold cutL
  rw [HT.sIx_none, HT.sIx_nat]
  rcases Nat.le_total n xs.length with h | h
  · rw [Nat.min_eq_left h]
    exact List.take_of_length_le (by rw [List.length_drop]; exact Nat.le_refl _)
  · rw [Nat.min_eq_right h, List.drop_length, List.drop_of_length_le h]
    simp
theorem cutL_mid {α : Type} (xs : List α) (n m : Nat) : cutL xs (some (n : Int)) (some (m : Int)) = (xs.drop n).take (m - n) := by
  unfold cutL
  rw [HT.sIx_nat, HT.sIx_nat]
  rcases Nat.le_total n xs.length with h | h
  · rw [Nat.min_eq_left h]
    rcases Nat.le_total m xs.length with h2 | h2
    · rw [Nat.min_eq_left h2]
    · rw [Nat.min_eq_right h2, List.take_of_length_le (by rw [List.length_drop]; exact Nat.le_refl _), List.take_of_length_le (by rw [List.length_drop]; omega)]
  · rw [Nat.min_eq_right h, List.drop_length, List.drop_of_length_le h]
    simp
theorem cutL_rev {α : Type} (xs : List α) : cutL xs none none = xs := by
  unfold cutL
  simp [HT.sIx_none]

/-! ### attributes -/
theorem repF_look : ∀ {fs : List (Str × D)} {ws : List (Str × V)} {f : Str}, repF K G fs ws → ∀ {x}, fs.lookup f = some x → ∃ v, ws.lookup f = some v ∧ rep K G x v
  | [], ws, f, h, x, e => by cases e
  | (c, y) :: r, ws, f, ⟨v, t, e1, e2, e3⟩, x, e => by
    subst e1
    rw [List.lookup_cons] at e ⊢
    cases hq : f == c with
    | true => rw [hq] at e; cases e; exact ⟨v, rfl, e2⟩
    | false => rw [hq] at e; exact repF_look e3 e
theorem we_fld {te : TE} {f : Str} (h : WE K te ρ fun z ρ1 => ∃ Ca fs a, vw z ρ1 = some (.ins Ca fs) ∧ Cls K Ca ∧ NoAttr K Ca f ∧ fs.lookup f = some a ∧ C (.d a) ρ1) : WE K (tFld K te f) ρ C := fun b σ H θ τ Q S q =>
  h b σ H θ τ _ S fun z ρ1 v H1 ⟨Ca, fs, a, hv, c1, c2, hl, k⟩ S1 => by
    obtain ⟨G, fp, fq, ⟨p, dx, ws, e1, e2, e3⟩, S'⟩ := S1.vw1 hv
    obtain ⟨u, hu, ru⟩ := repF_look e3 hl
    exact ⟨p, Ca, dx, ws, u, e1, S'.gh _ _ e2, c1, c2, hu, q _ ρ1 _ H1 k ⟨G, fp, fq, S'.push ru⟩⟩

/-! ### methods of lists and dicts -/
theorem we_bm {T : String} {r : V → List V → Hp → VK → Prop} {to : TE} {ta : TA} (h : WE K to ρ fun z ρ1 => (∃ xs, vw z ρ1 = some (.lst xs) ∧ T = "list") ∧ WA K ta ρ1 fun zs ρ2 => WM K r z zs ρ2 C) : WE K (tBM K T r to ta) ρ C := fun b σ H θ τ Q S q =>
  h b σ H θ τ _ S fun z ρ1 v H1 ⟨⟨xs, hv, hT⟩, h1⟩ S1 => by
    have ty : tyV K T v H1 := by
      obtain ⟨G, fp, fq, ⟨p, ws, e1, e2, e3⟩, S'⟩ := S1.vw1 hv
      subst e1 hT
      exact .inl ⟨rfl, ws, .inl (.inl e2)⟩
    exact ⟨ty, h1 b σ H1 _ _ _ S1 fun zs ρ2 vs H2 h2 S2 hl => h2 b σ H2 θ τ v vs Q S2 hl q⟩
theorem we_bmD {T : String} {r : V → List V → Hp → VK → Prop} {to : TE} {ta : TA} (h : WE K to ρ fun z ρ1 => (∃ j kvs, z = .al j ∧ ρ1[j]? = some (.own (ownK kvs)) ∧ T = "dict") ∧ WA K ta ρ1 fun zs ρ2 => WM K r z zs ρ2 C) : WE K (tBM K T r to ta) ρ C := fun b σ H θ τ Q S q =>
  h b σ H θ τ _ S fun z ρ1 v H1 ⟨⟨j, kvs, hz, hv, hT⟩, h1⟩ S1 => by
    have ty : tyV K T v H1 := by
      subst hz hT
      obtain ⟨G, fp, fq, S'⟩ := S1
      have hs := S'.al
      obtain ⟨v', f2, e1, ⟨p, ws, e2, e3, e4, e5⟩, _⟩ := S'.mut hv
      rw [hs] at e1
      cases e1
      rw [e2]
      exact .inr (.inr (.inl ⟨rfl, .inl ⟨ws, e4⟩⟩))
    exact ⟨ty, h1 b σ H1 _ _ _ S1 fun zs ρ2 vs H2 h2 S2 hl => h2 b σ H2 θ τ v vs Q S2 hl q⟩
/-- xs.append(y) -/
theorem wm_append {j : Nat} {xs : List D} {a : D} {ρ2 : List SV} (hf : fzT z ρ = some (a, ρ2)) (hj : ρ2[j]? = some (.own (ownL xs))) (hz : xs.length < sizeLine) (k : C (.d .non) (ρ2.set j (.own (ownL (xs ++ [a]))))) : WM K rAppend (.al j) [z] ρ C := fun b σ H θ τ v vs Q S hl q => by
  obtain ⟨w, rfl⟩ : ∃ w, vs = [w] := by
    cases vs with
    | nil => cases hl
    | cons v r => cases r with
      | nil => exact ⟨v, rfl⟩
      | cons _ _ => cases hl
  have S : Sat K b ρ σ (z :: .al j :: θ) (w :: v :: τ) H := S
  obtain ⟨G, fp, fq, S1⟩ := S.fz hf
  have tm := S1.tm
  obtain ⟨fq', S2⟩ := S1.drop
  have hr : rep K G a w := by
    cases tm with
    | cons c _ =>
      obtain ⟨_, v', e3, e4⟩ := c
      cases e3
      exact e4
  have hs := S2.al
  obtain ⟨fq2, S3⟩ := S2.drop
  obtain ⟨v', f2, e1, ⟨p, ws, e2, e3, e4, e5⟩, e6, kk⟩ := S3.mut hj
  rw [hs] at e1
  cases e1
  subst e2 e3
  refine ⟨p, ws, w, rfl, rfl, e4, by rw [reps_len e5]; exact hz, q _ _ .non _ k ⟨G, fp, fq2, SatG.push (kk (upd H p (.lst (ws ++ [w]))) (ownL (xs ++ [a])) (fun c hc => upd_ne (by simpa using hc)) ⟨p, _, rfl, rfl, upd_same, reps_app e5 ⟨w, [], rfl, hr, rfl⟩⟩) rfl⟩⟩
/-- xs.pop(i) -/
theorem wm_popAt {j : Nat} {xs : List D} {i : Nat} {a : D} (hi : vw z ρ = some (.int i)) (hj : ρ[j]? = some (.own (ownL xs))) (ha : xs[i]? = some a) (hz : xs.length ≤ sizeLine) (k : C (.d a) (ρ.set j (.own (ownL (xs.eraseIdx i))))) : WM K rPopAt (.al j) [z] ρ C := fun b σ H θ τ v vs Q S hl q => by
  obtain ⟨w, rfl⟩ : ∃ w, vs = [w] := by
    cases vs with
    | nil => cases hl
    | cons v r => cases r with
      | nil => exact ⟨v, rfl⟩
      | cons _ _ => cases hl
  have S : Sat K b ρ σ (z :: .al j :: θ) (w :: v :: τ) H := S
  obtain ⟨G, fp, fq, e0, S2⟩ := S.vw1 hi
  have e0 : w = .int i := e0
  have hs := S2.al
  obtain ⟨fq2, S3⟩ := S2.drop
  obtain ⟨v', f2, e1, ⟨p, ws, e2, e3, e4, e5⟩, e6, kk⟩ := S3.mut hj
  rw [hs] at e1
  cases e1
  subst e2 e3 e0
  obtain ⟨u, hu, ru⟩ := reps_get e5 ha
  have hlt : i < xs.length := (List.getElem?_eq_some_iff.mp ha).1
  have hb : (2 : Int) ^ 63 = 9223372036854775808 := by decide
  have hs2 : sizeLine = 16777216 := sizeLine_eq
  refine ⟨p, ws, i, i, u, rfl, rfl, e4, by omega, by omega, ?_, hu, q _ _ u _ k ⟨G, fp, fq2, SatG.push (kk (upd H p (.lst (ws.eraseIdx i))) (ownL (xs.eraseIdx i)) (fun c hc => upd_ne (by simpa using hc)) ⟨p, _, rfl, rfl, upd_same, reps_erase i e5⟩) ru⟩⟩
  rw [reps_len e5]
  exact seqIndex_of (Int.natCast_nonneg i) (by omega)
/-- d.update(e) -/
theorem wm_update {j : Nat} {kvs more : List (Key × D)} {ρ2 : List SV} (hf : fzT z ρ = some (.dK more, ρ2)) (hj : ρ2[j]? = some (.own (ownK kvs))) (hz : kvs.length + more.length ≤ sizeLine) (k : C (.d .non) (ρ2.set j (.own (ownK (mergeD kvs more))))) : WM K rUpdD (.al j) [z] ρ C := fun b σ H θ τ v vs Q S hl q => by
  obtain ⟨w, rfl⟩ : ∃ w, vs = [w] := by
    cases vs with
    | nil => cases hl
    | cons v r => cases r with
      | nil => exact ⟨v, rfl⟩
      | cons _ _ => cases hl
  have S : Sat K b ρ σ (z :: .al j :: θ) (w :: v :: τ) H := S
  obtain ⟨G, fp, fq, S1⟩ := S.fz hf
  have tm := S1.tm
  obtain ⟨fq', S2⟩ := S1.drop
  have hr : rep K G (.dK more) w := by
    cases tm with
    | cons c _ =>
      obtain ⟨_, v', e3, e4⟩ := c
      cases e3
      exact e4
  have hs := S2.al
  obtain ⟨fq2, S3⟩ := S2.drop
  obtain ⟨v', f2, e1, ⟨p, ws, e2, e3, e4, e5⟩, e6, kk⟩ := S3.mut hj
  rw [hs] at e1
  cases e1
  obtain ⟨c, us, d1, d2, d3⟩ := hr
  subst e2 e3 d1
  have gp : G p = none := e6 p (by simp)
  have pc : p ≠ c := fun z => by
    subst z
    rcases d2 with d2 | ⟨o, d2⟩ <;> (rw [gp] at d2; cases d2)
  refine ⟨p, c, ws, us, rfl, rfl, pc, e4, ?_, by rw [repK_len e5, repK_len d3]; exact hz, q _ _ .non _ k ⟨G, fp, fq2, SatG.push (kk (upd H p (.dK (mergeK ws us))) (ownK (mergeD kvs more)) (fun c hc => upd_ne (by simpa using hc)) ⟨p, _, rfl, rfl, upd_same, repK_merge e5 d3⟩) rfl⟩⟩
  rcases d2 with d2 | ⟨o, d2⟩
  · exact .inl (S3.gh _ _ d2)
  · exact .inr ⟨o, S3.gh _ _ d2⟩
/-- d[k] = v -/
theorem ws_put {td ty tv : TE} {R : Post} (h : WE K tv ρ fun z ρ1 => WE K td ρ1 fun dz ρ2 => WE K ty ρ2 fun kz ρ3 => ∃ j kvs a c d, dz = .al j ∧ z = .d a ∧ vw kz ρ3 = some d ∧ dkey d = some c ∧ ρ3[j]? = some (.own (ownK kvs)) ∧ kvs.length < sizeLine ∧ R.nx (ρ3.set j (.own (ownK (putD kvs c a))))) : WS K (sDPut td ty tv) ρ R := fun b σ H θ τ D na S q1 _ _ _ =>
  h b σ H θ τ _ S fun z ρ1 v H1 h1 S1 => h1 b σ H1 _ _ _ S1 fun dz ρ2 dv H2 h2 S2 => h2 b σ H2 _ _ _ S2 fun kz ρ3 kv H3 ⟨j, kvs, a, c, d, ez, ea, hk, hc, hj, hz, hn⟩ S3 => by
    subst ez ea
    obtain ⟨G, fp, fq, e0, S4⟩ := S3.vw1 hk
    have ek : kv = kV c := by
      cases d <;> first | (cases hc; exact e0) | cases hc
    subst ek
    have hs := S4.al
    obtain ⟨fq1, S5⟩ := S4.drop
    have hr : rep K G a v := by
      have tm := S5.tm
      cases tm with
      | cons c _ =>
        obtain ⟨_, v', e3, e4⟩ := c
        cases e3
        exact e4
    obtain ⟨fq2, S6⟩ := S5.drop
    obtain ⟨v', f2, e1, ⟨p, ws, e2, e3, e4, e5⟩, e6, kk⟩ := S6.mut hj
    rw [hs] at e1
    cases e1
    subst e2 e3
    refine ⟨p, upd H3 p (.dK (putK ws c v)), rfl, .inl ⟨ws, c, e4, rfl, by rw [repK_len e5]; exact hz, rfl⟩, q1 _ _ _ hn ⟨G, fp, fq2, kk _ (ownK (putD kvs c a)) (fun c hc => upd_ne (by simpa using hc)) ⟨p, _, rfl, rfl, upd_same, repK_put e5 hr⟩⟩⟩
theorem ws_putT {td ty tv : TE} {R : Post} (h : WE K tv ρ fun z ρ1 => WE K td ρ1 fun dz ρ2 => WE K ty ρ2 fun kz ρ3 => ∃ j kvs a c xs, dz = .al j ∧ z = .d a ∧ kz = .d (.tup xs) ∧ dkeys xs = some c ∧ ρ3[j]? = some (.own (ownT kvs)) ∧ kvs.length < sizeLine ∧ R.nx (ρ3.set j (.own (ownT (putD kvs c a))))) : WS K (sDPut td ty tv) ρ R := fun b σ H θ τ D na S q1 _ _ _ =>
  h b σ H θ τ _ S fun z ρ1 v H1 h1 S1 => h1 b σ H1 _ _ _ S1 fun dz ρ2 dv H2 h2 S2 => h2 b σ H2 _ _ _ S2 fun kz ρ3 kv H3 ⟨j, kvs, a, c, xs, ez, ea, hk, hc, hj, hz, hn⟩ S3 => by
    subst ez ea hk
    obtain ⟨G, fp, fq, S3⟩ := S3
    have tm := S3.tm
    obtain ⟨fq0, S4⟩ := S3.drop
    have hq : rep K G (.tup xs) kv := by
      cases tm with
      | cons c _ =>
        obtain ⟨_, v', e3, e4⟩ := c
        cases e3
        exact e4
    have hs := S4.al
    obtain ⟨fq1, S5⟩ := S4.drop
    have hr : rep K G a v := by
      have tm := S5.tm
      cases tm with
      | cons c _ =>
        obtain ⟨_, v', e3, e4⟩ := c
        cases e3
        exact e4
    obtain ⟨fq2, S6⟩ := S5.drop
    obtain ⟨v', f2, e1, ⟨p, ws, e2, e3, e4, e5⟩, e6, kk⟩ := S6.mut hj
    rw [hs] at e1
    cases e1
    obtain ⟨t, us, d1, d2, d3⟩ := hq
    have eu := reps_keys hc d3
    subst e2 e3 d1 eu
    refine ⟨p, upd H3 p (.dT (putK ws c v)), rfl, .inr ⟨ws, c, t, e4, rfl, S6.gh _ _ d2, by rw [repT_len e5]; exact hz, rfl⟩, q1 _ _ _ hn ⟨G, fp, fq2, kk _ (ownT (putD kvs c a)) (fun c hc => upd_ne (by simpa using hc)) ⟨p, _, rfl, rfl, upd_same, repT_put e5 hr⟩⟩⟩
end
end DL

set_option Elab.async false
set_option linter.all false
set_option maxRecDepth 100000
namespace DL
open PySem PySem.Spec L2
variable {K : PySem.W.Frag}

/-! ### what a loop walks, by its items' data -/
/-- while the temporaries θk are there (and the base is as Bp says), J yields the items xs, one after the other -/
structure WalkD (K : PySem.W.Frag) (J : It) (xs : List D) (θk : List SV) (τk : List V) (Bp : Bs → Prop) : Prop where
  na : allD θk = true
  len : θk.length = τk.length
  goes : ∀ b ρ σ θ τ H i, Bp b → Sat K b ρ σ (θk ++ θ) (τk ++ τ) H → i < xs.length → J.go i H
  stops : ∀ b ρ σ θ τ H, Bp b → Sat K b ρ σ (θk ++ θ) (τk ++ τ) H → J.stop xs.length H
  yields : ∀ b ρ σ θ τ H i x v H', Bp b → Sat K b ρ σ (θk ++ θ) (τk ++ τ) H → xs[i]? = some x → J.yld i H v H' → Sat K b ρ σ (.d x :: (θk ++ θ)) (v :: (τk ++ τ)) H'
def WI (K : PySem.W.Frag) (wi : TI) (ρ : List SV) (C : List D → List SV → Prop) : Prop :=
  ∀ b σ H θ τ (R : It → Hp → Prop), Sat K b ρ σ θ τ H → (∀ J xs θk τk ρ' H' (Bp : Bs → Prop), C xs ρ' → Bp b → WalkD K J xs θk τk Bp → Sat K b ρ' σ (θk ++ θ) (τk ++ τ) H' → R J H') → wi σ H R
section
variable {te : TE} {ta : TA} {ρ : List SV} {C : List D → List SV → Prop}
theorem SatG.top {b : Bs} {σ : L2.St} {θ : List SV} {τ : List V} {H G : Hp} {fp fq : List Addr} {x : D} {v : V} (S : SatG K b ρ σ (.d x :: θ) (v :: τ) H G fp fq) : rep K G x v := by
  have tm := S.tm
  cases tm with
  | cons c _ =>
    obtain ⟨_, v', e3, e4⟩ := c
    cases e3
    exact e4
theorem walkD_list {p : Addr} {xs : List D} : WalkD K (Itl K p) xs [.d (.lst xs)] [.ref p] (fun _ => True) where
  na := rfl
  len := rfl
  goes := fun b ρ σ θ τ H i _ S hi => by
    obtain ⟨G, fp, fq, S⟩ := S
    obtain ⟨p', ws, e1, e2, e3⟩ := SatG.top S
    cases e1
    have hl : i < ws.length := by rw [reps_len e3]; exact hi
    exact ⟨ws, ws[i], .inl (.inl (S.gh _ _ e2)), by simp [hl]⟩
  stops := fun b ρ σ θ τ H _ S => by
    obtain ⟨G, fp, fq, S⟩ := S
    obtain ⟨p', ws, e1, e2, e3⟩ := SatG.top S
    cases e1
    exact ⟨ws, .inl (.inl (S.gh _ _ e2)), by rw [reps_len e3]; exact Nat.le_refl _⟩
  yields := fun b ρ σ θ τ H i x v H' _ S hx y => by
    obtain ⟨G, fp, fq, S⟩ := S
    obtain ⟨p', ws, e1, e2, e3⟩ := SatG.top S
    cases e1
    obtain ⟨rfl, hy⟩ := y
    obtain ⟨u, hu, ru⟩ := reps_get e3 hx
    have := hy ws (.inl (.inl (S.gh _ _ e2)))
    rw [hu] at this
    cases this
    exact ⟨G, fp, fq, S.push ru⟩
theorem walkD_tup {p : Addr} {xs : List D} : WalkD K (Itt K p) xs [.d (.tup xs)] [.ref p] (fun _ => True) where
  na := rfl
  len := rfl
  goes := fun b ρ σ θ τ H i _ S hi => by
    obtain ⟨G, fp, fq, S⟩ := S
    obtain ⟨p', ws, e1, e2, e3⟩ := SatG.top S
    cases e1
    have hl : i < ws.length := by rw [reps_len e3]; exact hi
    exact ⟨ws, ws[i], .inl (.inl (S.gh _ _ e2)), by simp [hl]⟩
  stops := fun b ρ σ θ τ H _ S => by
    obtain ⟨G, fp, fq, S⟩ := S
    obtain ⟨p', ws, e1, e2, e3⟩ := SatG.top S
    cases e1
    exact ⟨ws, .inl (.inl (S.gh _ _ e2)), by rw [reps_len e3]; exact Nat.le_refl _⟩
  yields := fun b ρ σ θ τ H i x v H' _ S hx y => by
    obtain ⟨G, fp, fq, S⟩ := S
    obtain ⟨p', ws, e1, e2, e3⟩ := SatG.top S
    cases e1
    obtain ⟨rfl, hy⟩ := y
    obtain ⟨u, hu, ru⟩ := reps_get e3 hx
    have := hy ws (.inl (.inl (S.gh _ _ e2)))
    rw [hu] at this
    cases this
    exact ⟨G, fp, fq, S.push ru⟩
/-- over a list | a tuple: either -/
def iSeq (K : PySem.W.Frag) (te : TE) : TI := fun σ H R => te σ H fun x H1 => (∃ a, x = .ref a ∧ (∃ xs, SqL K H1 a xs) ∧ R (Itl K a) H1) ∨ (∃ a, x = .ref a ∧ (∃ xs, SqT K H1 a xs) ∧ R (Itt K a) H1)
theorem wi_seqL (h : WE K te ρ fun z ρ1 => ∃ xs ρ2, fzT z ρ1 = some (.lst xs, ρ2) ∧ C xs ρ2) : WI K (iSeq K te) ρ C := fun b σ H θ τ R S q =>
  h b σ H θ τ _ S fun z ρ1 v H1 ⟨xs, ρ2, e, k⟩ S1 => by
    obtain ⟨G, fp, fq, S2⟩ := S1.fz e
    obtain ⟨p, ws, e1, e2, e3⟩ := SatG.top S2
    subst e1
    exact .inl ⟨p, rfl, ⟨ws, .inl (.inl (S2.gh _ _ e2))⟩, q _ _ _ _ ρ2 H1 _ k True.intro walkD_list ⟨G, fp, fq, S2⟩⟩
theorem wi_seqT (h : WE K te ρ fun z ρ1 => ∃ xs ρ2, fzT z ρ1 = some (.tup xs, ρ2) ∧ C xs ρ2) : WI K (iSeq K te) ρ C := fun b σ H θ τ R S q =>
  h b σ H θ τ _ S fun z ρ1 v H1 ⟨xs, ρ2, e, k⟩ S1 => by
    obtain ⟨G, fp, fq, S2⟩ := S1.fz e
    obtain ⟨p, ws, e1, e2, e3⟩ := SatG.top S2
    subst e1
    exact .inr ⟨p, rfl, ⟨ws, .inl (.inl (S2.gh _ _ e2))⟩, q _ _ _ _ ρ2 H1 _ k True.intro walkD_tup ⟨G, fp, fq, S2⟩⟩
/-- over range(n) -/
def intsD (lo : Int) (n : Nat) : List D := (List.range n).map fun i => .int (lo + (i : Nat))
theorem walkD_range {lo : Int} {n : Nat} : WalkD K (Itr lo n) (intsD lo n) [] [] (fun _ => True) where
  na := rfl
  len := rfl
  goes := fun b ρ σ θ τ H i _ S hi => by
    show i < n
    simpa [intsD] using hi
  stops := fun b ρ σ θ τ H _ S => by show n ≤ (intsD lo n).length; simp [intsD]
  yields := fun b ρ σ θ τ H i x v H' _ S hx y => by
    obtain ⟨G, fp, fq, S⟩ := S
    obtain ⟨rfl, rfl⟩ := y
    unfold intsD at hx
    rw [List.getElem?_map] at hx
    obtain ⟨j, hj, e⟩ := Option.map_eq_some_iff.mp hx
    have : j = i := by
      have hlt : i < n := by
        have := (List.getElem?_eq_some_iff.mp hj).1
        simpa using this
      rw [List.getElem?_range hlt] at hj
      exact (Option.some.inj hj).symm
    subst this
    subst e
    exact ⟨G, fp, fq, S.push rfl⟩
theorem wi_range1 (h : WA K ta ρ fun zs ρ1 => ∃ z n, zs = [z] ∧ vw z ρ1 = some (.int n) ∧ -(2 ^ 62) ≤ n ∧ n < 2 ^ 62 ∧ C (intsD 0 n.toNat) ρ1) : WI K (iRng1 ta) ρ C := fun b σ H θ τ R S q =>
  h b σ H θ τ _ S fun zs ρ1 vs H1 ⟨z, n, ez, hv, h1, h2, k⟩ S1 hl => by
    subst ez
    obtain ⟨v, rfl⟩ : ∃ v, vs = [v] := by
      cases vs with
      | nil => cases hl
      | cons v r => cases r with
        | nil => exact ⟨v, rfl⟩
        | cons _ _ => cases hl
    have S1 : Sat K b ρ1 σ (z :: θ) (v :: τ) H1 := S1
    obtain ⟨G, fp, fq, e, S2⟩ := S1.vw1 hv
    exact ⟨n, by rw [show v = .int n from e], h1, h2, q _ _ [] [] ρ1 H1 _ k True.intro walkD_range ⟨G, fp, fq, S2⟩⟩
theorem wi_range2 (h : WA K ta ρ fun zs ρ1 => ∃ y z m n, zs = [y, z] ∧ vw y ρ1 = some (.int m) ∧ vw z ρ1 = some (.int n) ∧ -(2 ^ 62) ≤ m ∧ m < 2 ^ 62 ∧ -(2 ^ 62) ≤ n ∧ n < 2 ^ 62 ∧ C (intsD m (n - m).toNat) ρ1) : WI K (iRng2 ta) ρ C := fun b σ H θ τ R S q =>
  h b σ H θ τ _ S fun zs ρ1 vs H1 ⟨y, z, m, n, ez, hv, hv', h1, h2, h3, h4, k⟩ S1 hl => by
    subst ez
    obtain ⟨v, w, rfl⟩ : ∃ v w, vs = [v, w] := by
      match vs, hl with
      | [v, w], _ => exact ⟨v, w, rfl⟩
    have S1 : Sat K b ρ1 σ (z :: y :: θ) (w :: v :: τ) H1 := S1
    obtain ⟨G, fp, fq, e, e', S2⟩ := S1.vw2 hv hv'
    exact ⟨m, n, by rw [show v = .int m from e, show w = .int n from e'], ⟨h1, h2, h3, h4⟩, q _ _ [] [] ρ1 H1 _ k True.intro walkD_range ⟨G, fp, fq, S2⟩⟩
/-- over a text -/
def signs (s : Str) : List D := s.cps.toList.map fun c => .str ⟨#[c]⟩
theorem wi_str (h : WE K te ρ fun z ρ1 => ∃ s, vw z ρ1 = some (.str s) ∧ C (signs s) ρ1) : WI K (iStr te) ρ C := fun b σ H θ τ R S q =>
  h b σ H θ τ _ S fun z ρ1 v H1 ⟨s, hv, k⟩ S1 => by
    obtain ⟨G, fp, fq, e, S2⟩ := S1.vw1 hv
    refine ⟨s, e, q _ _ [] [] ρ1 H1 (fun _ => True) k True.intro ⟨rfl, rfl, fun b ρ σ θ τ H i _ S hi => ?_, fun b ρ σ θ τ H _ S => ?_, fun b ρ σ θ τ H i x v H' _ S hx y => ?_⟩ ⟨G, fp, fq, S2⟩⟩
    · show i < s.cps.size
      simpa [signs] using hi
    · show s.cps.size ≤ (signs s).length
      simp [signs]
    · obtain ⟨G, fp, fq, S⟩ := S
      obtain ⟨rfl, c, hc, rfl⟩ := y
      unfold signs at hx
      rw [List.getElem?_map, Array.getElem?_toList, hc] at hx
      cases hx
      exact ⟨G, fp, fq, S.push rfl⟩
/-- enumerate over a list -/
def enumD (xs : List D) : List D := (List.range xs.length).zipWith (fun i x => .tup [.int (i : Nat), x]) xs
theorem enumD_get {xs : List D} {i : Nat} {x : D} (h : (enumD xs)[i]? = some x) : ∃ y, xs[i]? = some y ∧ x = .tup [.int (i : Nat), y] := by
  unfold enumD at h
  rw [List.getElem?_zipWith] at h
  cases e : xs[i]? with
  | none => rw [e] at h; cases c : (List.range xs.length)[i]? <;> rw [c] at h <;> cases h
  | some y =>
    have hi : i < xs.length := (List.getElem?_eq_some_iff.mp e).1
    rw [e, List.getElem?_range hi] at h
    cases h
    exact ⟨y, rfl, rfl⟩
theorem enumD_len (xs : List D) : (enumD xs).length = xs.length := by simp [enumD]
end

theorem Sat.dropN {b : Bs} {θ : List SV} {τ : List V} : ∀ {θk : List SV} {τk : List V}, θk.length = τk.length → ∀ {ρ : List SV} {σ : L2.St} {H : Hp}, Sat K b ρ σ (θk ++ θ) (τk ++ τ) H → Sat K b ρ σ θ τ H
  | [], [], _, _, _, _, S => S
  | [], _ :: _, h, _, _, _, _ => by cases h
  | _ :: _, [], h, _, _, _, _ => by cases h
  | _ :: r, _ :: t, h, _, _, _, S => Sat.dropN (θk := r) (τk := t) (by simpa using h) (Sat.drop S)

/-! ### for -/
section
variable {wi : TI} {g : TG} {tb : TS} {ρ : List SV} {R : Post}
/-- Iv: what holds ahead of each turn -/
def ForC (K : PySem.W.Frag) (g : TG) (tb : TS) (R : Post) (xs : List D) (ρ1 : List SV) : Prop := ∃ Iv : Nat → List SV → Prop, Iv 0 ρ1 ∧
      (∀ i x ρ2, xs[i]? = some x → Iv i ρ2 → WG K (fun _ => True) g (.d x) ρ2 fun ρ3 => WS K tb ρ3 { R with nx := Iv (i + 1), ct := Iv (i + 1), bk := R.nx }) ∧ ∀ ρ2, Iv xs.length ρ2 → R.nx ρ2
/-- what is walked, at one state -/
def WIat (K : PySem.W.Frag) (wi : TI) (b : Bs) (σ : L2.St) (H : Hp) (θ : List SV) (τ : List V) (C : List D → List SV → Prop) : Prop :=
  ∀ R : It → Hp → Prop, (∀ J xs θk τk ρ' H' (Bp : Bs → Prop), C xs ρ' → Bp b → WalkD K J xs θk τk Bp → Sat K b ρ' σ (θk ++ θ) (τk ++ τ) H' → R J H') → wi σ H R
theorem for_at {b : Bs} {σ : L2.St} {H : Hp} {θ : List SV} {τ : List V} {D : Ends} (na : noAl θ = true) (h : WIat K wi b σ H θ τ (ForC K g tb R)) (q1 : ∀ ρ' σ' H', R.nx ρ' → Sat K b ρ' σ' θ τ H' → D.nx σ' H')
    (q2 : ∀ z ρ' σ' v H', R.rt z ρ' → Sat K b ρ' σ' (z :: θ) (v :: τ) H' → D.rt v H') : tFor wi g tb D σ H :=
  h _ fun J xs θk τk ρ1 H1 Bp ⟨Iv, i0, it, ie⟩ hb W S1 => by
    refine ⟨fun i m σ' H' => m = xs.length - i ∧ i ≤ xs.length ∧ ∃ ρ2, Iv i ρ2 ∧ Sat K b ρ2 σ' (θk ++ θ) (τk ++ τ) H', ⟨xs.length, by simp, Nat.zero_le _, ρ1, i0, S1⟩, ?_⟩
    rintro i m σ' H' ⟨rfl, hi, ρ2, iv, S2⟩
    have nak : noAl (θk ++ θ) = true := noAl_app W.na na
    have dropk : ∀ {ρ : List SV} {σ : L2.St} {H : Hp}, Sat K b ρ σ (θk ++ θ) (τk ++ τ) H → Sat K b ρ σ θ τ H := fun S => S.dropN W.len
    by_cases hlt : i < xs.length
    · refine .inr ⟨W.goes b ρ2 σ' θ τ H' i hb S2 hlt, fun σ3 H3 => ∃ ρ3, Iv (i + 1) ρ3 ∧ Sat K b ρ3 σ3 (θk ++ θ) (τk ++ τ) H3, fun σ3 H3 ⟨ρ3, h1, h2⟩ => ⟨xs.length - (i + 1), by omega, rfl, hlt, ρ3, h1, h2⟩, fun v H3 y => ?_⟩
      have S3 := W.yields b ρ2 σ' θ τ H' i xs[i] v H3 hb S2 (by simp [hlt]) y
      refine it i xs[i] ρ2 (by simp [hlt]) iv b σ' H3 _ _ v _ nak S3 fun ρ3 σ3 H4 hs S4 _ _ => ?_
      refine hs b σ3 H4 _ _ _ nak S4 (fun ρ4 σ4 H5 a s => ⟨ρ4, a, s⟩) (fun z ρ4 σ4 u H5 a s => q2 z ρ4 σ4 u H5 a ?_) (fun ρ4 σ4 H5 a s => q1 ρ4 σ4 H5 a (dropk s)) (fun ρ4 σ4 H5 a s => ⟨ρ4, a, s⟩)
      -- a value is handed back out of the loop
      obtain ⟨G, fp, fq, s⟩ := s
      have hl := W.len
      have tm := s.tm
      cases tm with
      | cons c t =>
        rename_i f1 f2
        rw [List.map_append] at t
        obtain ⟨fa, fb, e, c1, c2⟩ := Cells.split (by simpa using hl) t
        subst e
        refine ⟨G, fp, f1 ++ fb, s.gg, s.hh, s.gh, s.sep, s.fr, s.sl, .cons c c2, fun p hp => s.out p ?_, ?_⟩
        · simp only [List.mem_append] at hp ⊢
          rcases hp with h | h | h
          · exact .inl h
          · exact .inr (.inl h)
          · exact .inr (.inr (.inr h))
        · have nd := s.nd
          simp only [List.nodup_append, List.mem_append] at nd ⊢
          obtain ⟨n1, ⟨n2, ⟨n3, n4, n5⟩, n6⟩, n7⟩ := nd
          refine ⟨n1, ⟨n2, n4, fun a ha c hc => n6 a ha c (.inr hc)⟩, fun a ha c hc => n7 a ha c ?_⟩
          rcases hc with hc | hc
          · exact .inl hc
          · exact .inr (.inr hc)
    · have e : i = xs.length := by omega
      subst e
      exact .inl ⟨W.stops b ρ2 σ' θ τ H' hb S2, q1 ρ2 σ' H' (ie ρ2 iv) (dropk S2)⟩
theorem ws_for (h : WI K wi ρ (ForC K g tb R)) : WS K (tFor wi g tb) ρ R := fun b σ H θ τ D na S q1 q2 _ _ =>
  for_at na (fun R' q => h b σ H θ τ R' S fun J xs θk τk ρ' H' Bp a1 a2 a3 a4 => q J xs θk τk ρ' H' Bp a1 a2 a3 a4) q1 q2
/-- while: Iv holds ahead of each turn, by a number that falls -/
theorem ws_while {c : TT} (Iv : Nat → List SV → Prop) (n : Nat) (i0 : Iv n ρ) (it : ∀ m ρ2, Iv m ρ2 → WT K c ρ2 fun k ρ3 => if k = true then WS K tb ρ3 { R with nx := fun ρ4 => ∃ m', m' < m ∧ Iv m' ρ4, ct := fun ρ4 => ∃ m', m' < m ∧ Iv m' ρ4, bk := R.nx } else R.nx ρ3) : WS K (tWhile c tb) ρ R := fun b σ H θ τ D na S q1 q2 q3 q4 => by
  refine ⟨fun m σ' H' => ∃ ρ2, Iv m ρ2 ∧ Sat K b ρ2 σ' θ τ H', ⟨n, ρ, i0, S⟩, ?_⟩
  rintro m σ' H' ⟨ρ2, iv, S2⟩
  refine it m ρ2 iv b σ' H' θ τ _ S2 fun k ρ3 H3 hk S3 => ?_
  cases k with
  | true =>
    rw [if_pos rfl]
    refine ⟨fun σ4 H4 => ∃ m', m' < m ∧ ∃ ρ4, Iv m' ρ4 ∧ Sat K b ρ4 σ4 θ τ H4, fun σ4 H4 h => h, ?_⟩
    exact (hk : WS K tb ρ3 _) b σ' H3 θ τ _ na S3 (fun ρ4 σ4 H4 ⟨m', h1, h2⟩ s => ⟨m', h1, ρ4, h2, s⟩) q2 (fun ρ4 σ4 H4 a s => q1 ρ4 σ4 H4 a s) (fun ρ4 σ4 H4 ⟨m', h1, h2⟩ s => ⟨m', h1, ρ4, h2, s⟩)
  | false =>
    rw [if_neg Bool.false_ne_true]
    exact q1 ρ3 σ' H3 hk S3
end
end DL

set_option Elab.async false
set_option linter.all false
set_option maxRecDepth 100000
namespace DL
open PySem PySem.Spec L2
variable {K : PySem.W.Frag}

/-! ### comprehensions -/
def wipeS (ρ : List SV) : List Nat → List SV
  | [] => ρ
  | v :: vs => (wipeS ρ vs).set v .any
/-- names of slots, hidden among temporaries while a block runs -/
def hideA : SV → SV
  | .al _ => .any
  | s => s
section
variable {b : Bs} {ρ : List SV} {σ σ' : L2.St} {θ : List SV} {τ : List V} {H G H' G' : Hp} {fp fq : List Addr}
theorem Cells.hide {σ0 σ1 : L2.St} : ∀ {θ : List SV} {τ : List (Option V)} {fq : List Addr}, Cells K G H σ0 θ τ fq → Cells K G H σ1 (θ.map hideA) τ fq
  | [], _, _, .nil => .nil
  | .any :: r, _, _, .cons a t => .cons a (Cells.hide (θ := r) t)
  | .d x :: r, _, _, .cons a t => .cons a (Cells.hide (θ := r) t)
  | .own O :: r, _, _, .cons a t => .cons a (Cells.hide (θ := r) t)
  | .al j :: r, _, _, .cons a t => .cons (s := .any) a.1 (Cells.hide (θ := r) t)
theorem Cells.unhide {σ0 σ1 : L2.St} : ∀ {θ : List SV} {τ : List (Option V)} {fq f0 : List Addr}, Cells K G H σ0 θ τ f0 → Cells K G' H' σ1 (θ.map hideA) τ fq → Cells K G' H' σ0 θ τ fq
  | [], _, _, _, .nil, .nil => .nil
  | .any :: r, _, _, _, .cons _ t, .cons a u => .cons a (Cells.unhide (θ := r) t u)
  | .d x :: r, _, _, _, .cons _ t, .cons a u => .cons a (Cells.unhide (θ := r) t u)
  | .own O :: r, _, _, _, .cons _ t, .cons a u => .cons a (Cells.unhide (θ := r) t u)
  | .al j :: r, _, _, _, .cons c t, .cons a u => .cons (s := .al j) ⟨a, c.2⟩ (Cells.unhide (θ := r) t u)
theorem noAl_hide : ∀ θ : List SV, noAl (θ.map hideA) = true
  | [] => rfl
  | .any :: r => noAl_hide r
  | .d _ :: r => noAl_hide r
  | .own _ :: r => noAl_hide r
  | .al _ :: r => noAl_hide r
theorem Cells.wipe1 {σ0 : L2.St} {i : Nat} {o : Option V} : ∀ {ρ : List SV} {σ : List (Option V)} {fp : List Addr} {i : Nat}, Cells K G H σ0 ρ σ fp → ∃ fp', Cells K G H σ0 (ρ.set i .any) (σ.set i o) fp' ∧ fp'.Sublist fp
  | [], _, _, i, .nil => ⟨[], .nil, .refl _⟩
  | s :: ρ, _, _, 0, .cons (o := o1) (fp := f1) (fq := f2) a r => ⟨f2, .cons (fp := []) rfl r, List.sublist_append_right _ _⟩
  | s :: ρ, _, _, i + 1, .cons (o := o1) (fp := f1) (fq := f2) a r => by
    obtain ⟨f', c, l⟩ := Cells.wipe1 (i := i) r
    exact ⟨f1 ++ f', .cons a c, l.append_left f1⟩
theorem Cells.wipes {σ0 : L2.St} (h : Cells K G H σ0 ρ σ fp) : ∀ vs : List Nat, ∃ fp', Cells K G H σ0 (wipeS ρ vs) (wipe σ vs) fp' ∧ fp'.Sublist fp
  | [] => ⟨fp, h, .refl _⟩
  | v :: vs => by
    obtain ⟨f1, c1, l1⟩ := Cells.wipes h vs
    obtain ⟨f2, c2, l2⟩ := Cells.wipe1 (i := v) (o := none) c1
    exact ⟨f2, c2, l2.trans l1⟩
/-- what is unknown may stand for anything -/
theorem Cells.unwipe1 {σ0 : L2.St} {o : Option V} : ∀ {ρ : List SV} {σ : List (Option V)} {fp : List Addr} {i : Nat}, Cells K G H σ0 ρ (σ.set i none) fp → (∀ s, ρ[i]? = some s → s = .any) → Cells K G H σ0 ρ σ fp
  | [], [], _, i, h, _ => h
  | [], _ :: _, _, 0, h, _ => nomatch h
  | [], _ :: _, _, _ + 1, h, _ => nomatch h
  | _ :: _, [], _, _, h, _ => nomatch h
  | s :: ρ, o1 :: σ, _, 0, .cons (fp := f1) a r, hs => by
    have e := hs s rfl
    subst e
    exact .cons (s := .any) a r
  | s :: ρ, o1 :: σ, _, i + 1, .cons a r, hs => .cons a (Cells.unwipe1 (i := i) (o := o) r fun s h => hs s (by simpa using h))
theorem Cells.unwipes {σ0 : L2.St} : ∀ {vs : List Nat}, Cells K G H σ0 ρ (wipe σ vs) fp → (∀ i ∈ vs, ∀ s, ρ[i]? = some s → s = .any) → Cells K G H σ0 ρ σ fp
  | [], h, _ => h
  | v :: vs, h, hs => Cells.unwipes (vs := vs) (Cells.unwipe1 (i := v) (o := none) h fun s e => hs v (by simp) s e) fun i hi => hs i (by simp [hi])
theorem wipeS_any : ∀ {vs : List Nat} {i : Nat}, i ∈ vs → ∀ s, (wipeS ρ vs)[i]? = some s → s = .any
  | v :: vs, i, h, s, e => by
    unfold wipeS at e
    by_cases hv : v = i
    · subst hv
      rw [List.getElem?_set] at e
      simp only [if_true] at e
      split at e
      · exact (Option.some.inj e).symm
      · cases e
    · rw [List.getElem?_set_ne hv] at e
      rcases List.mem_cons.mp h with q | q
      · exact absurd q.symm hv
      · exact wipeS_any q s e
theorem wipe_same : ∀ {vs : List Nat}, (∀ j, j ∉ vs → σ'[j]? = σ[j]?) → σ'.length = σ.length → wipe σ' vs = wipe σ vs := fun {vs} h hl => by
  refine List.ext_getElem? fun j => ?_
  by_cases hj : j ∈ vs
  · have none_of : ∀ (s : L2.St), (wipe s vs)[j]? = if j < s.length then some none else none := by
      intro s
      clear h hl
      induction vs with
      | nil => simp at hj
      | cons v vs ih =>
        unfold wipe
        by_cases hv : v = j
        · subst hv
          rw [List.getElem?_set]
          simp [wipe_length]
        · rw [List.getElem?_set_ne hv]
          rcases List.mem_cons.mp hj with q | q
          · exact absurd q.symm hv
          · exact ih q
    rw [none_of, none_of, hl]
  · rw [wipe_out hj, wipe_out hj, h j hj]
theorem nodup_sub {l l' : List Addr} {r : List Addr} (s : l.Sublist l') (h : (l' ++ r).Nodup) : (l ++ r).Nodup := List.Nodup.sublist (s.append_right r) h
/-- into the block: its own names forgotten, names of slots hidden -/
theorem Sat.block (S : Sat K b ρ σ θ τ H) (vs : List Nat) : Sat K b (wipeS ρ vs) (wipe σ vs) (θ.map hideA) τ H := by
  obtain ⟨G, fp, fq, S⟩ := S
  obtain ⟨fp', c, l⟩ := S.sl.wipes vs
  refine ⟨G, fp', fq, S.gg, S.hh, S.gh, S.sep, S.fr, c, S.tm.hide, fun p hp => S.out p ?_, nodup_sub l S.nd⟩
  rcases List.mem_append.mp hp with h | h
  · exact List.mem_append_left _ (l.subset h)
  · exact List.mem_append_right _ h
/-- another set of temporaries ahead -/
theorem Sat.unblock {ρ' : List SV} {vs : List Nat} {z : List SV} {u : List V} (S : Sat K b ρ σ θ τ H) (S' : Sat K b ρ' (wipe σ vs) (z ++ θ.map hideA) (u ++ τ) H') (hz : z.length = u.length) (hd : allD z = true) (hs : ∀ i ∈ vs, ∀ s, ρ'[i]? = some s → s = .any) : Sat K b ρ' σ (z ++ θ) (u ++ τ) H' := by
  obtain ⟨G0, fp0, fq0, S⟩ := S
  obtain ⟨G, fp, fq, S'⟩ := S'
  have tm := S'.tm
  rw [List.map_append] at tm
  obtain ⟨fa, fb, e, c1, c2⟩ := Cells.split (by simpa using hz) tm
  refine ⟨G, fp, fq, S'.gg, S'.hh, S'.gh, S'.sep, S'.fr, S'.sl.unwipes hs, ?_, S'.out, S'.nd⟩
  rw [List.map_append, e]
  have na : noAl z = true := by
    have := noAl_app (zs := z) (θ := []) hd rfl
    simpa using this
  exact (c1.noAl_any na).app (S.tm.unhide c2)
/-- slots back alone -/
theorem Sat.wiped {ρ' : List SV} {σ' : L2.St} {vs : List Nat} (S : Sat K b ρ' σ' θ τ H) (na : noAl θ = true) (h : wipe σ' vs = wipe σ vs) : Sat K b (wipeS ρ' vs) (wipe σ vs) θ τ H := by
  obtain ⟨G, fp, fq, S⟩ := S
  obtain ⟨fp', c, l⟩ := S.sl.wipes vs
  rw [h] at c
  refine ⟨G, fp', fq, S.gg, S.hh, S.gh, S.sep, S.fr, c, S.tm.noAl_any na, fun p hp => S.out p ?_, nodup_sub l S.nd⟩
  rcases List.mem_append.mp hp with h | h
  · exact List.mem_append_left _ (l.subset h)
  · exact List.mem_append_right _ h
/-- the one on top goes under some -/
theorem Sat.under {z : SV} {v : V} {θ1 : List SV} {τ1 : List V} (S : Sat K b ρ σ (z :: (θ1 ++ θ)) (v :: (τ1 ++ τ)) H) (hl : θ1.length = τ1.length) : Sat K b ρ σ (θ1 ++ (z :: θ)) (τ1 ++ (v :: τ)) H := by
  obtain ⟨G, fp, fq, S⟩ := S
  have tm := S.tm
  cases tm with
  | cons a r =>
    rename_i f1 f2
    rw [List.map_append] at r
    obtain ⟨fa, fb, e, c1, c2⟩ := Cells.split (by simpa using hl) r
    subst e
    have pm : (fp ++ (fa ++ (f1 ++ fb))).Perm (fp ++ (f1 ++ (fa ++ fb))) := by
      refine List.Perm.append_left fp ?_
      rw [← List.append_assoc, ← List.append_assoc]
      exact List.perm_append_comm.append_right fb
    refine ⟨G, fp, fa ++ (f1 ++ fb), S.gg, S.hh, S.gh, S.sep, S.fr, S.sl, ?_, fun x hx => S.out x (pm.mem_iff.mp hx), pm.nodup_iff.mpr S.nd⟩
    rw [List.map_append]
    exact c1.app (.cons a c2)
/-- an own object among the temporaries may change -/
theorem SatG.mutT {O : Own} {u : V} {θ1 : List SV} {τ1 : List V} (S : SatG K b ρ σ (θ1 ++ (.own O :: θ)) (τ1 ++ (u :: τ)) H G fp fq) (hl : θ1.length = τ1.length) : ∃ f2, O.R K G H u f2 ∧ (∀ p ∈ f2, G p = none) ∧
    ∀ (H' : Hp) (O' : Own), (∀ q, q ∉ f2 → H' q = H q) → O'.R K G H' u f2 → SatG K b ρ σ (θ1 ++ (.own O' :: θ)) (τ1 ++ (u :: τ)) H' G fp fq := by
  have tm := S.tm
  have e0 : (θ1 ++ (SV.own O :: θ))[θ1.length]? = some (.own O) := by simp
  obtain ⟨o, f1, f2, f3, e1, e2, ⟨v, e3, hR⟩, k⟩ := tm.take e0
  have eu : v = u := by
    rw [List.map_append, List.getElem?_append_right (by simp [hl])] at e1
    simp [hl] at e1
    rw [e3] at e1
    exact (Option.some.inj e1).symm
  subst e2 e3 eu
  have nd := S.nd
  have hin : ∀ p ∈ f2, p ∈ fp ++ (f1 ++ (f2 ++ f3)) := fun p hp => by simp [hp]
  have dis : ∀ p ∈ f2, p ∉ fp ∧ p ∉ f1 ∧ p ∉ f3 := fun p hp => by
    simp only [List.nodup_append, List.mem_append] at nd
    obtain ⟨n1, ⟨n2, ⟨n3, n4, n34⟩, n5⟩, n6⟩ := nd
    exact ⟨fun h => n6 p h p (.inr (.inl hp)) rfl, fun h => n5 p h p (.inl hp) rfl, fun h => n34 p hp p h rfl⟩
  refine ⟨f2, hR, fun p hp => (S.out p (hin p hp)).1, fun H' O' hs hR' => ?_⟩
  have tm' := k (.own O') (some v) G H' f2 (Ex.refl G).le (fun p hp => hs p fun q => by
    rcases List.mem_append.mp hp with h | h
    · exact (dis p q).2.1 h
    · exact (dis p q).2.2 h) ⟨v, rfl, hR'⟩
  have es : ((τ1 ++ (v :: τ)).map some).set θ1.length (some v) = (τ1 ++ (v :: τ)).map some := by
    rw [List.map_append, hl, List.set_append_right _ _ (by simp)]
    simp
  rw [es] at tm'
  have et : (θ1 ++ (SV.own O :: θ)).set θ1.length (.own O') = θ1 ++ (.own O' :: θ) := by
    rw [List.set_append_right _ _ (Nat.le_refl _)]
    simp
  rw [et] at tm'
  refine ⟨S.gg, fun p o q => ?_, fun p o q => ?_, S.sep, S.fr, S.sl.loc fun p hp => hs p fun q => (dis p q).1 hp, tm', S.out, nd⟩
  · rw [hs p fun hp => by rw [(S.out p (hin p hp)).2] at q; cases q]
    exact S.hh p o q
  · rw [hs p fun hp => by rw [(S.out p (hin p hp)).1] at q; cases q]
    exact S.gh p o q
theorem hide_allD : ∀ {θ : List SV}, allD θ = true → θ.map hideA = θ
  | [], _ => rfl
  | .d x :: r, h => by rw [List.map_cons, hide_allD (θ := r) h]; rfl
  | .own O :: r, h => by rw [List.map_cons, hide_allD (θ := r) h]; rfl
end

section
variable {wi : TI} {g : TG} {tt : TT} {te tk tv : TE} {vs : List Nat} {ρ : List SV} {C : SV → List SV → Prop}
def LcC (K : PySem.W.Frag) (g : TG) (tt : TT) (te : TE) (vs : List Nat) (C : SV → List SV → Prop) (xs : List D) (ρ1 : List SV) : Prop := xs.length ≤ sizeLine ∧ ∃ Iv : Nat → List SV → List D → Prop, Iv 0 (wipeS ρ1 vs) [] ∧
      (∀ i x ρ2 ds, xs[i]? = some x → Iv i ρ2 ds → WG K (· ∈ vs) g (.d x) ρ2 fun ρ3 => WT K tt ρ3 fun k ρ4 =>
        if k = true then WE K te ρ4 fun z ρ5 => ∃ y ρ6, fzT z ρ5 = some (y, ρ6) ∧ Iv (i + 1) (wipeS ρ6 vs) (ds ++ [y]) else Iv (i + 1) (wipeS ρ4 vs) ds) ∧
      ∀ ρ2 ds, Iv xs.length ρ2 ds → C (.own (ownL ds)) ρ2
theorem lc_at {b : Bs} {σ : L2.St} {H : Hp} {θ : List SV} {τ : List V} {Q : VK} (S : Sat K b ρ σ θ τ H) (h : WIat K wi b σ H θ τ (LcC K g tt te vs C)) (q : ∀ z ρ' v H', C z ρ' → Sat K b ρ' σ (z :: θ) (v :: τ) H' → Q v H') : tLc wi g tt te vs σ H Q :=
  h _ fun J xs θk τk ρ1 H1 Bp ⟨hz, Iv, i0, it, ie⟩ hb W S1 a ha => by
    have start : Sat K b (wipeS ρ1 vs) (wipe σ vs) (θk ++ (.own (ownL []) :: θ.map hideA)) (τk ++ (.ref a :: τ)) (upd H1 a (.lst [])) := by
      obtain ⟨G, fp, fq, S2⟩ := S1
      have S3 : Sat K b ρ1 σ (.own (ownL []) :: (θk ++ θ)) (.ref a :: (τk ++ τ)) (upd H1 a (.lst [])) := ⟨_, fp, _, S2.owned (O := ownL []) ha ⟨a, [], rfl, rfl, upd_same, rfl⟩⟩
      have S4 := (S3.under W.len).block vs
      rw [List.map_append, hide_allD W.na] at S4
      exact S4
    refine ⟨fun i m H' => m = xs.length - i ∧ i ≤ xs.length ∧ ∃ ρ2 ds, Iv i ρ2 ds ∧ ds.length ≤ i ∧ (∀ i ∈ vs, ∀ s, ρ2[i]? = some s → s = .any) ∧ Sat K b ρ2 (wipe σ vs) (θk ++ (.own (ownL ds) :: θ.map hideA)) (τk ++ (.ref a :: τ)) H',
      ⟨xs.length, by simp, Nat.zero_le _, _, [], i0, Nat.le_refl _, fun i hi s e => wipeS_any hi s e, start⟩, ?_⟩
    rintro i m H' ⟨rfl, hi, ρ2, ds, iv, hd, hs, S2⟩
    have na : noAl (θk ++ (.own (ownL ds) :: θ.map hideA)) = true := noAl_app W.na (noAl_hide θ)
    by_cases hlt : i < xs.length
    · refine .inr ⟨W.goes b ρ2 _ _ _ H' i hb S2 hlt, fun H3 => ∃ ρ3 ds', Iv (i + 1) ρ3 ds' ∧ ds'.length ≤ i + 1 ∧ (∀ i ∈ vs, ∀ s, ρ3[i]? = some s → s = .any) ∧ Sat K b ρ3 (wipe σ vs) (θk ++ (.own (ownL ds') :: θ.map hideA)) (τk ++ (.ref a :: τ)) H3,
        fun H3 ⟨ρ3, ds', h1, h2, h3, h4⟩ => ⟨xs.length - (i + 1), by omega, rfl, hlt, ρ3, ds', h1, h2, h3, h4⟩, fun v H3 y => ?_⟩
      have S3 := W.yields b ρ2 _ _ _ H' i xs[i] v H3 hb S2 (by simp [hlt]) y
      refine it i xs[i] ρ2 ds (by simp [hlt]) iv b _ H3 _ _ v _ na S3 fun ρ3 σ3 H4 hs4 S4 ag hlen => ?_
      have hw : wipe σ3 vs = wipe σ vs := wipe_same (fun j hj => (ag j hj).trans (wipe_out hj)) (by rw [hlen, wipe_length])
      refine ⟨hw, hs4 b σ3 H4 _ _ _ S4 fun k ρ4 H5 hk S5 => ?_⟩
      cases k with
      | false =>
        rw [if_neg Bool.false_ne_true]
        exact ⟨_, ds, hk, by omega, fun i hi s e => wipeS_any hi s e, S5.wiped na hw⟩
      | true =>
        rw [if_pos rfl]
        refine (hk : WE K te ρ4 _) b σ3 H5 _ _ _ S5 fun z ρ5 u H6 ⟨y', ρ6, hf, hn⟩ S6 => ?_
        obtain ⟨G, fp, fq, S7⟩ := S6.fz hf
        have hr := SatG.top S7
        obtain ⟨fq', S8⟩ := S7.drop
        obtain ⟨f2, ⟨p, ws, e1, e2, e3, e4⟩, _, kk⟩ := S8.mutT W.len
        cases e1
        subst e2
        refine ⟨ws, e3, by rw [reps_len e4]; omega, _, ds ++ [y'], hn, by simp; omega, fun i hi s e => wipeS_any hi s e, Sat.wiped ⟨G, fp, fq', kk _ (ownL (ds ++ [y'])) (fun c hc => upd_ne (by simpa using hc)) ⟨a, _, rfl, rfl, upd_same, reps_app e4 ⟨u, [], rfl, hr, rfl⟩⟩⟩ (noAl_app W.na (noAl_hide θ)) hw⟩
    · have e : i = xs.length := by omega
      subst e
      refine .inl ⟨W.stops b ρ2 _ _ _ H' hb S2, q _ ρ2 _ H' (ie ρ2 ds iv) ?_⟩
      exact Sat.unblock (z := [.own (ownL ds)]) (u := [.ref a]) S (S2.dropN W.len) rfl rfl hs
theorem we_lc (h : WI K wi ρ (LcC K g tt te vs C)) : WE K (tLc wi g tt te vs) ρ C := fun b σ H θ τ Q S q =>
  lc_at S (fun R' q => h b σ H θ τ R' S q) q
/-- the same for a dict -/
def DcC (K : PySem.W.Frag) (g : TG) (tt : TT) (tk tv : TE) (vs : List Nat) (C : SV → List SV → Prop) (xs : List D) (ρ1 : List SV) : Prop := xs.length ≤ sizeLine ∧ ∃ Iv : Nat → List SV → List (Key × D) → Prop, Iv 0 (wipeS ρ1 vs) [] ∧
      (∀ i x ρ2 ds, xs[i]? = some x → Iv i ρ2 ds → WG K (· ∈ vs) g (.d x) ρ2 fun ρ3 => WT K tt ρ3 fun k ρ4 =>
        if k = true then WE K tk ρ4 fun kz ρ5 => ∃ kd c, kz = .d kd ∧ dkey kd = some c ∧ WE K tv ρ5 fun z ρ6 => ∃ y ρ7, fzT z ρ6 = some (y, ρ7) ∧ Iv (i + 1) (wipeS ρ7 vs) (putD ds c y) else Iv (i + 1) (wipeS ρ4 vs) ds) ∧
      ∀ ρ2 ds, Iv xs.length ρ2 ds → C (.own (ownK ds)) ρ2
theorem dc_at {b : Bs} {σ : L2.St} {H : Hp} {θ : List SV} {τ : List V} {Q : VK} (S : Sat K b ρ σ θ τ H) (h : WIat K wi b σ H θ τ (DcC K g tt tk tv vs C)) (q : ∀ z ρ' v H', C z ρ' → Sat K b ρ' σ (z :: θ) (v :: τ) H' → Q v H') : tDc wi g tt tk tv vs σ H Q :=
  h _ fun J xs θk τk ρ1 H1 Bp ⟨hz, Iv, i0, it, ie⟩ hb W S1 a ha => by
    have start : Sat K b (wipeS ρ1 vs) (wipe σ vs) (θk ++ (.own (ownK []) :: θ.map hideA)) (τk ++ (.ref a :: τ)) (upd H1 a (.dK [])) := by
      obtain ⟨G, fp, fq, S2⟩ := S1
      have S3 : Sat K b ρ1 σ (.own (ownK []) :: (θk ++ θ)) (.ref a :: (τk ++ τ)) (upd H1 a (.dK [])) := ⟨_, fp, _, S2.owned (O := ownK []) ha ⟨a, [], rfl, rfl, upd_same, rfl⟩⟩
      have S4 := (S3.under W.len).block vs
      rw [List.map_append, hide_allD W.na] at S4
      exact S4
    refine ⟨fun i m H' => m = xs.length - i ∧ i ≤ xs.length ∧ ∃ ρ2 ds, Iv i ρ2 ds ∧ ds.length ≤ i ∧ (∀ i ∈ vs, ∀ s, ρ2[i]? = some s → s = .any) ∧ Sat K b ρ2 (wipe σ vs) (θk ++ (.own (ownK ds) :: θ.map hideA)) (τk ++ (.ref a :: τ)) H',
      ⟨xs.length, by simp, Nat.zero_le _, _, [], i0, Nat.le_refl _, fun i hi s e => wipeS_any hi s e, start⟩, ?_⟩
    rintro i m H' ⟨rfl, hi, ρ2, ds, iv, hd, hs, S2⟩
    have na : noAl (θk ++ (.own (ownK ds) :: θ.map hideA)) = true := noAl_app W.na (noAl_hide θ)
    by_cases hlt : i < xs.length
    · refine .inr ⟨W.goes b ρ2 _ _ _ H' i hb S2 hlt, fun H3 => ∃ ρ3 ds', Iv (i + 1) ρ3 ds' ∧ ds'.length ≤ i + 1 ∧ (∀ i ∈ vs, ∀ s, ρ3[i]? = some s → s = .any) ∧ Sat K b ρ3 (wipe σ vs) (θk ++ (.own (ownK ds') :: θ.map hideA)) (τk ++ (.ref a :: τ)) H3,
        fun H3 ⟨ρ3, ds', h1, h2, h3, h4⟩ => ⟨xs.length - (i + 1), by omega, rfl, hlt, ρ3, ds', h1, h2, h3, h4⟩, fun v H3 y => ?_⟩
      have S3 := W.yields b ρ2 _ _ _ H' i xs[i] v H3 hb S2 (by simp [hlt]) y
      refine it i xs[i] ρ2 ds (by simp [hlt]) iv b _ H3 _ _ v _ na S3 fun ρ3 σ3 H4 hs4 S4 ag hlen => ?_
      have hw : wipe σ3 vs = wipe σ vs := wipe_same (fun j hj => (ag j hj).trans (wipe_out hj)) (by rw [hlen, wipe_length])
      refine ⟨hw, hs4 b σ3 H4 _ _ _ S4 fun k ρ4 H5 hk S5 => ?_⟩
      cases k with
      | false =>
        rw [if_neg Bool.false_ne_true]
        exact ⟨_, ds, hk, by omega, fun i hi s e => wipeS_any hi s e, S5.wiped na hw⟩
      | true =>
        rw [if_pos rfl]
        refine (hk : WE K tk ρ4 _) b σ3 H5 _ _ _ S5 fun kz ρ5 ku H6 ⟨kd, c, ek, hc, hv⟩ S6 => ?_
        subst ek
        have eku : ku = kV c := by
          obtain ⟨G, fp, fq, S6⟩ := S6
          exact rep_key hc (SatG.top S6)
        refine hv b σ3 H6 _ _ _ S6.drop fun z ρ6 u H7 ⟨y', ρ7, hf, hn⟩ S7 => ?_
        obtain ⟨G, fp, fq, S7⟩ := S7.fz hf
        have hr := SatG.top S7
        obtain ⟨fq', S8⟩ := S7.drop
        obtain ⟨f2, ⟨p, ws, e1, e2, e3, e4⟩, _, kk⟩ := S8.mutT W.len
        cases e1
        subst e2
        have hput : (putD ds c y').length ≤ ds.length + 1 := by
          unfold putD
          split
          · simp
          · simp
        refine ⟨ws, c, eku, e3, by rw [repK_len e4]; omega, _, putD ds c y', hn, by omega, fun i hi s e => wipeS_any hi s e, Sat.wiped ⟨G, fp, fq', kk _ (ownK (putD ds c y')) (fun c hc => upd_ne (by simpa using hc)) ⟨a, _, rfl, rfl, upd_same, repK_put e4 hr⟩⟩ (noAl_app W.na (noAl_hide θ)) hw⟩
    · have e : i = xs.length := by omega
      subst e
      refine .inl ⟨W.stops b ρ2 _ _ _ H' hb S2, q _ ρ2 _ H' (ie ρ2 ds iv) ?_⟩
      exact Sat.unblock (z := [.own (ownK ds)]) (u := [.ref a]) S (S2.dropN W.len) rfl rfl hs
theorem we_dc (h : WI K wi ρ (DcC K g tt tk tv vs C)) : WE K (tDc wi g tt tk tv vs) ρ C := fun b σ H θ τ Q S q =>
  dc_at S (fun R' q => h b σ H θ τ R' S q) q
end
end DL

set_option Elab.async false
set_option linter.all false
set_option maxRecDepth 100000
namespace L2
open PySem PySem.Spec
/-- locked, or locked already -/
def tLk (t : TS) : TS := fun D σ H => tLock t D σ H ∨ t D σ H
def tLkE (t : TE) : TE := fun σ H Q => tLockE t σ H Q ∨ t σ H Q
theorem ps_lk {X : Cx} {st : Stmt} {t : TS} (h : PS X st t) : PS X st (tLk t) := ⟨fun pins s σ H D I q => by
  rcases q with q | q
  · exact (ps_lock h).run pins s σ H D I q
  · exact h.run pins s σ H D I q⟩
theorem pe_lk {X : Cx} {e : Expr} {t : TE} (h : PE X e t) : PE X e (tLkE t) := ⟨fun pins s σ H Q I q => by
  rcases q with q | q
  · exact (pe_lock h).run pins s σ H Q I q
  · exact h.run pins s σ H Q I q⟩
end L2
namespace DL
open PySem PySem.Spec L2
variable {K : PySem.W.Frag}

/-! ### a dict, locked while it is walked -/
def lkB (b : Bs) (d : Addr) (o u : HO) : Bs := ⟨upd b.G d o, upd b.H d o⟩
section
variable {b : Bs} {ρ : List SV} {σ : L2.St} {θ : List SV} {τ : List V} {H G : Hp} {fp fq : List Addr} {d : Addr} {od : Obj} {ws : List (Key × V)}
theorem le_lock (h : G d = some (.dK ws)) : Le G (upd G d (.frz od (.dK ws))) := ⟨fun a u hu r => by
  by_cases e : a = d
  · subst e
    rcases r with r | ⟨o, r⟩
    · rw [h] at r; cases r; exact .inr ⟨od, upd_same⟩
    · rw [h] at r; cases r
  · rcases r with r | ⟨o, r⟩
    · exact .inl (by rw [upd_ne e]; exact r)
    · exact .inr ⟨o, by rw [upd_ne e]; exact r⟩, fun a o ho r => by
  have e : a ≠ d := fun z => by subst z; rw [h] at r; cases r; cases ho
  rw [upd_ne e]; exact r⟩
theorem le_unlock (h : G d = some (.frz od (.dK ws))) : Le G (upd G d (.dK ws)) := ⟨fun a u hu r => by
  by_cases e : a = d
  · subst e
    rcases r with r | ⟨o, r⟩
    · rw [h] at r; cases r; cases hu
    · rw [h] at r; cases r; exact .inl upd_same
  · rcases r with r | ⟨o, r⟩
    · exact .inl (by rw [upd_ne e]; exact r)
    · exact .inr ⟨o, by rw [upd_ne e]; exact r⟩, fun a o ho r => by
  have e : a ≠ d := fun z => by subst z; rw [h] at r; cases r; cases ho
  rw [upd_ne e]; exact r⟩
theorem SatG.lock (S : SatG K b ρ σ θ τ H G fp fq) (h : G d = some (.dK ws)) : SatG K (lkB b d (.frz od (.dK ws)) (.dK ws)) ρ σ θ τ (upd H d (.frz od (.dK ws))) (upd G d (.frz od (.dK ws))) fp fq := by
  have hd : H d = some (.dK ws) := S.gh _ _ h
  have off : ∀ p ∈ fp ++ fq, p ≠ d := fun p hp e => by
    subst e
    rw [(S.out p hp).1] at h; cases h
  refine ⟨fun p u q => ?_, fun p u q => ?_, fun p u q => ?_, fun p q1 q2 => ?_, fun p o u q => ?_, (S.sl.mono (le_lock h)).loc fun p hp => upd_ne (off p (List.mem_append_left _ hp)), (S.tm.mono (le_lock h)).loc fun p hp => upd_ne (off p (List.mem_append_right _ hp)), fun p hp => ⟨?_, ?_⟩, S.nd⟩
  · have q : upd b.G d (.frz od (.dK ws)) p = some u := q
    by_cases e : p = d
    · subst e; rw [upd_same] at q ⊢; exact q
    · rw [upd_ne e] at q ⊢; exact S.gg p u q
  · have q : upd b.H d (.frz od (.dK ws)) p = some u := q
    by_cases e : p = d
    · subst e; rw [upd_same] at q ⊢; exact q
    · rw [upd_ne e] at q ⊢; exact S.hh p u q
  · by_cases e : p = d
    · subst e; rw [upd_same] at q ⊢; exact q
    · rw [upd_ne e] at q ⊢; exact S.gh p u q
  · have q1 : upd b.H d (.frz od (.dK ws)) p ≠ none := q1
    have q2 : upd b.G d (.frz od (.dK ws)) p = none := q2
    by_cases e : p = d
    · subst e; rw [upd_same] at q2; cases q2
    · rw [upd_ne e] at q1 q2 ⊢; exact S.sep p q1 q2
  · show upd b.G d (.frz od (.dK ws)) p = some (.frz o u)
    by_cases e : p = d
    · subst e; rw [upd_same] at q ⊢; exact q
    · rw [upd_ne e] at q ⊢; exact S.fr p o u q
  · rw [upd_ne (off p hp)]; exact (S.out p hp).1
  · show upd b.H d (.frz od (.dK ws)) p = none
    rw [upd_ne (off p hp)]; exact (S.out p hp).2
/-- what was known of d ahead of the lock -/
structure WasB (b : Bs) (d : Addr) (ws : List (Key × V)) : Prop where
  g : ∀ o, b.G d = some o → o = .dK ws
  h : ∀ o, b.H d = some o → o = .dK ws
  s : b.H d ≠ none → b.G d ≠ none
theorem SatG.was (S : SatG K b ρ σ θ τ H G fp fq) (h : G d = some (.dK ws)) : WasB b d ws :=
  ⟨fun o q => by have := S.gg d o q; rw [h] at this; exact (Option.some.inj this).symm, fun o q => by have := S.hh d o q; rw [S.gh _ _ h] at this; exact (Option.some.inj this).symm, fun q z => by rw [S.sep d q z] at h; cases h⟩
theorem SatG.unlock (S : SatG K (lkB b d (.frz od (.dK ws)) (.dK ws)) ρ σ θ τ H G fp fq) (w : WasB b d ws) : H d = some (.frz od (.dK ws)) ∧ SatG K b ρ σ θ τ (upd H d (.dK ws)) (upd G d (.dK ws)) fp fq := by
  have hG : G d = some (.frz od (.dK ws)) := S.gg d _ (by show upd b.G d _ d = _; exact upd_same)
  have hH : H d = some (.frz od (.dK ws)) := S.hh d _ (by show upd b.H d _ d = _; exact upd_same)
  have off : ∀ p ∈ fp ++ fq, p ≠ d := fun p hp e => by
    subst e
    rw [(S.out p hp).1] at hG; cases hG
  refine ⟨hH, fun p u q => ?_, fun p u q => ?_, fun p u q => ?_, fun p q1 q2 => ?_, fun p o u q => ?_, (S.sl.mono (le_unlock hG)).loc fun p hp => upd_ne (off p (List.mem_append_left _ hp)), (S.tm.mono (le_unlock hG)).loc fun p hp => upd_ne (off p (List.mem_append_right _ hp)), fun p hp => ⟨?_, ?_⟩, S.nd⟩
  · by_cases e : p = d
    · subst e; rw [upd_same, w.g u q]
    · rw [upd_ne e]; exact S.gg p u (by show upd b.G d _ p = some u; rw [upd_ne e]; exact q)
  · by_cases e : p = d
    · subst e; rw [upd_same, w.h u q]
    · rw [upd_ne e]; exact S.hh p u (by show upd b.H d _ p = some u; rw [upd_ne e]; exact q)
  · by_cases e : p = d
    · subst e; rw [upd_same] at q ⊢; exact q
    · rw [upd_ne e] at q ⊢; exact S.gh p u q
  · by_cases e : p = d
    · subst e; exact absurd q2 (w.s q1)
    · rw [upd_ne e]
      refine S.sep p ?_ ?_
      · show upd b.H d _ p ≠ none
        rw [upd_ne e]; exact q1
      · show upd b.G d _ p = none
        rw [upd_ne e]; exact q2
  · by_cases e : p = d
    · subst e; rw [upd_same] at q; cases q
    · rw [upd_ne e] at q
      have := S.fr p o u q
      have : upd b.G d _ p = some (.frz o u) := this
      rw [upd_ne e] at this; exact this
  · rw [upd_ne (off p hp)]; exact (S.out p hp).1
  · have z := (S.out p hp).2
    have z : upd b.H d _ p = none := z
    rw [upd_ne (off p hp)] at z; exact z
theorem Sat.unlock (S : Sat K (lkB b d (.frz od (.dK ws)) (.dK ws)) ρ σ θ τ H) (w : WasB b d ws) : H d = some (.frz od (.dK ws)) ∧ Sat K b ρ σ θ τ (upd H d (.dK ws)) := by
  obtain ⟨G, fp, fq, S⟩ := S
  obtain ⟨h, S'⟩ := S.unlock w
  exact ⟨h, _, fp, fq, S'⟩
end

/-! ### where a walked dict stands -/
def PathK (K : PySem.W.Frag) (td : TE) (ρ : List SV) (kvs : List (Key × D)) : Prop := ∀ b σ θ τ H G fp fq, SatG K b ρ σ θ τ H G fp fq →
  ∃ d ws, Rd G d (.dK ws) ∧ repK K G kvs ws ∧ ∀ (H' : Hp) (Q : VK), (∀ a C dx fs, H a = some (.ins C dx fs) → H' a = some (.ins C dx fs)) → Q (.ref d) H' → td σ H' Q
theorem path_var {ρ : List SV} {i : Nat} {kvs : List (Key × D)} (h : ρ[i]? = some (.d (.dK kvs))) : PathK K (tVar i) ρ kvs := fun b σ θ τ H G fp fq S => by
  obtain ⟨o, f1, f2, f3, e1, e2, ⟨e3, v, e4, p, ws, e5, e6, e7⟩⟩ := S.sl.get h
  subst e4 e5
  exact ⟨p, ws, e6, e7, fun H' Q _ q => ⟨.ref p, e1, q⟩⟩
theorem path_fld {ρ : List SV} {i : Nat} {Ca : Addr} {fs : List (Str × D)} {f : Str} {kvs : List (Key × D)} (h : ρ[i]? = some (.d (.ins Ca fs))) (c1 : Cls K Ca) (c2 : NoAttr K Ca f) (hl : fs.lookup f = some (.dK kvs)) : PathK K (tFld K (tVar i) f) ρ kvs := fun b σ θ τ H G fp fq S => by
  obtain ⟨o, f1, f2, f3, e1, e2, ⟨e3, v, e4, p, dx, fw, e5, e6, e7⟩⟩ := S.sl.get h
  subst e4 e5
  obtain ⟨u, hu, d, ws, e8, e9, e10⟩ := repF_look e7 hl
  subst e8
  exact ⟨d, ws, e9, e10, fun H' Q hi q => ⟨.ref p, e1, p, Ca, dx, fw, .ref d, rfl, hi _ _ _ _ (S.gh _ _ e6), c1, c2, hu, q⟩⟩

/-! ### walks of dicts -/
structure DWalk (K : PySem.W.Frag) (wi : TE → TI) (xsOf : List (Key × D) → List D) : Prop where
  ex : ∃ mk : Addr → Obj → List (Key × V) → It, (∀ (td : TE) (σ : L2.St) (H : Hp) (d : Addr) (o : Obj) (ws : List (Key × V)) (R : It → Hp → Prop), H d = some (.frz o (.dK ws)) → (∀ Q : VK, Q (.ref d) H → td σ H Q) → R (mk d o ws) H → wi td σ H R) ∧
    ∀ (d : Addr) (o : Obj) (ws : List (Key × V)) (kvs : List (Key × D)), WalkD K (mk d o ws) (xsOf kvs) [.d (.dK kvs)] [.ref d] (fun b => b.G d = some (.frz o (.dK ws)))
section
variable {b : Bs} {ρ : List SV} {σ : L2.St} {θ : List SV} {τ : List V} {H G : Hp} {fp fq : List Addr} {d : Addr} {o : Obj} {ws : List (Key × V)} {kvs : List (Key × D)}
theorem topK (hb : b.G d = some (.frz o (.dK ws))) (S : SatG K b ρ σ (.d (.dK kvs) :: θ) (.ref d :: τ) H G fp fq) : G d = some (.frz o (.dK ws)) ∧ repK K G kvs ws := by
  have hg := S.gg _ _ hb
  obtain ⟨p, ws', e1, e2, e3⟩ := SatG.top S
  cases e1
  refine ⟨hg, ?_⟩
  rcases e2 with e2 | ⟨o', e2⟩
  · rw [hg] at e2; cases e2
  · rw [hg] at e2; cases e2; exact e3
theorem dwalk_keys : DWalk K iKeys fun kvs => kvs.map fun p => keyD p.1 := ⟨Itk, fun td σ H d o ws R h ht hR => ht _ ⟨d, o, rfl, .inl ⟨ws, h, hR⟩⟩, fun d o ws kvs => ⟨rfl, rfl, fun b ρ σ θ τ H i hb S hi => by
    obtain ⟨G, fp, fq, S⟩ := S
    obtain ⟨hg, hr⟩ := topK hb S
    exact ⟨S.gh _ _ hg, by rw [repK_len hr]; simpa using hi⟩, fun b ρ σ θ τ H hb S => by
    obtain ⟨G, fp, fq, S⟩ := S
    obtain ⟨hg, hr⟩ := topK hb S
    exact ⟨S.gh _ _ hg, by rw [repK_len hr]; simp⟩, fun b ρ σ θ τ H i x v H' hb S hx y => by
    obtain ⟨G, fp, fq, S⟩ := S
    obtain ⟨hg, hr⟩ := topK hb S
    obtain ⟨rfl, k, v', e1, rfl⟩ := y
    obtain ⟨x', e2, e3⟩ := repK_get hr e1
    rw [List.getElem?_map, e2] at hx
    cases hx
    exact ⟨G, fp, fq, S.push (rep_keyD k)⟩⟩⟩
theorem dwalk_vals : DWalk K iVals fun kvs => kvs.map fun p => p.2 := ⟨Itd, fun td σ H d o ws R h ht hR => ht _ ⟨d, o, ws, rfl, h, hR⟩, fun d o ws kvs => ⟨rfl, rfl, fun b ρ σ θ τ H i hb S hi => by
    obtain ⟨G, fp, fq, S⟩ := S
    obtain ⟨hg, hr⟩ := topK hb S
    exact ⟨S.gh _ _ hg, by rw [repK_len hr]; simpa using hi⟩, fun b ρ σ θ τ H hb S => by
    obtain ⟨G, fp, fq, S⟩ := S
    obtain ⟨hg, hr⟩ := topK hb S
    exact ⟨S.gh _ _ hg, by rw [repK_len hr]; simp⟩, fun b ρ σ θ τ H i x v H' hb S hx y => by
    obtain ⟨G, fp, fq, S⟩ := S
    obtain ⟨hg, hr⟩ := topK hb S
    obtain ⟨rfl, k, e1⟩ := y
    obtain ⟨x', e2, e3⟩ := repK_get hr e1
    rw [List.getElem?_map, e2] at hx
    cases hx
    exact ⟨G, fp, fq, S.push e3⟩⟩⟩
theorem dwalk_items : DWalk K iItems fun kvs => kvs.map fun p => .tup [keyD p.1, p.2] := ⟨Iti, fun td σ H d o ws R h ht hR => ht _ ⟨d, o, ws, rfl, h, hR⟩, fun d o ws kvs => ⟨rfl, rfl, fun b ρ σ θ τ H i hb S hi => by
    obtain ⟨G, fp, fq, S⟩ := S
    obtain ⟨hg, hr⟩ := topK hb S
    exact ⟨S.gh _ _ hg, by rw [repK_len hr]; simpa using hi⟩, fun b ρ σ θ τ H hb S => by
    obtain ⟨G, fp, fq, S⟩ := S
    obtain ⟨hg, hr⟩ := topK hb S
    exact ⟨S.gh _ _ hg, by rw [repK_len hr]; simp⟩, fun b ρ σ θ τ H i x v H' hb S hx y => by
    obtain ⟨G, fp, fq, S⟩ := S
    obtain ⟨hg, hr⟩ := topK hb S
    obtain ⟨T, k, v', e1, rfl, hT, rfl⟩ := y
    obtain ⟨x', e2, e3⟩ := repK_get hr e1
    rw [List.getElem?_map, e2] at hx
    cases hx
    have gT := S.free hT
    exact ⟨_, fp, fq, (S.lay hT).push ⟨T, _, rfl, upd_same, ⟨_, _, rfl, rep_keyD k, _, [], rfl, rep_laid gT e3, rfl⟩⟩⟩⟩⟩
theorem lock_ins (h : H d = some (.dK ws)) : ∀ a C dx fs, H a = some (.ins C dx fs) → upd H d (.frz o (.dK ws)) a = some (.ins C dx fs) := fun a C dx fs e => by
  have ne : a ≠ d := fun z => by subst z; rw [h] at e; cases e
  rw [upd_ne ne]; exact e
/-- for over a dict -/
theorem ws_lkfor {wi : TE → TI} {xsOf : List (Key × D) → List D} {td : TE} {g : TG} {tb : TS} {R : Post} (W : DWalk K wi xsOf) (hp : PathK K td ρ kvs) (h : ForC K g tb R (xsOf kvs) ρ) : WS K (tLk (tFor (wi td) g tb)) ρ R := fun b σ H θ τ D na S q1 q2 _ _ => by
  obtain ⟨mk, w1, w2⟩ := W.ex
  obtain ⟨G, fp, fq, S⟩ := S
  obtain ⟨d, ws, hr, hk, ht⟩ := hp b σ θ τ H G fp fq S
  rcases hr with hr | ⟨o, hr⟩
  · refine .inl ⟨d, .dK ws, S.gh _ _ hr, True.intro, fun od => ?_⟩
    have S1 := S.lock (od := od) hr
    have wb := S.was hr
    refine for_at (K := K) (b := lkB b d (.frz od (.dK ws)) (.dK ws)) (θ := θ) (τ := τ) (R := R) na (fun R' q => ?_) (fun ρ' σ' H' a s => ?_) (fun z ρ' σ' v H' a s => ?_)
    · refine w1 td σ _ d od ws _ upd_same (fun Q q' => ht _ Q (lock_ins (S.gh _ _ hr)) q') ?_
      exact q _ (xsOf kvs) [.d (.dK kvs)] [.ref d] ρ _ _ h (by show upd b.G d _ d = _; exact upd_same) (w2 d od ws kvs) ⟨_, fp, fq, S1.push ⟨d, ws, rfl, .inr ⟨od, upd_same⟩, repK_le (le_lock hr) _ _ hk⟩⟩
    · obtain ⟨e, s'⟩ := s.unlock wb
      exact ⟨e, q1 ρ' σ' _ a s'⟩
    · obtain ⟨e, s'⟩ := s.unlock wb
      exact ⟨e, q2 z ρ' σ' v _ a s'⟩
  · refine .inr (for_at (K := K) (R := R) na (fun R' q => ?_) q1 q2)
    refine w1 td σ _ d o ws _ (S.gh _ _ hr) (fun Q q' => ht _ Q (fun _ _ _ _ e => e) q') ?_
    exact q _ (xsOf kvs) [.d (.dK kvs)] [.ref d] ρ _ _ h (S.fr _ _ _ hr) (w2 d o ws kvs) ⟨_, fp, fq, S.push ⟨d, ws, rfl, .inr ⟨o, hr⟩, hk⟩⟩
/-- comprehensions over a dict -/
theorem we_lklc {wi : TE → TI} {xsOf : List (Key × D) → List D} {td te : TE} {g : TG} {tt : TT} {vs : List Nat} {C : SV → List SV → Prop} (W : DWalk K wi xsOf) (hp : PathK K td ρ kvs) (h : LcC K g tt te vs C (xsOf kvs) ρ) : WE K (tLkE (tLc (wi td) g tt te vs)) ρ C := fun b σ H θ τ Q S q => by
  obtain ⟨mk, w1, w2⟩ := W.ex
  obtain ⟨G, fp, fq, S⟩ := S
  obtain ⟨d, ws, hr, hk, ht⟩ := hp b σ θ τ H G fp fq S
  rcases hr with hr | ⟨o, hr⟩
  · refine .inl ⟨d, .dK ws, S.gh _ _ hr, True.intro, fun od => ?_⟩
    have S1 := S.lock (od := od) hr
    have wb := S.was hr
    refine lc_at (K := K) (b := lkB b d (.frz od (.dK ws)) (.dK ws)) (θ := θ) (τ := τ) (C := C) ⟨_, fp, fq, S1⟩ (fun R' q => ?_) (fun z ρ' v H' a s => ?_)
    · refine w1 td σ _ d od ws _ upd_same (fun Q q' => ht _ Q (lock_ins (S.gh _ _ hr)) q') ?_
      exact q _ (xsOf kvs) [.d (.dK kvs)] [.ref d] ρ _ _ h (by show upd b.G d _ d = _; exact upd_same) (w2 d od ws kvs) ⟨_, fp, fq, S1.push ⟨d, ws, rfl, .inr ⟨od, upd_same⟩, repK_le (le_lock hr) _ _ hk⟩⟩
    · obtain ⟨e, s'⟩ := s.unlock wb
      exact ⟨e, q z ρ' v _ a s'⟩
  · refine .inr (lc_at (K := K) (C := C) ⟨G, fp, fq, S⟩ (fun R' q => ?_) q)
    refine w1 td σ _ d o ws _ (S.gh _ _ hr) (fun Q q' => ht _ Q (fun _ _ _ _ e => e) q') ?_
    exact q _ (xsOf kvs) [.d (.dK kvs)] [.ref d] ρ _ _ h (S.fr _ _ _ hr) (w2 d o ws kvs) ⟨_, fp, fq, S.push ⟨d, ws, rfl, .inr ⟨o, hr⟩, hk⟩⟩
theorem we_lkdc {wi : TE → TI} {xsOf : List (Key × D) → List D} {td tk tv : TE} {g : TG} {tt : TT} {vs : List Nat} {C : SV → List SV → Prop} (W : DWalk K wi xsOf) (hp : PathK K td ρ kvs) (h : DcC K g tt tk tv vs C (xsOf kvs) ρ) : WE K (tLkE (tDc (wi td) g tt tk tv vs)) ρ C := fun b σ H θ τ Q S q => by
  obtain ⟨mk, w1, w2⟩ := W.ex
  obtain ⟨G, fp, fq, S⟩ := S
  obtain ⟨d, ws, hr, hk, ht⟩ := hp b σ θ τ H G fp fq S
  rcases hr with hr | ⟨o, hr⟩
  · refine .inl ⟨d, .dK ws, S.gh _ _ hr, True.intro, fun od => ?_⟩
    have S1 := S.lock (od := od) hr
    have wb := S.was hr
    refine dc_at (K := K) (b := lkB b d (.frz od (.dK ws)) (.dK ws)) (θ := θ) (τ := τ) (C := C) ⟨_, fp, fq, S1⟩ (fun R' q => ?_) (fun z ρ' v H' a s => ?_)
    · refine w1 td σ _ d od ws _ upd_same (fun Q q' => ht _ Q (lock_ins (S.gh _ _ hr)) q') ?_
      exact q _ (xsOf kvs) [.d (.dK kvs)] [.ref d] ρ _ _ h (by show upd b.G d _ d = _; exact upd_same) (w2 d od ws kvs) ⟨_, fp, fq, S1.push ⟨d, ws, rfl, .inr ⟨od, upd_same⟩, repK_le (le_lock hr) _ _ hk⟩⟩
    · obtain ⟨e, s'⟩ := s.unlock wb
      exact ⟨e, q z ρ' v _ a s'⟩
  · refine .inr (dc_at (K := K) (C := C) ⟨G, fp, fq, S⟩ (fun R' q => ?_) q)
    refine w1 td σ _ d o ws _ (S.gh _ _ hr) (fun Q q' => ht _ Q (fun _ _ _ _ e => e) q') ?_
    exact q _ (xsOf kvs) [.d (.dK kvs)] [.ref d] ρ _ _ h (S.fr _ _ _ hr) (w2 d o ws kvs) ⟨_, fp, fq, S.push ⟨d, ws, rfl, .inr ⟨o, hr⟩, hk⟩⟩
end
end DL

set_option Elab.async false
set_option linter.all false
/-! the order of texts, sorting -/
namespace DL
open PySem PySem.Spec
def ltS (a b : Str) : Bool := ltCps a.cps.toList b.cps.toList
theorem ltS_iff {a b : Str} : ltS a b = true ↔ a.cps.toList < b.cps.toList := by
  unfold ltS; rw [PyProof.Rows.ltCps_eq]; exact decide_eq_true_iff
theorem ltS_dec (a b : Str) : ltS a b = decide (a.cps.toList < b.cps.toList) := by unfold ltS; rw [PyProof.Rows.ltCps_eq]
theorem ltS_irr (a : Str) : ltS a a = false := by
  cases h : ltS a a with
  | false => rfl
  | true => exact absurd (ltS_iff.mp h) (List.lt_irrefl _)
theorem ltS_trans {a b c : Str} (h : ltS a b = true) (h' : ltS b c = true) : ltS a c = true :=
  ltS_iff.mpr (List.lt_trans (ltS_iff.mp h) (ltS_iff.mp h'))
theorem str_ext {a b : Str} (h : a.cps.toList = b.cps.toList) : a = b := by
  cases a; cases b; congr; exact Array.ext' h
theorem ltS_tri (a b : Str) : ltS a b = true ∨ a = b ∨ ltS b a = true := by
  by_cases h1 : a.cps.toList < b.cps.toList
  · exact .inl (ltS_iff.mpr h1)
  · by_cases h2 : b.cps.toList < a.cps.toList
    · exact .inr (.inr (ltS_iff.mpr h2))
    · exact .inr (.inl (str_ext (List.le_antisymm h2 h1)))
theorem ltS_asymm {a b : Str} (h : ltS a b = true) : ltS b a = false := by
  cases h' : ltS b a with
  | false => rfl
  | true => have := ltS_trans h h'; rw [ltS_irr] at this; cases this
def insS (x : Str) : List Str → List Str
  | [] => [x]
  | y :: r => if ltS y x = true then y :: insS x r else x :: y :: r
def sortS : List Str → List Str
  | [] => []
  | x :: r => insS x (sortS r)
/-- no earlier one above a later one -/
abbrev Asc (l : List Str) : Prop := l.Pairwise fun a b => ltS b a = false
theorem insS_perm (x : Str) : ∀ l, (insS x l).Perm (x :: l)
  | [] => .refl _
  | y :: r => by
    unfold insS
    split
    · exact ((insS_perm x r).cons y).trans (.swap x y r)
    · exact .refl _
theorem sortS_perm : ∀ l, (sortS l).Perm l
  | [] => .refl _
  | x :: r => (insS_perm x (sortS r)).trans ((sortS_perm r).cons x)
theorem le_trans' {a b c : Str} (h : ltS b a = false) (h' : ltS c b = false) : ltS c a = false := by
  cases h2 : ltS c a with
  | false => rfl
  | true =>
    rcases ltS_tri a b with q | q | q
    · have := ltS_trans h2 q; rw [h'] at this; cases this
    · subst q; rw [h'] at h2; cases h2
    · rw [h] at q; cases q
theorem insS_asc (x : Str) : ∀ l, Asc l → Asc (insS x l)
  | [], _ => List.pairwise_singleton _ _
  | y :: r, h => by
    obtain ⟨h1, h2⟩ := List.pairwise_cons.mp h
    unfold insS
    split
    · rename_i hy
      refine List.pairwise_cons.mpr ⟨fun a ha => ?_, insS_asc x r h2⟩
      rcases List.mem_cons.mp ((insS_perm x r).mem_iff.mp ha) with e | e
      · subst e; exact ltS_asymm hy
      · exact h1 a e
    · rename_i hy
      have hy' : ltS y x = false := by simpa using hy
      refine List.pairwise_cons.mpr ⟨fun a ha => ?_, h⟩
      rcases List.mem_cons.mp ha with e | e
      · subst e; exact hy'
      · exact le_trans' hy' (h1 a e)
theorem sortS_asc : ∀ l, Asc (sortS l)
  | [] => .nil
  | x :: r => insS_asc x _ (sortS_asc r)
theorem asc_uniq : ∀ {l m : List Str}, l.Perm m → Asc l → Asc m → l = m
  | [], m, p, _, _ => (List.Perm.eq_nil p.symm).symm
  | x :: l, [], p, _, _ => absurd p.length_eq (by simp)
  | x :: l, y :: m, p, hl, hm => by
    obtain ⟨l1, l2⟩ := List.pairwise_cons.mp hl
    obtain ⟨m1, m2⟩ := List.pairwise_cons.mp hm
    have e : x = y := by
      rcases List.mem_cons.mp (p.mem_iff.mp (List.mem_cons_self (a := x) (l := l))) with e | hx
      · exact e
      · rcases List.mem_cons.mp (p.mem_iff.mpr (List.mem_cons_self (a := y) (l := m))) with e | hy
        · exact e.symm
        · rcases ltS_tri x y with q | q | q
          · have := m1 x hx; rw [q] at this; cases this
          · exact q
          · have := l1 y hy; rw [q] at this; cases this
    subst e
    rw [asc_uniq p.cons_inv l2 m2]
theorem rising_asc : ∀ (p : Str) (l : List Str), PyProof.Rows.risingS p l = true → Asc (p :: l)
  | p, [], _ => List.pairwise_singleton _ _
  | p, x :: r, h => by
    have h : (!ltCps x.cps.toList p.cps.toList && PyProof.Rows.risingS x r) = true := h
    rw [Bool.and_eq_true] at h
    have h1 : ltS x p = false := by
      have := h.1
      unfold ltS
      cases q : ltCps x.cps.toList p.cps.toList with
      | false => rfl
      | true => rw [q] at this; cases this
    have h2 := rising_asc x r h.2
    refine List.pairwise_cons.mpr ⟨fun a ha => ?_, h2⟩
    rcases List.mem_cons.mp ha with e | e
    · subst e; exact h1
    · exact le_trans' h1 ((List.pairwise_cons.mp h2).1 a e)
theorem sortedS_asc {l : List Str} (h : PyProof.Rows.sortedS l = true) : Asc l := by
  cases l with
  | nil => exact .nil
  | cons x r => exact rising_asc x r h
theorem sortS_is {ys xs : List Str} (p : ys.Perm xs) (h : PyProof.Rows.sortedS ys = true) : ys = sortS xs :=
  asc_uniq (p.trans (sortS_perm xs).symm) (sortedS_asc h) (sortS_asc xs)
theorem sortS_len (l : List Str) : (sortS l).length = l.length := (sortS_perm l).length_eq
theorem sortS_mem {l : List Str} {x : Str} : x ∈ sortS l ↔ x ∈ l := (sortS_perm l).mem_iff
theorem sortS_of_asc {l : List Str} (h : Asc l) : sortS l = l := asc_uniq (sortS_perm l) (sortS_asc l) h
end DL

set_option Elab.async false
set_option linter.all false
set_option maxRecDepth 100000
namespace L2
open PySem PySem.Spec
variable {X : Cx}
def rEqA (K : PySem.W.Frag) : R2 := fun x y H Q => rEq x y H Q ∨ rEqD K x y H Q
def rNeA (K : PySem.W.Frag) : R2 := fun x y H Q => rNe x y H Q ∨ rNeD K x y H Q
theorem op_eqA (hu : X.A.units + 64 < cLine) : OpR X (compareOp .Eq) (rEqA X.K) := op_eq.or (op_eqD hu)
theorem op_neA (hu : X.A.units + 64 < cLine) : OpR X (compareOp .NotEq) (rNeA X.K) := op_ne.or (op_neD hu)
def rSortedA (K : PySem.W.Frag) : List V → Hp → VK → Prop := fun xs H Q => rSortedS K xs H Q ∨ (∃ (a : Addr) (kvs : List (Key × V)) (ks : List Str), xs = [.ref a] ∧ Rd H a (.dK kvs) ∧ kvs.map (·.1) = ks.map Sum.inr ∧ ks.length < 64 ∧
    ∀ ys p, ys.Perm ks → PyProof.Rows.sortedS ys = true → H p = none → Q (.ref p) (upd H p (.lst (ys.map V.str))))
theorem cr_sortedA (hc : X.calm = true) : CallR X (.builtin "sorted") (rSortedA X.K) := cr_sortedS.or (call_sortedD hc)
def rTupA (K : PySem.W.Frag) : List V → Hp → VK → Prop := fun xs H Q => ∃ p ys, xs = [.ref p] ∧ ((SqL K H p ys ∧ ∀ l, H l = none → Q (.ref l) (upd H l (.tup ys))) ∨ (SqT K H p ys ∧ Q (.ref p) H))
theorem call_tupA : CallR X (.type "tuple") (rTupA X.K) := call_tuple_of
def rIsiA (K : PySem.W.Frag) : List V → Hp → VK → Prop := fun xs H Q => rIsi K xs H Q ∨ rIsiT K xs H Q
theorem call_isiA : CallR X (.builtin "isinstance") (rIsiA X.K) := call_isi.or call_isiT
def rInt1 : List V → Hp → VK → Prop := fun xs H Q => (∃ i, xs = [.int i] ∧ Q (.int i) H) ∨ ∃ k, xs = [.bl k] ∧ Q (.int (if k then 1 else 0)) H
theorem call_intA : CallR X (.type "int") rInt1 := call_int1
end L2
namespace DL
open PySem PySem.Spec L2
variable {K : PySem.W.Frag}

/-! ### == of data of any depth -/
mutual
def py : D → Option PyData
  | .non => some .none
  | .bl b => some (.bool b)
  | .int i => some (.int i)
  | .str s => some (.str s)
  | .lst xs => (pys xs).map .list
  | .tup xs => (pys xs).map .tuple
  | _ => none
def pys : List D → Option (List PyData)
  | [] => some []
  | x :: xs => match py x, pys xs with
    | some d, some ds => some (d :: ds)
    | _, _ => none
end
section
variable {G H : Hp}
mutual
theorem dp_of (e : Ex G H) : ∀ (x : D) (v : V) (d : PyData), rep K G x v → py x = some d → Dp K H v d
  | .non, v, d, r, h => by cases h; rw [show v = _ from r]; exact .non
  | .bl b, v, d, r, h => by cases h; rw [show v = _ from r]; exact .bl b
  | .int i, v, d, r, h => by cases h; rw [show v = _ from r]; exact .int i
  | .str s, v, d, r, h => by cases h; rw [show v = _ from r]; exact .str s
  | .lst xs, v, d, ⟨p, vs, e1, e2, e3⟩, h => by
    obtain ⟨ds, h1, h2⟩ := Option.map_eq_some_iff.mp (show (pys xs).map PyData.list = some d from h)
    subst e1 h2
    exact .lst (.inl (.inl (e _ _ e2))) (dps_of e xs vs ds e3 h1)
  | .tup xs, v, d, ⟨p, vs, e1, e2, e3⟩, h => by
    obtain ⟨ds, h1, h2⟩ := Option.map_eq_some_iff.mp (show (pys xs).map PyData.tuple = some d from h)
    subst e1 h2
    exact .tup (.inl (.inl (e _ _ e2))) (dps_of e xs vs ds e3 h1)
  | .dK _, _, _, _, h => by cases h
  | .dT _, _, _, _, h => by cases h
  | .ins _ _, _, _, _, h => by cases h
  | .kl _, _, _, _, h => by cases h
  | .kt _, _, _, _, h => by cases h
  | .raw _, _, _, _, h => by cases h
theorem dps_of (e : Ex G H) : ∀ (xs : List D) (vs : List V) (ds : List PyData), reps K G xs vs → pys xs = some ds → DpAll K H vs ds
  | [], vs, ds, r, h => by cases h; rw [show vs = [] from r]; exact .nil
  | x :: xs, vs, ds, ⟨v, t, e1, e2, e3⟩, h => by
    have h : (match py x, pys xs with
      | some d, some ds => some (d :: ds)
      | _, _ => none) = some ds := h
    cases a : py x with
    | none => rw [a] at h; cases h
    | some d =>
      cases c : pys xs with
      | none => rw [a, c] at h; cases h
      | some ds' =>
        rw [a, c] at h
        cases h
        subst e1
        exact .cons (dp_of e x v d e2 a) (dps_of e xs t ds' e3 c)
end
theorem dp_ofS (e : Ex G H) {x : D} {v : V} {d : PyData} (r : repS K G H x v) (h : py x = some d) : Dp K H v d := by
  cases x with
  | lst xs =>
    obtain ⟨p, vs, e1, e2, e3⟩ := r
    obtain ⟨ds, h1, h2⟩ := Option.map_eq_some_iff.mp (show (pys xs).map PyData.list = some d from h)
    subst e1 h2
    exact .lst (.inl (.inl e2)) (dps_of e xs vs ds e3 h1)
  | dK _ => cases h
  | dT _ => cases h
  | non => exact dp_of e _ v d r h
  | bl b => exact dp_of e _ v d r h
  | int i => exact dp_of e _ v d r h
  | str s => exact dp_of e _ v d r h
  | tup xs => exact dp_of e _ v d r h
  | ins _ _ => cases h
  | kl _ => cases h
  | kt _ => cases h
  | raw _ => cases h
end
section
variable {ρ : List SV} {C : SV → List SV → Prop} {x y z : SV}
theorem w2_eqA1 (h : W2 K rEq x y ρ C) : W2 K (rEqA K) x y ρ C := w2_inl h
theorem w2_neA1 (h : W2 K rNe x y ρ C) : W2 K (rNeA K) x y ρ C := w2_inl h
theorem w2_eqD {p q : D} {d e : PyData} (hx : vw x ρ = some p) (hy : vw y ρ = some q) (hp : py p = some d) (hq : py q = some e) (sd : SeqAt.shaped d = true) (se : SeqAt.shaped e = true) (k : C (.d (.bl (PyData.eqv d e))) ρ) : W2 K (rEqA K) x y ρ C := fun b σ H θ τ v w Q S q => by
  obtain ⟨G, fp, fq, r, r', S'⟩ := S.vw2 hx hy
  exact .inr ⟨d, e, dp_ofS S'.gh r hp, dp_ofS S'.gh r' hq, sd, se, q _ ρ _ H k ⟨G, fp, fq, S'.push rfl⟩⟩
theorem w2_neD {p q : D} {d e : PyData} (hx : vw x ρ = some p) (hy : vw y ρ = some q) (hp : py p = some d) (hq : py q = some e) (sd : SeqAt.shaped d = true) (se : SeqAt.shaped e = true) (k : C (.d (.bl (!PyData.eqv d e))) ρ) : W2 K (rNeA K) x y ρ C := fun b σ H θ τ v w Q S q => by
  obtain ⟨G, fp, fq, r, r', S'⟩ := S.vw2 hx hy
  exact .inr ⟨d, e, dp_ofS S'.gh r hp, dp_ofS S'.gh r' hq, sd, se, q _ ρ _ H k ⟨G, fp, fq, S'.push rfl⟩⟩
/-- texts that can be laid -/
def okS (l : List Str) : Prop := ∀ s ∈ l, PyData.strOk s = true
theorem pys_strs (l : List Str) : pys (l.map D.str) = some (l.map PyData.str) := by
  induction l with
  | nil => rfl
  | cons a r ih =>
    show (match py (.str a), pys (r.map D.str) with
      | some d, some ds => some (d :: ds)
      | _, _ => none) = _
    rw [ih]; rfl
theorem lay_strs {l : List Str} (h : okS l) : PyData.canLayAll0 (l.map PyData.str) = true := by
  induction l with
  | nil => rfl
  | cons a r ih =>
    show (PyData.canLay0 (.str a) && PyData.canLayAll0 (r.map PyData.str)) = true
    rw [ih fun s hs => h s (by simp [hs]), Bool.and_true]
    simp only [PyData.canLay0]
    exact h a (by simp)
theorem depth_strs (l : List Str) : PyData.depthAll (l.map PyData.str) ≤ 1 := by
  induction l with
  | nil => simp [PyData.depthAll]
  | cons a r ih =>
    simp only [List.map_cons, PyData.depthAll, PyData.depth]
    omega
theorem eqv_strs : ∀ l m : List Str, PyData.eqvAll (l.map PyData.str) (m.map PyData.str) = decide (l = m)
  | [], [] => rfl
  | [], _ :: _ => rfl
  | _ :: _, [] => rfl
  | a :: r, c :: t => by
    show (PyData.eqv (.str a) (.str c) && PyData.eqvAll (r.map PyData.str) (t.map PyData.str)) = _
    rw [eqv_strs r t]
    simp only [PyData.eqv]
    by_cases e : a = c
    · subst e; by_cases e2 : r = t
      · subst e2; simp
      · simp [e2]
    · simp [e]
theorem shaped_lstS {l : List Str} (h : okS l) : SeqAt.shaped (.list (l.map PyData.str)) = true := by
  unfold SeqAt.shaped
  have := depth_strs l
  rw [Bool.and_eq_true]
  refine ⟨by simp only [PyData.canLay0]; exact lay_strs h, decide_eq_true ?_⟩
  simp only [PyData.depth]; omega
theorem shaped_tupS {l : List Str} (h : okS l) : SeqAt.shaped (.tuple (l.map PyData.str)) = true := by
  unfold SeqAt.shaped
  have := depth_strs l
  rw [Bool.and_eq_true]
  refine ⟨by simp only [PyData.canLay0]; exact lay_strs h, decide_eq_true ?_⟩
  simp only [PyData.depth]; omega
theorem w2_eqLS {l m : List Str} (hx : vw x ρ = some (.lst (l.map D.str))) (hy : vw y ρ = some (.lst (m.map D.str))) (sl : okS l) (sm : okS m) (k : C (.d (.bl (decide (l = m)))) ρ) : W2 K (rEqA K) x y ρ C :=
  w2_eqD hx hy (d := .list (l.map PyData.str)) (e := .list (m.map PyData.str)) (by show (pys _).map _ = _; rw [pys_strs]; rfl) (by show (pys _).map _ = _; rw [pys_strs]; rfl) (shaped_lstS sl) (shaped_lstS sm) (by
    simp only [PyData.eqv]; rw [eqv_strs]; exact k)
theorem w2_neLS {l m : List Str} (hx : vw x ρ = some (.lst (l.map D.str))) (hy : vw y ρ = some (.lst (m.map D.str))) (sl : okS l) (sm : okS m) (k : C (.d (.bl (!decide (l = m)))) ρ) : W2 K (rNeA K) x y ρ C :=
  w2_neD hx hy (d := .list (l.map PyData.str)) (e := .list (m.map PyData.str)) (by show (pys _).map _ = _; rw [pys_strs]; rfl) (by show (pys _).map _ = _; rw [pys_strs]; rfl) (shaped_lstS sl) (shaped_lstS sm) (by
    simp only [PyData.eqv]; rw [eqv_strs]; exact k)
theorem w2_eqTS {l m : List Str} (hx : vw x ρ = some (.tup (l.map D.str))) (hy : vw y ρ = some (.tup (m.map D.str))) (sl : okS l) (sm : okS m) (k : C (.d (.bl (decide (l = m)))) ρ) : W2 K (rEqA K) x y ρ C :=
  w2_eqD hx hy (d := .tuple (l.map PyData.str)) (e := .tuple (m.map PyData.str)) (by show (pys _).map _ = _; rw [pys_strs]; rfl) (by show (pys _).map _ = _; rw [pys_strs]; rfl) (shaped_tupS sl) (shaped_tupS sm) (by
    simp only [PyData.eqv]; rw [eqv_strs]; exact k)

/-! ### calls of built-ins -/
theorem one1 {vs : List V} (h : [x].length = vs.length) : ∃ v, vs = [v] := by
  match vs, h with
  | [v], _ => exact ⟨v, rfl⟩
theorem two2 {vs : List V} (h : [x, y].length = vs.length) : ∃ v w, vs = [v, w] := by
  match vs, h with
  | [v, w], _ => exact ⟨v, w, rfl⟩
theorem wr_list {xs : List D} (h : vw x ρ = some (.lst xs) ∨ vw x ρ = some (.tup xs)) (k : C (.own (ownL xs)) ρ) : WR K (rListA K) [x] ρ C := fun b σ H θ τ vs Q S hl q => by
  obtain ⟨v, rfl⟩ := one1 hl
  have S : Sat K b ρ σ (x :: θ) (v :: τ) H := S
  rcases h with h | h
  · obtain ⟨G, fp, fq, ⟨p, ws, e1, e2, e3⟩, S'⟩ := S.vw1 h
    exact .inl ⟨p, ws, by rw [e1], .inl (.inl (.inl e2)), fun a ha => q _ ρ _ _ k ⟨G, fp, _, S'.owned (O := ownL xs) ha ⟨a, ws, rfl, rfl, upd_same, e3⟩⟩⟩
  · obtain ⟨G, fp, fq, ⟨p, ws, e1, e2, e3⟩, S'⟩ := S.vw1 h
    exact .inl ⟨p, ws, by rw [e1], .inr (.inl (.inl (S'.gh _ _ e2))), fun a ha => q _ ρ _ _ k ⟨G, fp, _, S'.owned (O := ownL xs) ha ⟨a, ws, rfl, rfl, upd_same, e3⟩⟩⟩
theorem wr_listK {xs : List D} (h : vw x ρ = some (.kl xs)) (k : C (.own (ownL xs)) ρ) : WR K (rListA K) [x] ρ C := fun b σ H θ τ vs Q S hl q => by
  obtain ⟨v, rfl⟩ := one1 hl
  have S : Sat K b ρ σ (x :: θ) (v :: τ) H := S
  obtain ⟨G, fp, fq, ⟨p, ws, e1, e2, e3⟩, S'⟩ := S.vw1 h
  exact .inl ⟨p, ws, by rw [e1], .inl (S'.gh.le.sqL e2), fun a ha => q _ ρ _ _ k ⟨G, fp, _, S'.owned (O := ownL xs) ha ⟨a, ws, rfl, rfl, upd_same, e3⟩⟩⟩
theorem reps_keyDs {G : Hp} : ∀ {kvs : List (Key × D)} {ws : List (Key × V)}, repK K G kvs ws → reps K G (kvs.map fun p => keyD p.1) (ws.map fun kv => kV kv.1)
  | [], ws, h => by rw [show ws = [] from h]; rfl
  | (c, a) :: r, ws, ⟨v, t, e1, e2, e3⟩ => by rw [e1]; exact ⟨_, _, rfl, rep_keyD c, reps_keyDs e3⟩
theorem wr_listD {kvs : List (Key × D)} (h : vw x ρ = some (.dK kvs)) (k : C (.own (ownL (kvs.map fun p => keyD p.1))) ρ) : WR K (rListA K) [x] ρ C := fun b σ H θ τ vs Q S hl q => by
  obtain ⟨v, rfl⟩ := one1 hl
  have S : Sat K b ρ σ (x :: θ) (v :: τ) H := S
  obtain ⟨G, fp, fq, ⟨p, ws, e1, e2, e3⟩, S'⟩ := S.vw1 h
  exact .inr ⟨p, ws, by rw [e1], e2, fun a ha => q _ ρ _ _ k ⟨G, fp, _, S'.owned (O := ownL _) ha ⟨a, _, rfl, rfl, upd_same, reps_keyDs e3⟩⟩⟩
theorem wr_tup {xs : List D} (h : vw x ρ = some (.lst xs) ∨ vw x ρ = some (.tup xs)) (k : C (.d (.tup xs)) ρ) : WR K (rTupA K) [x] ρ C := fun b σ H θ τ vs Q S hl q => by
  obtain ⟨v, rfl⟩ := one1 hl
  have S : Sat K b ρ σ (x :: θ) (v :: τ) H := S
  rcases h with h | h
  · obtain ⟨G, fp, fq, ⟨p, ws, e1, e2, e3⟩, S'⟩ := S.vw1 h
    refine ⟨p, ws, by rw [e1], .inl ⟨.inl (.inl e2), fun a ha => ?_⟩⟩
    have ga := S'.free ha
    exact q _ ρ _ _ k ⟨_, fp, fq, (S'.lay ha).push ⟨a, ws, rfl, upd_same, reps_laid ga e3⟩⟩
  · obtain ⟨G, fp, fq, ⟨p, ws, e1, e2, e3⟩, S'⟩ := S.vw1 h
    exact ⟨p, ws, by rw [e1], .inr ⟨.inl (.inl (S'.gh _ _ e2)), q _ ρ _ _ k ⟨_, fp, fq, S'.push ⟨p, ws, rfl, e2, e3⟩⟩⟩⟩
theorem wr_sortedS {l : List Str} (h : vw x ρ = some (.lst (l.map D.str))) (hz : l.length < 64) (k : C (.own (ownL ((sortS l).map D.str))) ρ) : WR K (rSortedA K) [x] ρ C := fun b σ H θ τ vs Q S hl q => by
  obtain ⟨v, rfl⟩ := one1 hl
  have S : Sat K b ρ σ (x :: θ) (v :: τ) H := S
  obtain ⟨G, fp, fq, ⟨p, ws, e1, e2, e3⟩, S'⟩ := S.vw1 h
  have e4 := reps_strs.mp e3
  subst e4
  refine .inl ⟨p, l, by rw [e1], .inl (.inl e2), hz, fun ys a pm so ha => ?_⟩
  rw [sortS_is pm so]
  exact q _ ρ _ _ k ⟨G, fp, _, S'.owned (O := ownL _) ha ⟨a, _, rfl, rfl, upd_same, reps_strs.mpr rfl⟩⟩
theorem wr_sortedD {kvs : List (Key × D)} {l : List Str} (h : vw x ρ = some (.dK kvs)) (hk : kvs.map (·.1) = l.map Sum.inr) (hz : l.length < 64) (k : C (.own (ownL ((sortS l).map D.str))) ρ) : WR K (rSortedA K) [x] ρ C := fun b σ H θ τ vs Q S hl q => by
  obtain ⟨v, rfl⟩ := one1 hl
  have S : Sat K b ρ σ (x :: θ) (v :: τ) H := S
  obtain ⟨G, fp, fq, ⟨p, ws, e1, e2, e3⟩, S'⟩ := S.vw1 h
  refine .inr ⟨p, ws, l, by rw [e1], e2, by rw [repK_keys e3]; exact hk, hz, fun ys a pm so ha => ?_⟩
  rw [sortS_is pm so]
  exact q _ ρ _ _ k ⟨G, fp, _, S'.owned (O := ownL _) ha ⟨a, _, rfl, rfl, upd_same, reps_strs.mpr rfl⟩⟩
theorem wr_int {i : Int} (h : vw x ρ = some (.int i)) (k : C (.d (.int i)) ρ) : WR K rInt1 [x] ρ C := fun b σ H θ τ vs Q S hl q => by
  obtain ⟨v, rfl⟩ := one1 hl
  have S : Sat K b ρ σ (x :: θ) (v :: τ) H := S
  obtain ⟨G, fp, fq, e1, S'⟩ := S.vw1 h
  exact .inl ⟨i, by rw [show v = .int i from e1], q _ ρ _ _ k ⟨G, fp, fq, S'.push rfl⟩⟩
theorem wr_all {bs : List Bool} {xs : List D} (h : vw x ρ = some (.lst xs)) (hb : xs = bs.map D.bl) (k : C (.d (.bl (bs.all id))) ρ) : WR K (rAll K) [x] ρ C := fun b σ H θ τ vs Q S hl q => by
  obtain ⟨v, rfl⟩ := one1 hl
  have S : Sat K b ρ σ (x :: θ) (v :: τ) H := S
  obtain ⟨G, fp, fq, ⟨p, ws, e1, e2, e3⟩, S'⟩ := S.vw1 h
  subst hb
  have e4 := reps_bls.mp e3
  subst e4
  exact ⟨p, bs, by rw [e1], .inl (.inl e2), q _ ρ _ _ k ⟨G, fp, fq, S'.push rfl⟩⟩
theorem wr_any {bs : List Bool} {xs : List D} (h : vw x ρ = some (.lst xs)) (hb : xs = bs.map D.bl) (k : C (.d (.bl (bs.any id))) ρ) : WR K (rAny K) [x] ρ C := fun b σ H θ τ vs Q S hl q => by
  obtain ⟨v, rfl⟩ := one1 hl
  have S : Sat K b ρ σ (x :: θ) (v :: τ) H := S
  obtain ⟨G, fp, fq, ⟨p, ws, e1, e2, e3⟩, S'⟩ := S.vw1 h
  subst hb
  have e4 := reps_bls.mp e3
  subst e4
  exact ⟨p, bs, by rw [e1], .inl (.inl e2), q _ ρ _ _ k ⟨G, fp, fq, S'.push rfl⟩⟩
theorem wr_sum {is : List Int} {xs : List D} (h : vw x ρ = some (.lst xs)) (hb : xs = is.map D.int) (k : C (.d (.int is.sum)) ρ) : WR K (rSum K) [x] ρ C := fun b σ H θ τ vs Q S hl q => by
  obtain ⟨v, rfl⟩ := one1 hl
  have S : Sat K b ρ σ (x :: θ) (v :: τ) H := S
  obtain ⟨G, fp, fq, ⟨p, ws, e1, e2, e3⟩, S'⟩ := S.vw1 h
  subst hb
  have e4 := reps_ints.mp e3
  subst e4
  exact ⟨p, is, by rw [e1], .inl (.inl e2), q _ ρ _ _ k ⟨G, fp, fq, S'.push rfl⟩⟩
/-- dict of pairs -/
def rDictP (K : PySem.W.Frag) : List V → Hp → VK → Prop := fun xs H Q => ∃ (a : Addr) (ps : List Addr) (kvs : List (Key × V)), xs = [.ref a] ∧ SqL K H a (ps.map V.ref) ∧ Paired (fun p kv => SqT K H p [kV kv.1, kv.2]) ps kvs ∧
  kvs.length ≤ sizeLine ∧ ∀ p, H p = none → Q (.ref p) (upd H p (.dK (mergeK [] kvs)))

/-! ### isinstance -/
def tyD : D → Option String
  | .non => some "NoneType"
  | .bl _ => some "bool"
  | .int _ => some "int"
  | .str _ => some "str"
  | .lst _ => some "list"
  | .tup _ => some "tuple"
  | .dK _ => some "dict"
  | _ => none
def tyNames : List String := ["NoneType", "bool", "int", "str", "list", "tuple", "dict"]
def clNames : List String := ["bool", "int", "str", "list", "tuple", "dict"]
theorem kit_table : ∀ a ∈ tyNames, ∀ c ∈ clNames, kitB a c = some (decide (a = c) || (decide (a = "bool") && decide (c = "int"))) := by decide +kernel
theorem tyD_mem {a : D} {t : String} (h : tyD a = some t) : t ∈ tyNames := by
  cases a <;> first | (cases h; decide) | cases h
theorem tyX_of {G H : Hp} {a : D} {t : String} {v : V} (e : Ex G H) (h : tyD a = some t) (r : repS K G H a v) : TyX K H v (.type t) := by
  cases a with
  | non => cases h; rw [show v = _ from r]; exact .base .non
  | bl b => cases h; rw [show v = _ from r]; exact .base (.bl b)
  | int i => cases h; rw [show v = _ from r]; exact .base (.int i)
  | str s => cases h; rw [show v = _ from r]; exact .base (.str s)
  | lst xs => cases h; obtain ⟨p, vs, e1, e2, e3⟩ := r; subst e1; exact .base (.lst e2)
  | tup xs => cases h; obtain ⟨p, vs, e1, e2, e3⟩ := r; subst e1; exact .base (.tup (e _ _ e2))
  | dK kvs =>
    cases h
    obtain ⟨p, ws, e1, e2, e3⟩ := r
    subst e1
    rcases e2 with e2 | ⟨o, e2⟩
    · exact .base (.dK e2)
    · exact .fDict e2
  | dT _ => cases h
  | ins _ _ => cases h
  | kl _ => cases h
  | kt _ => cases h
  | raw _ => cases h
def isiD (c : String) (a : D) : Bool := match tyD a with
  | some t => decide (t = c) || (decide (t = "bool") && decide (c = "int"))
  | none => false
theorem wr_isi {a : D} {t c : String} (hx : vw x ρ = some a) (ht : tyD a = some t) (hc : c ∈ clNames) (k : C (.d (.bl (isiD c a))) ρ) : WR K (rIsiA K) [x, .d (.raw (.ty c))] ρ C := fun b σ H θ τ vs Q S hl q => by
  obtain ⟨v, w, rfl⟩ := two2 hl
  have S : Sat K b ρ σ (.d (.raw (.ty c)) :: x :: θ) (w :: v :: τ) H := S
  obtain ⟨G, fp, fq, r, r', S'⟩ := S.vw2 hx rfl
  refine .inl ⟨v, .ty c, .type t, .type c, _, by rw [show w = .ty c from r'], .ty c, tyX_of S'.gh ht r, kit_ty (kit_table t (tyD_mem ht) c hc), ?_⟩
  have e : isiD c a = (decide (t = c) || (decide (t = "bool") && decide (c = "int"))) := by unfold isiD; rw [ht]
  rw [← e]
  exact q _ ρ _ H k ⟨G, fp, fq, S'.push rfl⟩
theorem kitAny_names {t : String} (ht : t ∈ tyNames) : ∀ {cs : List String}, (∀ c ∈ cs, c ∈ clNames) → PySem.W.kitAny K (.type t) (cs.map Value.type) = some (cs.any fun c => decide (t = c) || (decide (t = "bool") && decide (c = "int")))
  | [], _ => kitAny_nil
  | c :: cs, h => by
    have h1 := kit_ty (K := K) (kit_table t ht c (h c (by simp)))
    have h2 := kitAny_names ht (cs := cs) fun c hc => h c (by simp [hc])
    rw [List.map_cons, List.any_cons]
    refine kitAny_cons h1 (fun e => ?_) (fun e => ?_)
    · rw [e, Bool.false_or]; exact h2
    · rw [e, Bool.true_or]
theorem wr_isiT {a : D} {t : String} (cs : List String) (hx : vw x ρ = some a) (ht : tyD a = some t) (hc : ∀ c ∈ cs, c ∈ clNames) (hy : vw y ρ = some (.tup (cs.map fun c => .raw (.ty c)))) (k : C (.d (.bl (cs.any fun c => isiD c a))) ρ) : WR K (rIsiA K) [x, y] ρ C := fun b σ H θ τ vs Q S hl q => by
  obtain ⟨v, w, rfl⟩ := two2 hl
  have S : Sat K b ρ σ (y :: x :: θ) (w :: v :: τ) H := S
  obtain ⟨G, fp, fq, r, ⟨p, ws, e1, e2, e3⟩, S'⟩ := S.vw2 hx hy
  have e4 : ws = cs.map V.ty := (reps_map (f := fun c => D.raw (.ty c)) (g := V.ty) fun _ _ => Iff.rfl).mp e3
  have pr : ∀ cs : List String, Paired ClsV (cs.map V.ty) (cs.map Value.type) := fun cs => by
    induction cs with
    | nil => exact .nil
    | cons c r ih => exact .cons (.ty c) ih
  refine .inr ⟨v, p, ws, .type t, cs.map Value.type, _, by rw [e1], S'.gh _ _ e2, by rw [e4]; exact pr cs, tyX_of S'.gh ht r, kitAny_names (tyD_mem ht) hc, ?_⟩
  have e : (cs.any fun c => isiD c a) = cs.any fun c => decide (t = c) || (decide (t = "bool") && decide (c = "int")) := by unfold isiD; rw [ht]
  rw [← e]
  exact q _ ρ _ H k ⟨G, fp, fq, S'.push rfl⟩
/-- an own class: an instance of it -/
theorem wr_isC {Ca : Addr} {fs : List (Str × D)} (c : C8.InsC K Ca) (hx : vw x ρ = some (.ins Ca fs)) (k : C (.d (.bl true)) ρ) : WR K (rIsiA K) [x, .d (.raw (.ref Ca))] ρ C := fun b σ H θ τ vs Q S hl q => by
  obtain ⟨v, w, rfl⟩ := two2 hl
  have S : Sat K b ρ σ (.d (.raw (.ref Ca)) :: x :: θ) (w :: v :: τ) H := S
  obtain ⟨G, fp, fq, ⟨p, dx, ws, e1, e2, e3⟩, r', S'⟩ := S.vw2 hx rfl
  exact .inl ⟨v, .ref Ca, .ref Ca, .ref Ca, true, by rw [show w = .ref Ca from r'], .own Ca, by rw [e1]; exact .base (.ins (S'.gh _ _ e2) c.cl c.ha c.hn c.htk c.hm), c.me, q _ ρ _ H k ⟨G, fp, fq, S'.push rfl⟩⟩
end
end DL

set_option Elab.async false
set_option linter.all false
set_option maxRecDepth 100000
namespace PySem
open Sem (wp)
open AutoSeq1 (wpAny_loadPart')
set_option maxHeartbeats 1000000 in
theorem meets_enumerate_newTup (l : Addr) (items : Array Value) :
    Meets (Builtin.«enumerate.__new__» ⟨[.type "enumerate", .ref l], []⟩) (fun _ R s => s.heap.IsTuple l items ∧
      R (.ok (.ret (.ref (s.heap.push { cls := .type "tuple_iterator", data := .fields #[.ref l, .int 0 0] }).objs.size)))
        { s with heap := (s.heap.push { cls := .type "tuple_iterator", data := .fields #[.ref l, .int 0 0] }).push { cls := .type "enumerate", data := .fields #[.none, .bool false, .ref s.heap.objs.size, rawInt 0, .none, .none] } }) :=
  .of_wp fun prog w A R s h => by
    obtain ⟨hp, g, d, tk, os⟩ := s
    obtain ⟨hL, h⟩ := h
    have hsub := sub_enumerate
    have q1 : ∀ {A' : Around} {E : Value → Shared → Prop} {Q : Value → Shared → Prop}, Q (.ref hp.objs.size) ⟨hp.push { cls := .type "tuple_iterator", data := .fields #[.ref l, .int 0 0] }, g, d, tk, os⟩ → wpAny (model prog w) A' (pyIter (.ref l)) Q E ⟨hp, g, d, tk, os⟩ :=
      fun q => wpAny_pyIter_tuple hL q
    wp_walk using q1
    refine wpAny_stack_any fun st => wpAny_pure ?_
    split
    · rename_i c _ _ _ _ _
      cases (c == Value.type "enumerate")
      · wp_walk using q1
        exact ⟨_, rfl, h⟩
      · wp_walk using q1
        exact ⟨_, rfl, h⟩
    · wp_walk using q1
      exact ⟨_, rfl, h⟩
section
variable {prog : Program} {w : World} {A : Around} {E : Value → Shared → Prop} {s : Shared}
theorem call_enumerate_tuple {l : Addr} {items : Array Value} {Q : Value → Shared → Prop} (hL : s.heap.IsTuple l items)
    (h : ∀ h', IsEnum h' (s.heap.objs.size + 1) s.heap.objs.size 0 .none → h'.IsTupleIter s.heap.objs.size l 0 → h'.objs.size = s.heap.objs.size + 2 →
      (∀ b o, s.heap.get? b = some o → h'.get? b = some o) → Q (.ref (s.heap.objs.size + 1)) { s with heap := h' }) :
    wpAny (model prog w) A (call (.type "enumerate") [.ref l]) Q E s := by
  refine callType_new F.called_enumerate (by decide) (F.typeCall_enumerate_1 _) (F.newCall_enumerate_1 _) (fun obj => F.args_object_init_2 obj _) F.entry_enumerate_new
    (meets_enumerate_newTup l items) ⟨hL, ?_⟩
  have hz : (s.heap.push { cls := .type "tuple_iterator", data := .fields #[.ref l, .int 0 0] }).objs.size = s.heap.objs.size + 1 := Heap.size_push ..
  show _ ∧ _
  rw [hz]
  have he : IsEnum ((s.heap.push { cls := .type "tuple_iterator", data := .fields #[.ref l, .int 0 0] }).push
      { cls := .type "enumerate", data := .fields #[.none, .bool false, .ref s.heap.objs.size, rawInt 0, .none, .none] }) (s.heap.objs.size + 1) s.heap.objs.size 0 .none := by
    have := Heap.get?_push_size (s.heap.push { cls := .type "tuple_iterator", data := .fields #[.ref l, .int 0 0] })
      (o := { cls := .type "enumerate", data := .fields #[.none, .bool false, .ref s.heap.objs.size, rawInt 0, .none, .none] }) rfl
    rw [hz] at this; exact this
  refine ⟨⟨_, he, rfl⟩, h _ he ⟨_, Heap.get?_push_of_some _ (Heap.get?_push_size _ rfl), rfl, rfl⟩ (by rw [Heap.size_push, hz]) fun b o x => Heap.get?_push_of_some _ (Heap.get?_push_of_some _ x)⟩
theorem wpAny_pyNext_enum_endT {e it l : Addr} {i : Nat} {items : Array Value} {old : Value} {Q : Option Value → Shared → Prop} (hh : A.handled = none)
    (he : IsEnum s.heap e it i old) (hit : s.heap.IsTupleIter it l i) (hl : s.heap.IsTuple l items) (hx : items[i]? = none)
    (hQ : ∀ h', Heap.ExtBut it s.heap h' → Q none { s with heap := h' }) : wpAny (model prog w) A (pyNext (.ref e)) Q E s := by
  have hT : s.TypeIs (.ref e) "enumerate" := ⟨_, he, rfl⟩
  unfold pyNext
  refine wpAny_bind (wpAny_attempt (wpAny_callSpecial?_slot (name := Str.ofString "__next__") hT F.slot_enumerate_next
    (wpAny_call_entry F.slot_enumerate_next hT F.entry_enumerate_next ?_ (F.args_enumerate_next_1 _))))
  show wpAny _ _ (field (.ref e) 2 >>= _) _ _ _
  refine wpAny_bind (wpAny_field he rfl (x := .ref it) rfl ?_)
  refine wpAny_bind (wpAny_nextOf_tuple_end hh hit hl hx fun h' x he' hx' => ?_)
  obtain ⟨o, ho, hc⟩ := hx'
  refine wpAny_bind (wpAny_isInstance (T := "StopIteration") (b := true) ⟨o, ho, hc⟩ isSubtype_stop ?_)
  exact wpAny_pure (hQ _ he')
end
end PySem
namespace L2
open PySem PySem.Spec PyProof.Rows
/-- the tuple at a, each item in a new pair -/
def IteT (K : PySem.W.Frag) (a : Addr) : It :=
  ⟨fun i H => ∃ (xs : List V) (x : V), SqT K H a xs ∧ xs[i]? = some x, fun i H v H' => ∃ T x, v = .ref T ∧ H T = none ∧ H' = upd H T (.tup [.int (i : Nat), x]) ∧ ∀ xs, SqT K H a xs → xs[i]? = some x, fun i H => ∃ xs : List V, SqT K H a xs ∧ xs.length ≤ i⟩
theorem turn_enumT {P : Program} {w : World} {K : PySem.W.Frag} {elts : List Expr} {kk : Nat} {tpos : Pos} (a e it : Addr) :
    Turn P w K (.Tuple elts kk tpos) (IteT K a) [e, it] e (fun i h => (∃ old, IsEnum h e it ((i : Nat) : Int) old) ∧ h.IsTupleIter it a i ∧ e ≠ it ∧ a ≠ it ∧ a ≠ e) where
  mem := by simp
  obj := fun i h st b hb => by
    obtain ⟨⟨old, he⟩, ⟨o, ho, hc, hd⟩, _⟩ := st
    have e' : b = e ∨ b = it := by simpa using hb
    rcases e' with z | z
    · rw [z]; exact ⟨_, he, fun v q => nomatch q⟩
    · rw [z]; exact ⟨o, ho, fun v q => by rw [hd] at q; cases q⟩
  keep := fun i h h' st k => let ⟨⟨old, he⟩, hi, hne⟩ := st; ⟨⟨old, k e (by simp) _ he⟩, hi.at fun o q => k it (by simp) o q, hne⟩
  item := by
    intro X hP hw hK hc i pins s σ H E I hf st hg
    subst hP hw hK
    obtain ⟨⟨old, he⟩, hit, hne, hai, hae⟩ := st
    obtain ⟨xs, x, hq, hx⟩ := hg
    obtain ⟨its, rv, p, hz⟩ := I.tuple hq
    obtain ⟨u, hu, ru⟩ := rv.get hx
    have hel : e < s.heap.objs.size := Heap.lt_size he
    have hil : it < s.heap.objs.size := by obtain ⟨_, q, _⟩ := hit; exact Heap.lt_size q
    have hlt : i < its.toArray.size := by
      have := (List.getElem?_eq_some_iff.mp hu).1
      simpa using this
    refine wpAny_pyNext_enum_itemD (Draws.tuple (prog := X.prog) (w := X.w) (A := X.A.in1) (I.ok.hd hc) it a hai its.toArray) he ⟨hit, p⟩ hlt hne (by simp [hne, Ne.symm hae]) fun u' h' tk hP ho hst' hT hsz hk => ?_
    have eu : u' = u := by
      have hP' : its.toArray[i]? = some u' := hP
      rw [List.getElem?_toArray, hu] at hP'
      exact (Option.some.inj hP').symm
    subst eu
    refine ⟨_, rfl, wpAny_letOwnedTupleGo_enum (s := { s with heap := h', toks := tk + 1 }) ho fun h'' he' sb => ?_⟩
    have hT2 : h''.get? s.heap.objs.size = some { cls := .type "tuple", data := .seq #[.int i tk, u'] } := (sb.2 _ (Nat.ne_of_gt hel)).trans hT
    have new : ObjOk X.prog X.w (upd H s.heap.objs.size (.tup [.int (i : Nat), x])) h'' s.heap.objs.size (.tup [.int (i : Nat), x]) :=
      ⟨by show 2 ≤ sizeLine; decide, [.int i tk, u'], .cons ⟨_, rfl⟩ (.cons ru .nil), ⟨_, hT2, rfl, _, rfl⟩⟩
    have I1 : Inv X pins σ (upd H s.heap.objs.size (.tup [.int (i : Nat), x])) { s with heap := h'', toks := tk + 1 } :=
      I.turnedNew (ch := [e, it]) (fun b ob hb q => (sb.2 b (fun z => hb (by simp [z]))).trans (hk b ob (fun z => hb (by simp [z])) (fun z => hb (by simp [z])) q)) hf (Nat.le_refl _) new
    refine ⟨.ref s.heap.objs.size, _, I1, rfl, ⟨_, x, rfl, I.hok.fresh (Nat.le_refl _), rfl, fun ys hy => by rw [I.tuple_inj hy hq]; exact hx⟩, ⟨⟨u', ?_⟩, hst'.1.at fun o q => (sb.2 it (Ne.symm hne)).trans q, hne, hai, hae⟩, fun b hb => ?_⟩
    · have e1 : ((i + 1 : Nat) : Int) = (i : Int) + 1 := by omega
      rw [e1]; exact he'
    · have hb' : b < s.heap.objs.size := by
        have e' : b = e ∨ b = it := by simpa using hb
        rcases e' with z | z
        · rw [z]; exact hel
        · rw [z]; exact hil
      rw [upd_ne (Nat.ne_of_lt hb')]
      exact (hf b hb).1
  done := by
    intro X hP hw hK hc i pins s σ H E I hf st hg
    subst hP hw hK
    obtain ⟨⟨old, he⟩, hit, hne, hai, hae⟩ := st
    obtain ⟨xs, hq, hx⟩ := hg
    obtain ⟨its, rv, p, hz⟩ := I.tuple hq
    obtain ⟨f0, f1, f2, f3, f4, f5⟩ := hf it (by simp)
    have hl := rv.length
    exact wpAny_pyNext_enum_endT (I.ok.hd hc) he hit p (by simp; omega) fun h' eb => ⟨rfl, I.turned (t' := s.toks) (fun b o hb q => eb b o hb q) f0 f1 f3 f4 f5⟩
  self := fun A i s Q E st h => let ⟨⟨_, he⟩, _⟩ := st; wpAny_pyIter_enum he h
/-- enumerate over a list or a tuple -/
def iEnumA (K : PySem.W.Frag) (ta : TA) : TI := fun σ H R => ta σ H fun vs H1 => (∃ a xs, vs = [.ref a] ∧ SqL K H1 a xs ∧ R (Ite K a) H1) ∨ ∃ a xs, vs = [.ref a] ∧ SqT K H1 a xs ∧ R (IteT K a) H1
theorem pi_enumA {X : Cx} {e : Expr} {ta : TA} {p pos tpos : Pos} {elts : List Expr} {kk : Nat} (hg : Gl X "enumerate") (hm : X.mg "enumerate" = none) (ha : PA X [e] ta) (hs : starEach [e] X.env = [(false, eval e X.env)] := by rfl) :
    PI X (.Tuple elts kk tpos) (.Call (.Name "enumerate" p) [e] [] pos) (iEnumA X.K ta) := by
  refine ⟨fun pins s σ H R I h => ?_⟩
  refine Call_ (ld_blt I hg hm boot_enumerate (PyProof.Rows.callWith_type1 (thn (ha.run pos pins s σ H _ I h) fun us s1 ⟨vs, H1, I1, r1, q1⟩ => ?_) hs rfl))
  have fp : ∀ b ∈ [s1.heap.objs.size + 1, s1.heap.objs.size], FpOk X pins H1 b := fun b hb => by
    have e' : b = s1.heap.objs.size + 1 ∨ b = s1.heap.objs.size := by simpa using hb
    have hle : s1.heap.objs.size ≤ b := by
      rcases e' with z | z
      · rw [z]; exact Nat.le_add_right _ _
      · rw [z]; exact Nat.le_refl _
    exact I1.fpOk hle (I1.hok.fresh hle)
  rcases q1 with ⟨a, xs, ex, hq, q⟩ | ⟨a, xs, ex, hq, q⟩
  · subst ex
    cases r1 with
    | cons r rr =>
      cases rr
      cases r
      obtain ⟨its, rv, p', hz⟩ := I1.list hq
      refine call_enumerate_list p'.isList fun h' he hit hsz hk => wpAny_pyIter_enum he ?_
      have I2 : Inv X pins σ H1 { s1 with heap := h' } := I1.kept (t' := s1.toks) hk
      exact ⟨s1.heap.objs.size + 1, [s1.heap.objs.size + 1, s1.heap.objs.size], _, _, H1, rfl, I2, turn_enum a (s1.heap.objs.size + 1) s1.heap.objs.size, ⟨⟨.none, he⟩, hit, Nat.succ_ne_self _⟩, fp, q⟩
  · subst ex
    cases r1 with
    | cons r rr =>
      cases rr
      cases r
      obtain ⟨its, rv, p', hz⟩ := I1.tuple hq
      have hal : a < s1.heap.objs.size := p'.lt
      refine call_enumerate_tuple p' fun h' he hit hsz hk => wpAny_pyIter_enum he ?_
      have I2 : Inv X pins σ H1 { s1 with heap := h' } := I1.kept (t' := s1.toks) hk
      exact ⟨s1.heap.objs.size + 1, [s1.heap.objs.size + 1, s1.heap.objs.size], _, _, H1, rfl, I2, turn_enumT a (s1.heap.objs.size + 1) s1.heap.objs.size, ⟨⟨.none, he⟩, hit, Nat.succ_ne_self _, Nat.ne_of_lt hal, Nat.ne_of_lt (Nat.lt_succ_of_lt hal)⟩, fp, q⟩
end L2

set_option Elab.async false
set_option linter.all false
set_option maxRecDepth 100000
set_option maxHeartbeats 4000000
/-! sorted over pairs of a text and an int -/
namespace SrtO
open PySem PyProof.Rows Srt
def lexSI (p q : PySem.Str × Int) : Bool := if p.1 = q.1 then decide (p.2 < q.2) else decide (p.1.cps.toList < q.1.cps.toList)
theorem lexSI_iff {p q : PySem.Str × Int} : lexSI p q = true ↔ p.1.cps.toList < q.1.cps.toList ∨ (p.1 = q.1 ∧ p.2 < q.2) := by
  unfold lexSI
  by_cases e : p.1 = q.1
  · rw [if_pos e, decide_eq_true_eq, e]
    constructor
    · intro h; exact .inr ⟨rfl, h⟩
    · rintro (h | h)
      · exact absurd h (List.lt_irrefl _)
      · exact h.2
  · rw [if_neg e, decide_eq_true_eq]
    constructor
    · intro h; exact .inl h
    · rintro (h | h)
      · exact h
      · exact absurd h.1 e
theorem lexSI_no {p q : PySem.Str × Int} : lexSI p q = false ↔ ¬ (p.1.cps.toList < q.1.cps.toList ∨ (p.1 = q.1 ∧ p.2 < q.2)) := by
  rw [← lexSI_iff]
  cases lexSI p q <;> simp
theorem lexSI_asymm {p q : PySem.Str × Int} (h : lexSI p q = true) : lexSI q p = false := by
  rw [lexSI_no]
  rw [lexSI_iff] at h
  rintro (h2 | h2)
  · rcases h with h | h
    · exact List.lt_irrefl _ (List.lt_trans h h2)
    · rw [h.1] at h2; exact List.lt_irrefl _ h2
  · rcases h with h | h
    · rw [h2.1] at h; exact List.lt_irrefl _ h
    · omega
theorem lexSI_tri (p q : PySem.Str × Int) : lexSI p q = true ∨ p = q ∨ lexSI q p = true := by
  rcases DL.ltS_tri p.1 q.1 with h | h | h
  · exact .inl (lexSI_iff.mpr (.inl (DL.ltS_iff.mp h)))
  · rcases Int.lt_trichotomy p.2 q.2 with g | g | g
    · exact .inl (lexSI_iff.mpr (.inr ⟨h, g⟩))
    · exact .inr (.inl (Prod.ext h g))
    · exact .inr (.inr (lexSI_iff.mpr (.inr ⟨h.symm, g⟩)))
  · exact .inr (.inr (lexSI_iff.mpr (.inl (DL.ltS_iff.mp h))))
theorem lexSI_trans {p q r : PySem.Str × Int} (h : lexSI p q = true) (h' : lexSI q r = true) : lexSI p r = true := by
  rw [lexSI_iff] at *
  rcases h with h | h <;> rcases h' with h' | h'
  · exact .inl (List.lt_trans h h')
  · rw [h'.1] at h; exact .inl h
  · rw [← h.1] at h'; exact .inl h'
  · exact .inr ⟨h.1.trans h'.1, by omega⟩
theorem swoSI {α : Type} (k : α → PySem.Str × Int) : Swo fun v u => lexSI (k v) (k u) := by
  refine ⟨fun x y h => lexSI_asymm h, fun x y z h1 h2 => ?_⟩
  rcases (show lexSI (k z) (k x) = true ∨ lexSI (k z) (k x) = false by cases lexSI (k z) (k x) <;> simp) with h | h
  · rcases lexSI_tri (k x) (k y) with g | g | g
    · have := lexSI_trans h g; rw [h2] at this; cases this
    · rw [g] at h; rw [h2] at h; cases h
    · rw [h1] at g; cases g
  · exact h
def IsPairS (h : Heap) (v : Value) (p : PySem.Str × Int) : Prop := ∃ a o t u n, v = .ref a ∧ h.get? a = some o ∧ o.cls = .type "tuple" ∧ o.data = .seq #[.str p.1 t, .int p.2 u] n
theorem IsPairS.keeps {h h' : Heap} {v : Value} {p : PySem.Str × Int} (x : IsPairS h v p) (k : ∀ b o, h.get? b = some o → o.cls = .type "tuple" → h'.get? b = some o) : IsPairS h' v p := by
  obtain ⟨a, o, t, u, n, e, ho, hc, hd⟩ := x
  exact ⟨a, o, t, u, n, e, k _ _ ho hc, hc, hd⟩
theorem firstsS {h : Heap} : ∀ {vs : List Value}, (∀ v ∈ vs, ∃ p, IsPairS h v p) → ∃ fs : List Value, PySem.W.KatTups h vs fs ∧ fs.length = vs.length ∧ ∀ f ∈ fs, ∃ x t, f = Value.str x t
  | [], _ => ⟨[], PySem.W.KatTups.nil, rfl, fun _ hm => by simp at hm⟩
  | v :: vs, hp => by
    obtain ⟨fs, h1, h2, h3⟩ := firstsS (vs := vs) fun v' hm => hp v' (List.mem_cons_of_mem _ hm)
    obtain ⟨p, a, o, t, u, n, e, ho, hc, hd⟩ := hp v (List.mem_cons_self ..)
    subst e
    refine ⟨.str p.1 t :: fs, PySem.W.KatTups.cons ho hc hd rfl h1, by rw [List.length_cons, List.length_cons, h2], fun f hm => ?_⟩
    rcases List.mem_cons.mp hm with rfl | hm
    · exact ⟨p.1, t, rfl⟩
    · exact h3 f hm
section
variable {prog : Program} {w : World} {A : Around} {E : Value → Shared → Prop} {s : Shared}
theorem pairS_cmp {vs : List Value} {k : Value → PySem.Str × Int} (hp : ∀ v ∈ vs, IsPairS s.heap v (k v)) : Cmp prog w A s (tuples' true) (fun p => p.1 ∈ vs) (lt2 fun v u => lexSI (k v) (k u)) := by
  intro p q hm hm'
  have h1 := hp _ hm
  have h2 := hp _ hm'
  show wpAny (model prog w) A (keyLt' (tuples' true) p.1 q.1) (fun r s' => s' = s ∧ r = lexSI (k p.1) (k q.1)) (fun _ _ => False) s
  unfold lexSI
  generalize k p.1 = x at h1 ⊢
  generalize k q.1 = y at h2 ⊢
  obtain ⟨a, o, t, u, n, e, ho, hc, hd⟩ := h1
  obtain ⟨a', o', t', u', n', e', ho', hc', hd'⟩ := h2
  rw [e, e']
  refine PySem.W.kat_lt ho hd ho' hd' ?_
  show PySem.W.KatLex prog w A true (decide (2 < 2)) _ [(.str x.1 t, .str y.1 t'), (.int x.2 u, .int y.2 u')] 0 s
  refine PySem.W.kat_cons (SeqAt.EqAt.str_str x.1 t y.1 t' prog w _ _ ?_)
  refine PySem.W.kat_go (fun e1 => ?_) (fun e1 => ?_)
  · have ex : x.1 = y.1 := by simpa using e1
    refine PySem.W.kat_yes (PySem.W.kat_cons (SeqAt.EqAt.int_int x.2 u y.2 u' prog w _ _ ?_))
    refine PySem.W.kat_go (fun e2 => ?_) (fun e2 => ?_)
    · have ey : x.2 = y.2 := by simpa using e2
      have e3 : (if x.1 = y.1 then decide (x.2 < y.2) else decide (x.1.cps.toList < y.1.cps.toList)) = false := by
        rw [if_pos ex, ey]
        exact decide_eq_false (Int.lt_irrefl _)
      exact PySem.W.kat_yes (PySem.W.kat_nil ⟨rfl, e3.symm⟩)
    · have e3 : (if x.1 = y.1 then decide (x.2 < y.2) else decide (x.1.cps.toList < y.1.cps.toList)) = decide (x.2 < y.2) := if_pos ex
      refine PySem.W.kat_no (PySem.W.kat_one _ _ (PyProof.Rows.lt_int ?_))
      exact (show s = s ∧ decide (x.2 < y.2) = (if x.1 = y.1 then decide (x.2 < y.2) else decide (x.1.cps.toList < y.1.cps.toList)) from ⟨rfl, e3.symm⟩)
  · have ex : ¬ x.1 = y.1 := by simpa using e1
    have e3 : (if x.1 = y.1 then decide (x.2 < y.2) else decide (x.1.cps.toList < y.1.cps.toList)) = decide (x.1.cps.toList < y.1.cps.toList) := if_neg ex
    exact PySem.W.kat_no (oneLt_str ⟨rfl, e3.symm⟩)
theorem pairsS_sortable {a : Addr} {vs : List Value} {k : Value → PySem.Str × Int} (h0 : 0 < vs.length) (hp : ∀ v ∈ vs, IsPairS s.heap v (k v)) (ha : ∀ o, s.heap.get? a = some o → o.cls ≠ .type "tuple") : SortableO prog w A s a vs fun v u => lexSI (k v) (k u) := by
  intro h' keep
  have hp' : ∀ v ∈ vs, IsPairS h' v (k v) := fun v hm => (hp v hm).keeps fun b o e c => keep b o (fun z => by subst z; exact ha o e c) e
  obtain ⟨fs, h1, h2, h3⟩ := firstsS fun v hm => ⟨_, hp' v hm⟩
  refine ⟨tuples' true, fun Q E hq => ?_, pairS_cmp hp'⟩
  refine PySem.W.kat_kind (T := .type "str") h1 (by omega) (fun f hm => ?_) (by rfl) ?_
  · obtain ⟨x, t, rfl⟩ := h3 f hm
    exact PySem.W.Looks.now
  · have e : (Value.type "str" != Value.type "tuple") = true := by first | decide +kernel | rfl | decide
    rw [e]
    exact hq
theorem sorted_pairsS {l : Addr} {vs : List Value} {k : Value → PySem.Str × Int} {Q : Value → Shared → Prop} (hl : s.heap.IsList l vs.toArray) (hz : vs.length ≤ sizeLine) (hp : ∀ v ∈ vs, IsPairS s.heap v (k v))
    (h : ∀ (h' : Heap) (d : Addr) (out : List Value), Srtd (fun v u => lexSI (k v) (k u)) out → Stb (fun v u => lexSI (k v) (k u)) out vs → (∀ b o, s.heap.get? b = some o → h'.get? b = some o) → s.heap.objs.size ≤ d → (∃ n, h'.get? d = some (seqObj "list" out.toArray n)) → Q (.ref d) { s with heap := h' }) :
    wpAny (model prog w) A (call (.builtin "sorted") [.ref l]) Q E s := by
  refine sorted_ord (swoSI k) hl hz (fun h2 h₁ a ha kk => ?_) fun out hs hb => ?_
  · refine pairsS_sortable (s := { s with heap := h₁ }) (by omega) (fun v hm => (hp v hm).keeps fun b o e _ => (kk b o e).2) fun o e => ?_
    have e' : some o = some (seqObj "list" vs.toArray 0) := e.symm.trans ha
    cases e'
    intro c
    exact absurd (Value.type.inj c) (by decide)
  · exact h _ _ out hs hb (fun b o e => sortedAll_old e) (Nat.le_succ _) (sortedAll_at s.heap vs out.toArray)
end
end SrtO
namespace L2
open PySem PySem.Spec PyProof.Rows
abbrev ltPS (k : V → Str × Int) (x y : V) : Bool := SrtO.lexSI (k x) (k y)
def rSortedSI (K : PySem.W.Frag) : List V → Hp → VK → Prop := fun vs H Q => ∃ (a : Addr) (xs : List V) (k : V → Str × Int), vs = [V.ref a] ∧ SqL K H a xs ∧ (∀ x ∈ xs, ∃ t, x = V.ref t ∧ H t = some (.tup [.str (k x).1, .int (k x).2])) ∧
  ∀ ys p, SrtO.Srtd (ltPS k) ys → ys.Perm xs → H p = none → Q (.ref p) (upd H p (.lst ys))
theorem cr_sortedSI {X : Cx} : CallR X (.builtin "sorted") (rSortedSI X.K) := by
  intro pins s σ H vs us Q I r h
  obtain ⟨a, xs, k, rfl, hs, hx, q⟩ := h
  obtain ⟨its, rv, hl, hz⟩ := I.list hs
  obtain ⟨u, rfl, ru⟩ := vals1 r
  obtain rfl : u = Value.ref a := ru
  obtain ⟨e1, e2⟩ := refs_back rv fun x m => by
    obtain ⟨t, e, _⟩ := hx x m
    exact ⟨t, e⟩
  refine SrtO.sorted_pairsS (k := fun u => k (backV u)) hl.isList (by rw [← rv.length]; exact hz) (fun v hv => ?_) fun h' d out h1 h2 kp hd hn => ?_
  · obtain ⟨t, rfl⟩ := e2 v hv
    have hm : V.ref t ∈ xs := by rw [e1]; exact List.mem_map.mpr ⟨_, hv, rfl⟩
    obtain ⟨t', e, ht⟩ := hx _ hm
    cases e
    obtain ⟨_, its2, r2, o, ho, hc, n, hd⟩ := I.hok _ _ ht
    obtain ⟨u1, u2, rfl, ri, rj⟩ := vals2 r2
    obtain ⟨t1, rfl⟩ := ri
    obtain ⟨t2, rfl⟩ := rj
    exact ⟨t, o, t1, t2, n, rfl, ho, hc, hd⟩
  · have h3 : ∀ u ∈ out, ∃ a, u = Value.ref a := fun u hu => e2 u (h2.perm.mem_iff.mp hu)
    obtain ⟨n, hn⟩ := hn
    have hb : (out.map backV).Perm xs := by
      rw [e1]
      exact h2.perm.map backV
    refine ⟨.ref d, upd H d (.lst (out.map backV)), I.laid (t' := s.toks) kp hd ⟨?_, out, n, vals_back h3, hn⟩, rfl, q _ d (SrtO.srtd_map h1) hb (I.hok.fresh hd)⟩
    rw [hb.length_eq]
    exact hz
end L2

set_option Elab.async false
set_option linter.all false
set_option maxRecDepth 100000
namespace DL
open PySem PySem.Spec L2
variable {K : PySem.W.Frag}

/-! ### comprehensions of plain data -/
section
variable {wi : TI} {g : TG} {tt : TT} {te tk tv : TE} {vs : List Nat} {ρ : List SV} {C : SV → List SV → Prop} {α β : Type}
theorem wt_yes {C : Bool → List SV → Prop} (h : C true ρ) : WT K tYes ρ C := fun b σ H θ τ Q S q => q true ρ H h S
theorem filter_step {p : α → Bool} {f : α → D} {l : List α} {i : Nat} {a : α} (h : l[i]? = some a) : ((l.take (i + 1)).filter p).map f = if p a = true then ((l.take i).filter p).map f ++ [f a] else ((l.take i).filter p).map f := by
  rw [List.take_add_one, h]
  simp only [Option.toList, List.filter_append, List.map_append]
  cases e : p a with
  | true => rw [if_pos rfl, List.filter_cons_of_pos e]; simp
  | false => rw [if_neg Bool.false_ne_true, List.filter_cons_of_neg (by simp [e])]; simp
theorem get_map {f : α → D} {l : List α} {i : Nat} {x : D} (h : (l.map f)[i]? = some x) : ∃ a, l[i]? = some a ∧ x = f a := by
  rw [List.getElem?_map] at h
  obtain ⟨a, h1, h2⟩ := Option.map_eq_some_iff.mp h
  exact ⟨a, h1, h2.symm⟩
/-- [f a for a in as if p a] -/
theorem lcP (as : List α) (inj : α → D) (p : α → Bool) (f : α → D) {ρ1 : List SV} {xs : List D} (hx : xs = as.map inj) (hz : as.length ≤ sizeLine)
    (hb : ∀ a ∈ as, WG K (· ∈ vs) g (.d (inj a)) (wipeS ρ1 vs) fun ρ3 => WT K tt ρ3 fun k ρ4 => k = p a ∧ (p a = true → WE K te ρ4 fun z ρ5 => ∃ ρ6, fzT z ρ5 = some (f a, ρ6) ∧ wipeS ρ6 vs = wipeS ρ1 vs) ∧ (p a = false → wipeS ρ4 vs = wipeS ρ1 vs))
    (hc : C (.own (ownL ((as.filter p).map f))) (wipeS ρ1 vs)) : LcC K g tt te vs C xs ρ1 := by
  subst hx
  refine ⟨by simpa using hz, fun i ρ2 ds => ρ2 = wipeS ρ1 vs ∧ ds = ((as.take i).filter p).map f, ⟨rfl, rfl⟩, ?_, ?_⟩
  · rintro i x ρ2 ds hi ⟨rfl, rfl⟩
    obtain ⟨a, ha, rfl⟩ := get_map hi
    have hm : a ∈ as := List.mem_of_getElem? ha
    intro b σ H θ τ v Q na S q
    refine hb a hm b σ H θ τ v Q na S fun ρ3 σ3 H3 h3 S3 ag hl => q ρ3 σ3 H3 ?_ S3 ag hl
    intro b' σ' H' θ' τ' Q' S' q'
    refine h3 b' σ' H' θ' τ' Q' S' fun k ρ4 H4 ⟨hk, h4, h5⟩ S4 => q' k ρ4 H4 ?_ S4
    subst hk
    cases e : p a with
    | true =>
      rw [if_pos rfl]
      intro b2 σ2 H2 θ2 τ2 Q2 S2 q2
      refine h4 e b2 σ2 H2 θ2 τ2 Q2 S2 fun z ρ5 u H5 ⟨ρ6, h6, h7⟩ S5 => q2 z ρ5 u H5 ⟨f a, ρ6, h6, h7, ?_⟩ S5
      rw [filter_step ha, if_pos e]
    | false =>
      rw [if_neg Bool.false_ne_true]
      exact ⟨h5 e, by rw [filter_step ha, if_neg (by simp [e])]⟩
  · rintro ρ2 ds ⟨rfl, rfl⟩
    rw [List.length_map, List.take_length]
    exact hc
/-- [f a for a in as] -/
theorem lcM (as : List α) (inj : α → D) (f : α → D) {ρ1 : List SV} {xs : List D} (hx : xs = as.map inj) (hz : as.length ≤ sizeLine)
    (hb : ∀ a ∈ as, WG K (· ∈ vs) g (.d (inj a)) (wipeS ρ1 vs) fun ρ3 => WE K te ρ3 fun z ρ5 => ∃ ρ6, fzT z ρ5 = some (f a, ρ6) ∧ wipeS ρ6 vs = wipeS ρ1 vs)
    (hc : C (.own (ownL (as.map f))) (wipeS ρ1 vs)) : LcC K g tYes te vs C xs ρ1 :=
  lcP as inj (fun _ => true) f hx hz (fun a ha b σ H θ τ v Q na S q => hb a ha b σ H θ τ v Q na S fun ρ3 σ3 H3 h3 S3 ag hl => q ρ3 σ3 H3 (wt_yes ⟨rfl, fun _ => h3, fun e => nomatch e⟩) S3 ag hl)
    (by rw [List.filter_eq_self.mpr fun _ _ => rfl]; exact hc)
/-- {k a: f a for a in as} -/
theorem dcM (as : List α) (inj : α → D) (kf : α → Key) (f : α → D) {ρ1 : List SV} {xs : List D} (hx : xs = as.map inj) (hz : as.length ≤ sizeLine)
    (hb : ∀ a ∈ as, WG K (· ∈ vs) g (.d (inj a)) (wipeS ρ1 vs) fun ρ3 => WE K tk ρ3 fun kz ρ5 => ∃ kd, kz = .d kd ∧ dkey kd = some (kf a) ∧ WE K tv ρ5 fun z ρ6 => ∃ ρ7, fzT z ρ6 = some (f a, ρ7) ∧ wipeS ρ7 vs = wipeS ρ1 vs)
    (hc : C (.own (ownK (mergeD [] (as.map fun a => (kf a, f a))))) (wipeS ρ1 vs)) : DcC K g tYes tk tv vs C xs ρ1 := by
  subst hx
  refine ⟨by simpa using hz, fun i ρ2 ds => ρ2 = wipeS ρ1 vs ∧ ds = mergeD [] ((as.take i).map fun a => (kf a, f a)), ⟨rfl, rfl⟩, ?_, ?_⟩
  · rintro i x ρ2 ds hi ⟨rfl, rfl⟩
    obtain ⟨a, ha, rfl⟩ := get_map hi
    have hm : a ∈ as := List.mem_of_getElem? ha
    have step : mergeD [] ((as.take (i + 1)).map fun a => (kf a, f a)) = putD (mergeD [] ((as.take i).map fun a => (kf a, f a))) (kf a) (f a) := by
      rw [List.take_add_one, ha]
      simp only [Option.toList, List.map_append, List.map_cons, List.map_nil]
      unfold mergeD
      rw [List.foldl_append]
      rfl
    intro b σ H θ τ v Q na S q
    refine hb a hm b σ H θ τ v Q na S fun ρ3 σ3 H3 h3 S3 ag hl => q ρ3 σ3 H3 ?_ S3 ag hl
    refine wt_yes ?_
    rw [if_pos rfl]
    intro b2 σ2 H2 θ2 τ2 Q2 S2 q2
    refine h3 b2 σ2 H2 θ2 τ2 Q2 S2 fun kz ρ5 u H5 ⟨kd, h4, h5, h6⟩ S5 => q2 kz ρ5 u H5 ⟨kd, kf a, h4, h5, ?_⟩ S5
    intro b3 σ3 H3 θ3 τ3 Q3 S3 q3
    refine h6 b3 σ3 H3 θ3 τ3 Q3 S3 fun z ρ6 u H6 ⟨ρ7, h7, h8⟩ S6 => q3 z ρ6 u H6 ⟨f a, ρ7, h7, h8, ?_⟩ S6
    exact step.symm
  · rintro ρ2 ds ⟨rfl, rfl⟩
    rw [List.length_map, List.take_length]
    exact hc
/-- keys that all differ: the pairs as they come -/
theorem putD_new {κ : Type} [DecidableEq κ] {kvs : List (κ × D)} {k : κ} {x : D} (h : k ∉ kvs.map (·.1)) : putD kvs k x = kvs ++ [(k, x)] := by
  unfold putD
  rw [if_neg]
  rw [List.any_eq_true]
  rintro ⟨p, hp, e⟩
  exact h (List.mem_map.mpr ⟨p, hp, of_decide_eq_true e⟩)
theorem mergeD_app : ∀ (more kvs : List (Key × D)), ((kvs ++ more).map (·.1)).Nodup → mergeD kvs more = kvs ++ more
  | [], kvs, _ => (List.append_nil kvs).symm
  | (k, x) :: r, kvs, h => by
    show mergeD (putD kvs k x) r = _
    have hk : k ∉ kvs.map (·.1) := fun hm => by
      rw [List.map_append, List.nodup_append] at h
      exact h.2.2 k hm k (by simp) rfl
    rw [putD_new hk, mergeD_app r _ (by simpa using h)]
    simp
theorem mergeD_nd {l : List (Key × D)} (h : (l.map (·.1)).Nodup) : mergeD [] l = l := mergeD_app l [] (by simpa using h)
end

/-! ### enumerate, zip -/
section
variable {ta : TA} {ρ : List SV} {C : List D → List SV → Prop}
theorem walkD_enumL {p : Addr} {xs : List D} : WalkD K (Ite K p) (enumD xs) [.d (.lst xs)] [.ref p] (fun _ => True) where
  na := rfl
  len := rfl
  goes := fun b ρ σ θ τ H i _ S hi => by
    obtain ⟨G, fp, fq, S⟩ := S
    obtain ⟨p', ws, e1, e2, e3⟩ := SatG.top S
    cases e1
    have hl : i < ws.length := by rw [reps_len e3, ← enumD_len]; exact hi
    exact ⟨ws, ws[i], .inl (.inl (S.gh _ _ e2)), by simp [hl]⟩
  stops := fun b ρ σ θ τ H _ S => by
    obtain ⟨G, fp, fq, S⟩ := S
    obtain ⟨p', ws, e1, e2, e3⟩ := SatG.top S
    cases e1
    exact ⟨ws, .inl (.inl (S.gh _ _ e2)), by rw [reps_len e3, enumD_len]; exact Nat.le_refl _⟩
  yields := fun b ρ σ θ τ H i x v H' _ S hx y => by
    obtain ⟨G, fp, fq, S⟩ := S
    obtain ⟨p', ws, e1, e2, e3⟩ := SatG.top S
    cases e1
    obtain ⟨a, ha, rfl⟩ := enumD_get hx
    obtain ⟨T, z, rfl, hT, rfl, hy⟩ := y
    obtain ⟨u, hu, ru⟩ := reps_get e3 ha
    have := hy ws (.inl (.inl (S.gh _ _ e2)))
    rw [hu] at this
    cases this
    have gT := S.free hT
    exact ⟨_, fp, fq, (S.lay hT).push ⟨T, _, rfl, upd_same, ⟨_, _, rfl, rfl, _, [], rfl, rep_laid gT ru, rfl⟩⟩⟩
theorem walkD_enumT {p : Addr} {xs : List D} : WalkD K (IteT K p) (enumD xs) [.d (.tup xs)] [.ref p] (fun _ => True) where
  na := rfl
  len := rfl
  goes := fun b ρ σ θ τ H i _ S hi => by
    obtain ⟨G, fp, fq, S⟩ := S
    obtain ⟨p', ws, e1, e2, e3⟩ := SatG.top S
    cases e1
    have hl : i < ws.length := by rw [reps_len e3, ← enumD_len]; exact hi
    exact ⟨ws, ws[i], .inl (.inl (S.gh _ _ e2)), by simp [hl]⟩
  stops := fun b ρ σ θ τ H _ S => by
    obtain ⟨G, fp, fq, S⟩ := S
    obtain ⟨p', ws, e1, e2, e3⟩ := SatG.top S
    cases e1
    exact ⟨ws, .inl (.inl (S.gh _ _ e2)), by rw [reps_len e3, enumD_len]; exact Nat.le_refl _⟩
  yields := fun b ρ σ θ τ H i x v H' _ S hx y => by
    obtain ⟨G, fp, fq, S⟩ := S
    obtain ⟨p', ws, e1, e2, e3⟩ := SatG.top S
    cases e1
    obtain ⟨a, ha, rfl⟩ := enumD_get hx
    obtain ⟨T, z, rfl, hT, rfl, hy⟩ := y
    obtain ⟨u, hu, ru⟩ := reps_get e3 ha
    have := hy ws (.inl (.inl (S.gh _ _ e2)))
    rw [hu] at this
    cases this
    have gT := S.free hT
    exact ⟨_, fp, fq, (S.lay hT).push ⟨T, _, rfl, upd_same, ⟨_, _, rfl, rfl, _, [], rfl, rep_laid gT ru, rfl⟩⟩⟩
theorem wi_enum (h : WA K ta ρ fun zs ρ1 => ∃ z xs ρ2, zs = [z] ∧ (fzT z ρ1 = some (.lst xs, ρ2) ∨ fzT z ρ1 = some (.tup xs, ρ2)) ∧ C (enumD xs) ρ2) : WI K (iEnumA K ta) ρ C := fun b σ H θ τ R S q =>
  h b σ H θ τ _ S fun zs ρ1 vs H1 ⟨z, xs, ρ2, ez, hf, k⟩ S1 hl => by
    subst ez
    obtain ⟨v, rfl⟩ := one1 hl
    have S1 : Sat K b ρ1 σ (z :: θ) (v :: τ) H1 := S1
    rcases hf with hf | hf
    · obtain ⟨G, fp, fq, S2⟩ := S1.fz hf
      obtain ⟨p, ws, e1, e2, e3⟩ := SatG.top S2
      subst e1
      exact .inl ⟨p, ws, rfl, .inl (.inl (S2.gh _ _ e2)), q _ _ _ _ ρ2 H1 _ k True.intro walkD_enumL ⟨G, fp, fq, S2⟩⟩
    · obtain ⟨G, fp, fq, S2⟩ := S1.fz hf
      obtain ⟨p, ws, e1, e2, e3⟩ := SatG.top S2
      subst e1
      exact .inr ⟨p, ws, rfl, .inl (.inl (S2.gh _ _ e2)), q _ _ _ _ ρ2 H1 _ k True.intro walkD_enumT ⟨G, fp, fq, S2⟩⟩
def zipD (xs ys : List D) : List D := xs.zipWith (fun x y => .tup [x, y]) ys
theorem zipD_get {xs ys : List D} {i : Nat} {x : D} (h : (zipD xs ys)[i]? = some x) : ∃ a c, xs[i]? = some a ∧ ys[i]? = some c ∧ x = .tup [a, c] := by
  unfold zipD at h
  rw [List.getElem?_zipWith] at h
  cases e : xs[i]? with
  | none => rw [e] at h; cases h
  | some a =>
    cases e2 : ys[i]? with
    | none => rw [e, e2] at h; cases h
    | some c => rw [e, e2] at h; cases h; exact ⟨a, c, rfl, rfl, rfl⟩
theorem zipD_len (xs ys : List D) : (zipD xs ys).length = min xs.length ys.length := by simp [zipD]
theorem walkD_zipL {p p' : Addr} {xs ys : List D} : WalkD K (Itz K p p') (zipD xs ys) [.d (.lst ys), .d (.lst xs)] [.ref p', .ref p] (fun _ => True) where
  na := rfl
  len := rfl
  goes := fun b ρ σ θ τ H i _ S hi => by
    obtain ⟨G, fp, fq, S⟩ := S
    obtain ⟨_, us, e1, e2, e3⟩ := SatG.top S
    obtain ⟨fq', S'⟩ := S.drop
    obtain ⟨_, ws, e4, e5, e6⟩ := SatG.top S'
    cases e1; cases e4
    rw [zipD_len] at hi
    have h1 : i < ws.length := by rw [reps_len e6]; omega
    have h2 : i < us.length := by rw [reps_len e3]; omega
    exact ⟨ws, us, ws[i], us[i], .inl (.inl (S.gh _ _ e5)), .inl (.inl (S.gh _ _ e2)), by simp [h1], by simp [h2]⟩
  stops := fun b ρ σ θ τ H _ S => by
    obtain ⟨G, fp, fq, S⟩ := S
    obtain ⟨_, us, e1, e2, e3⟩ := SatG.top S
    obtain ⟨fq', S'⟩ := S.drop
    obtain ⟨_, ws, e4, e5, e6⟩ := SatG.top S'
    cases e1; cases e4
    refine ⟨ws, us, .inl (.inl (S.gh _ _ e5)), .inl (.inl (S.gh _ _ e2)), ?_⟩
    rw [zipD_len, reps_len e3, reps_len e6]
    omega
  yields := fun b ρ σ θ τ H i x v H' _ S hx y => by
    obtain ⟨G, fp, fq, S⟩ := S
    obtain ⟨_, us, e1, e2, e3⟩ := SatG.top S
    obtain ⟨fq', S'⟩ := S.drop
    obtain ⟨_, ws, e4, e5, e6⟩ := SatG.top S'
    cases e1; cases e4
    obtain ⟨a, c, ha, hc, rfl⟩ := zipD_get hx
    obtain ⟨T, z1, z2, rfl, hT, rfl, hy1, hy2⟩ := y
    obtain ⟨u, hu, ru⟩ := reps_get e6 ha
    obtain ⟨w, hw, rw'⟩ := reps_get e3 hc
    have t1 := hy1 ws (.inl (.inl (S.gh _ _ e5)))
    have t2 := hy2 us (.inl (.inl (S.gh _ _ e2)))
    rw [hu] at t1; rw [hw] at t2
    cases t1; cases t2
    have gT := S.free hT
    exact ⟨_, fp, fq, (S.lay hT).push ⟨T, _, rfl, upd_same, ⟨_, _, rfl, rep_laid gT ru, _, [], rfl, rep_laid gT rw', rfl⟩⟩⟩
theorem walkD_zipT {p p' : Addr} {xs ys : List D} : WalkD K (RZ.ItzT K p p') (zipD xs ys) [.d (.tup ys), .d (.tup xs)] [.ref p', .ref p] (fun _ => True) where
  na := rfl
  len := rfl
  goes := fun b ρ σ θ τ H i _ S hi => by
    obtain ⟨G, fp, fq, S⟩ := S
    obtain ⟨_, us, e1, e2, e3⟩ := SatG.top S
    obtain ⟨fq', S'⟩ := S.drop
    obtain ⟨_, ws, e4, e5, e6⟩ := SatG.top S'
    cases e1; cases e4
    rw [zipD_len] at hi
    have h1 : i < ws.length := by rw [reps_len e6]; omega
    have h2 : i < us.length := by rw [reps_len e3]; omega
    exact ⟨ws, us, ws[i], us[i], .inl (.inl (S.gh _ _ e5)), .inl (.inl (S.gh _ _ e2)), by simp [h1], by simp [h2]⟩
  stops := fun b ρ σ θ τ H _ S => by
    obtain ⟨G, fp, fq, S⟩ := S
    obtain ⟨_, us, e1, e2, e3⟩ := SatG.top S
    obtain ⟨fq', S'⟩ := S.drop
    obtain ⟨_, ws, e4, e5, e6⟩ := SatG.top S'
    cases e1; cases e4
    refine ⟨ws, us, .inl (.inl (S.gh _ _ e5)), .inl (.inl (S.gh _ _ e2)), ?_⟩
    rw [zipD_len, reps_len e3, reps_len e6]
    omega
  yields := fun b ρ σ θ τ H i x v H' _ S hx y => by
    obtain ⟨G, fp, fq, S⟩ := S
    obtain ⟨_, us, e1, e2, e3⟩ := SatG.top S
    obtain ⟨fq', S'⟩ := S.drop
    obtain ⟨_, ws, e4, e5, e6⟩ := SatG.top S'
    cases e1; cases e4
    obtain ⟨a, c, ha, hc, rfl⟩ := zipD_get hx
    obtain ⟨T, z1, z2, rfl, hT, rfl, hy1, hy2⟩ := y
    obtain ⟨u, hu, ru⟩ := reps_get e6 ha
    obtain ⟨w, hw, rw'⟩ := reps_get e3 hc
    have t1 := hy1 ws (.inl (.inl (S.gh _ _ e5)))
    have t2 := hy2 us (.inl (.inl (S.gh _ _ e2)))
    rw [hu] at t1; rw [hw] at t2
    cases t1; cases t2
    have gT := S.free hT
    exact ⟨_, fp, fq, (S.lay hT).push ⟨T, _, rfl, upd_same, ⟨_, _, rfl, rep_laid gT ru, _, [], rfl, rep_laid gT rw', rfl⟩⟩⟩
theorem wi_zip (h : WA K ta ρ fun zs ρ1 => ∃ xs ys ρ2, (fzA zs.reverse ρ1 [] = some ([.lst xs, .lst ys], ρ2) ∨ fzA zs.reverse ρ1 [] = some ([.tup xs, .tup ys], ρ2)) ∧ C (zipD xs ys) ρ2) : WI K (RZ.iZipA K ta) ρ C := fun b σ H θ τ R S q =>
  h b σ H θ τ _ S fun zs ρ1 vs H1 ⟨xs, ys, ρ2, hf, k⟩ S1 hl => by
    rcases hf with hf | hf
    · obtain ⟨G, fp, fq, S2, r⟩ := S1.args hl hf
      obtain ⟨u, t, rfl, r1, w, t', rfl, r2, e⟩ := r
      have e : t' = [] := e
      subst e
      obtain ⟨p, ws, rfl, a2, a3⟩ := id r1
      obtain ⟨p', us, rfl, b2, b3⟩ := id r2
      exact ⟨p, p', ws, us, rfl, .inl ⟨.inl (.inl (S2.gh _ _ a2)), .inl (.inl (S2.gh _ _ b2)), q _ _ _ _ ρ2 H1 _ k True.intro walkD_zipL ⟨G, fp, fq, (S2.push r1).push r2⟩⟩⟩
    · obtain ⟨G, fp, fq, S2, r⟩ := S1.args hl hf
      obtain ⟨u, t, rfl, r1, w, t', rfl, r2, e⟩ := r
      have e : t' = [] := e
      subst e
      obtain ⟨p, ws, rfl, a2, a3⟩ := id r1
      obtain ⟨p', us, rfl, b2, b3⟩ := id r2
      exact ⟨p, p', ws, us, rfl, .inr ⟨.inl (.inl (S2.gh _ _ a2)), .inl (.inl (S2.gh _ _ b2)), q _ _ _ _ ρ2 H1 _ k True.intro walkD_zipT ⟨G, fp, fq, (S2.push r1).push r2⟩⟩⟩
end

/-! ### a def that changes its first argument -/
section
variable {P : Program} {w : World} {mg : Str → Option Value} {base : Heap}
theorem fn_str {x qual : Str} {st : Stmt} {f : Addr} {fd : FuncData} {N ps : List Str} {k : Nat} {S : Type} {O : S → Own} {pre : S → List D → Prop} {post : S → List D → S → D → Prop} (F : Fun K x qual st f fd) (SC : FnScope N ps (defScope st))
    (adr : S → Addr) (len : ∀ s ds, pre s ds → ds.length + 1 = ps.length) (hO : ∀ (s : S) K G H v fp, (O s).R K G H v fp → v = .ref (adr s) ∧ fp.Nodup) (hA : ∀ s ds s' d, post s ds s' d → adr s' = adr s)
    (hbody : ∀ (cdv : Value) (A : Around) (outer : List Env) (s : Shared) (H : Hp) (E : XK) (st0 : S) (ds : List D), Room k (A.deeper (PyProof.Rows.envOfC qual (defScope st) s.heap.objs.size f cdv)) → pre st0 ds →
      ∃ t, PSs (cxOf CX0 P w K mg base N qual (defScope st) f cdv A outer s H E).nox (defBody st) t ∧
        WS K t (slots N (.own (O st0) :: ds.map SV.d)) { nx := fun ρ => ∃ st1, ρ[0]? = some (.own (O st1)) ∧ post st0 ds st1 .non, rt := fun z ρ => ∃ x ρ' st1, fzT z ρ = some (x, ρ') ∧ ρ'[0]? = some (.own (O st1)) ∧ post st0 ds st1 x }) : FnOk P w K mg base CX0 (k + 1) f fd ps (spS K O pre post) := by
  refine F.ok SC (fun vs H Q E h => ?_) (fun cdv A outer s H vs Q E hr h => ?_)
  · obtain ⟨G, st0, ds, u, ws, fp, rfl, _, _, _, _, r, hp, _⟩ := h
    rw [List.length_cons, reps_len r]; exact len st0 ds hp
  · obtain ⟨G, st0, ds, u, ws, fp, rfl, gh, hR, hG, hnd, r, hp, q⟩ := h
    obtain ⟨t, h1, h2⟩ := hbody cdv A outer s H E st0 ds hr hp
    have hu := (hO _ _ _ _ _ _ hR).1
    let bH : Hp := fun p => if p ∈ fp then none else H p
    have bin : ∀ p, p ∈ fp → bH p = none := fun p hp => if_pos hp
    have bout : ∀ p, p ∉ fp → bH p = H p := fun p hp => if_neg hp
    have fin : ∀ (st1 : S) (x : D) (ρ' : List SV) (σ' : L2.St) (v : V) (H' : Hp), post st0 ds st1 x → ρ'[0]? = some (.own (O st1)) → (∃ G' fp' fq', SatG K ⟨G, bH⟩ ρ' σ' [] [] H' G' fp' fq' ∧ rep K G' x v) → Q v H' := by
      rintro st1 x ρ' σ' v H' hpo h0 ⟨G', fp', fq', S2, rx⟩
      obtain ⟨o, f1, f2, f3, e1, e2, ⟨v', e3, hR'⟩⟩ := S2.sl.get h0
      have hu' := (hO _ _ _ _ _ _ hR').1
      have eu : v' = u := by rw [hu', hu, hA _ _ _ _ hpo]
      rw [eu] at hR'
      have o2 : ∀ p ∈ f2, G' p = none ∧ bH p = none := fun p hp => S2.out p (by rw [e2]; simp [hp])
      refine q st1 x v G' H' f2 hpo S2.gg S2.gh (fun p o hn e => S2.hh p o ((bout p hn).trans e)) (fun p hn h1 h2 => S2.sep p (by show bH p ≠ none; rw [bout p hn]; exact h1) h2) S2.fr hR' (fun p hp => ⟨(o2 p hp).1, ?_⟩) (hO _ _ _ _ _ _ hR').2 rx
      by_cases hm : p ∈ fp
      · exact .inl hm
      · exact .inr ((bout p hm).symm.trans (o2 p hp).2)
    refine ⟨t, h1, h2 ⟨G, bH⟩ _ H [] [] _ rfl ?_ (fun ρ' σ' H' ⟨st1, e1, e2⟩ S1 => ?_) (fun z ρ' σ' v H' hz S1 => ?_) (fun _ _ _ z _ => z.elim) (fun _ _ _ z _ => z.elim)⟩
    · have c : Cells K G H [] (slots N (.own (O st0) :: ds.map SV.d)) (L2.start N (u :: ws)) (fp ++ ([] ++ [])) := by
        have c1 := (cells_d (H := H) (σ0 := []) r).app (cells_any (K := K) (G := G) (H := H) (σ0 := []) (N.length - (ws.length + 1)))
        unfold slots L2.start
        rw [List.length_cons, List.length_map, ← reps_len r]
        exact .cons ⟨u, rfl, hR⟩ c1
      refine ⟨G, _, [], Ex.refl G, fun p o e => ?_, gh, fun p _ h => h, fun a o u h => h, c, .nil, fun p hp => ?_, by simpa using hnd⟩
      · by_cases hm : p ∈ fp
        · rw [show (Bs.mk G bH).H p = none from bin p hm] at e; cases e
        · rw [show (Bs.mk G bH).H p = H p from bout p hm] at e; exact e
      · have hp : p ∈ fp := by simpa using hp
        exact ⟨hG p hp, bin p hp⟩
    · obtain ⟨G', fp', fq', S2⟩ := S1
      exact fin st1 .non ρ' σ' .non H' e2 e1 ⟨G', fp', fq', S2, rfl⟩
    · obtain ⟨x, ρ'', st1, e, e0, hx⟩ := hz
      obtain ⟨G', fp', fq', S2⟩ := S1.fz e
      have rx := SatG.top S2
      obtain ⟨fq2, S3⟩ := S2.drop
      exact fin st1 x ρ'' σ' v H' hx e0 ⟨G', fp', fq2, S3, rx⟩
end
end DL

set_option Elab.async false
set_option linter.all false
set_option maxRecDepth 100000
namespace L2
open PySem PySem.Spec PyProof.Rows
variable {X : Cx}
theorem pi_seq {tg l : Expr} {tl : TE} (hl : PE X l tl) : PI X tg l (DL.iSeq X.K tl) := by
  refine ⟨fun pins s σ H R I h => ?_⟩
  refine thn (hl.run pins s σ H _ I h) fun v s1 ⟨x, H1, I1, r1, q1⟩ => ?_
  have fp : ∀ b ∈ [s1.heap.objs.size], FpOk X pins H1 b := fun b hb => by
    have e : b = s1.heap.objs.size := by simpa using hb
    subst e
    exact I1.fpOk (Nat.le_refl _) (I1.hok.fresh (Nat.le_refl _))
  rcases q1 with ⟨a, e, ⟨xs, hq⟩, q⟩ | ⟨a, e, ⟨xs, hq⟩, q⟩
  · subst e
    cases r1
    obtain ⟨its, rv, p, hz⟩ := I1.list hq
    refine wpAny_pyIter_list p.isList ?_
    exact ⟨s1.heap.objs.size, [s1.heap.objs.size], _, _, H1, rfl, I1.kept (t' := s1.toks) fun b o e => Heap.get?_push_of_some _ e, turn_list a _, ⟨_, Heap.get?_push_size _ rfl, rfl, rfl⟩, fp, q⟩
  · subst e
    cases r1
    obtain ⟨its, rv, p, hz⟩ := I1.tuple hq
    refine wpAny_pyIter_tuple (show s1.heap.IsTuple a its.toArray from p) ?_
    exact ⟨s1.heap.objs.size, [s1.heap.objs.size], _, _, H1, rfl, I1.kept (t' := s1.toks) fun b o e => Heap.get?_push_of_some _ e, turn_tuple a _, ⟨_, Heap.get?_push_size _ rfl, rfl, rfl⟩, fp, q⟩
def rDictA (K : PySem.W.Frag) : List V → Hp → VK → Prop := fun xs H Q => ∃ (a : Addr) (ps : List Addr) (kvs : List (Key × V)), xs = [.ref a] ∧ SqL K H a (ps.map V.ref) ∧ Paired (fun p kv => SqT K H p [kV kv.1, kv.2]) ps kvs ∧
    ∀ p, H p = none → Q (.ref p) (upd H p (.dK (mergeK [] kvs)))
theorem call_dictA (hc : X.calm = true) : CallR X (.type "dict") (rDictA X.K) := call_dictP hc
/-- {t: v}, t a tuple -/
def tDispT (tk tv : TE) : TE := fun σ H Q => ∀ p, H p = none → tk σ (upd H p (.dT [])) fun x H1 => tv σ H1 fun y H2 => H2 p = some (.dT []) ∧ ∃ a ks, x = .ref a ∧ H2 a = some (.tup (List.map kV ks)) ∧ Q (.ref p) (upd H2 p (.dT [(ks, y)]))
theorem pe_dispT {k v : Expr} {pos : Pos} {tk tv : TE} (hu : X.A.units + 1 < cLine) (hk : PE X k tk) (hv : PE X v tv) : PE X (.Dict [some k] [v] pos) (tDispT tk tv) := by
  refine ⟨fun pins s σ H Q I q => ?_⟩
  have hn := I.hok.fresh (Nat.le_refl s.heap.objs.size)
  have I1 := I.laid (a := s.heap.objs.size) (o := .dT []) (h' := s.heap.push { cls := .type "dict", data := .dict #[] }) (t' := s.toks) (fun _ _ q => Heap.get?_push_of_some _ q) (Nat.le_refl _) (dt_empty s.heap I.big)
  have hlen : (pairTrees [some k] [v] X.env pos).length = 1 := pairTrees_length [some k] [v] X.env pos rfl rfl
  have h0 : pairTrees [some k] [v] X.env pos ≠ [] := fun e => by rw [e] at hlen; cases hlen
  rw [arm_eval_Dict, zip_pairTrees [some k] [v] X.env pos rfl rfl, dictDisplay_pairs _ h0 (by rw [hlen]; decide)]
  refine wpAny_bind (wpAny_standAt (wpAny_bind ?_))
  refine wpAny_subDictH (knd := tupleKind (mixKind X.prog X.w)) (Q := fun d s' => wpAny (model X.prog X.w) X.A (pure (Value.ref d)) (EP X pins σ Q) X.xe s') (show X.A.units < cLine by omega) (by rw [hlen]; decide) ?_
  refine pairTrees_cons_walk (thn (hk.run pins _ σ _ _ I1 (q _ hn)) fun kv s2 ⟨x, H2, I2, rx, q2⟩ => thn (hv.run pins s2 σ H2 _ I2 q2) fun vv s3 ⟨y, H3, I3, ry, e, a, ks, ex, ea, q3⟩ => pairTrees_nil_walk ?_)
  subst ex
  obtain rfl : kv = Value.ref a := rx
  obtain ⟨z, hd, vs0, r0, dd⟩ := dt_of I3.hok e
  cases r0
  refine ⟨[(ks, a, vv)], ⟨rfl, rfl, key_of I3.hok ea, True.intro⟩, dd, fun h' tk dd' hs => wpAny_pure ⟨.ref s.heap.objs.size, _, ?_, rfl, q3⟩⟩
  obtain ⟨ob, es, ep, hq, h2, h3, h4, _, h5⟩ := dd'
  refine d_write (t' := tk) I3 (by rw [e]; exact True.intro) hs ⟨ob, hq⟩ ⟨by show 1 ≤ sizeLine; rw [sizeLine_eq]; decide, hd, [(ks, a, vv)], Paired.cons ⟨rfl, ?_, ry⟩ .nil, ob, es, ep, hq, h2, h3, h4, h5⟩
  rw [upd_ne (ne_of ea e (fun z => nomatch z))]
  exact ea
theorem paired_got {α β : Type} {F : α → β → Prop} : ∀ {xs : List α} {ys : List β}, Paired F xs ys → ∀ {i : Nat} {y : β}, ys[i]? = some y → ∃ x, xs[i]? = some x ∧ F x y
  | _, _, .nil, i, y, h => by cases h
  | _, _, .cons r t, 0, y, h => by
    have e := Option.some.inj h
    subst e
    exact ⟨_, rfl, r⟩
  | _, _, .cons r t, i + 1, y, h => paired_got t h
/-- any(d.values()), the values lists -/
def rAnyVals (K : PySem.W.Frag) : V → Hp → VK → Prop := fun x H Q => ∃ (d : Addr) (kvs : List (Key × V)) (ls : List (List V)), x = .ref d ∧ Rd H d (.dK kvs) ∧ kvs.length = ls.length ∧ (∀ (i : Nat) (v : V) (l : List V), (kvs[i]?).map (·.2) = some v → ls[i]? = some l → ∃ p, v = .ref p ∧ SqL K H p l) ∧
  Q (.bl (ls.any fun l => !l.isEmpty)) H
def tAnyVals (K : PySem.W.Frag) (te : TE) : TE := fun σ H Q => te σ H fun x H1 => rAnyVals K x H1 Q
theorem boot_any : bootBuiltins "any" = some (.builtin "any") := by decide +kernel
theorem pe_anyVals {e : Expr} {te : TE} {p apos cpos pos : Pos} (hc : X.calm = true) (he : PE X e te) (hg : Gl X "any") (hm : X.mg "any" = none) (hbase : attributeBase e "values" X.env (eval e X.env) = eval e X.env := by rfl) (hline : (apos.endLine == cpos.line) = true := by rfl)
    (hs : starEach [.Call (.Attribute e "values" apos) [] [] cpos] X.env = (false, eval (.Call (.Attribute e "values" apos) [] [] cpos) X.env) :: starEach [] X.env := by rfl) :
    PE X (.Call (.Name "any" p) [.Call (.Attribute e "values" apos) [] [] cpos] [] pos) (tAnyVals X.K te) := by
  refine ⟨fun pins s σ H Q I hq => ?_⟩
  refine wpAny_Call_Name_kw (ld_blt I hg hm boot_any ?_)
  refine Calls.callWith_builtin rfl (Calls.evalArgs_plain ?_)
  show wpAny _ _ (spliced ((false, eval (.Call (.Attribute e "values" apos) [] [] cpos) X.env) :: backTo pos (starEach [] X.env))) _ _ s
  refine Calls.spliced_cons ?_
  refine wpAny_Call_method (T := "dict") (id := "dict.values") hbase rfl hline F.plainAttrs_dict F.slot_dict_values F.type_dict_values (thn (he.run pins s σ H _ I hq) fun u s1 ⟨x, H1, I1, rx, d, kvs, ls, ex, hd, hll, hls, q⟩ => ?_)
  subst ex
  obtain rfl : u = Value.ref d := rx
  obtain ⟨hz, hs0, vs, kv, hdo⟩ := dk_rd I1.hok hd
  obtain ⟨ep, hat⟩ := hdo.dictAt
  have lk : kvs.length = vs.length := Paired.length kv
  have I2 : Inv X pins σ H1 { s1 with heap := s1.heap.push { cls := .type "dict_values", data := .fields #[.ref d] } } := I1.kept (t' := s1.toks) fun b ob q => Heap.get?_push_of_some _ q
  refine ⟨hdo.typeIs, hdo.mapOf.noDict, ?_⟩
  show wpAny _ _ (callWith cpos (.builtin "dict.values") [.ref d] [] []) _ X.xe s1
  refine method_meetsIn F.slot_dict_values F.entry_dict_values rfl (PySem.evalArgs_none ⟨rfl, hdo.typeIs, F.args_dict_values_1 _, _, meets_dict_values (mixKind X.prog X.w) d hs0, ⟨vs, hdo⟩, ?_⟩)
  refine Calls.spliced_nil ?_
  refine call_any_walkH (wpAny_pyIter_values (d := d) (knd := mixKind X.prog X.w) ⟨_, Heap.get?_push_size _ rfl, rfl, rfl⟩ (hat.push _) ?_)
  have hdlt : d < s1.heap.objs.size := by
    obtain ⟨o, es, ho, _⟩ := hat
    exact Heap.lt_size ho
  have I3 : Inv X pins σ H1 { s1 with heap := (s1.heap.push { cls := .type "dict_values", data := .fields #[.ref d] }).push { cls := .type "dict_valueiterator", data := .fields #[.ref d, .int 0 0, .int vs.length 0, .int ep 0] } } := I2.kept (t' := s1.toks) fun b ob q => Heap.get?_push_of_some _ q
  have esz : (s1.heap.push { cls := .type "dict_values", data := .fields #[.ref d] } : Heap).objs.size = s1.heap.objs.size + 1 := by simp [Heap.push]
  refine ⟨_, _, _, _, _, _, _, s1.heap, fun i => !(ls.getD i []).isEmpty, rfl, (Walks.dictValues (knd := mixKind X.prog X.w) (A := X.A.in1) (I1.ok.hd hc) _ d (Nat.ne_of_lt (by rw [esz]; exact Nat.lt_succ_of_lt hdlt)) vs ep).toS, ⟨⟨_, Heap.get?_push_size _ rfl, rfl, rfl⟩, (hat.push _).push _⟩, fun b o e hb => ?_, fun b o e => Heap.get?_push_of_some _ (Heap.get?_push_of_some _ e), ?_, fun s' m => ?_⟩
  · have e2 := List.mem_singleton.mp hb
    have h1 := Heap.lt_size e
    have h2 : b = (s1.heap.push { cls := .type "dict_values", data := .fields #[.ref d] } : Heap).objs.size := e2
    rw [esz] at h2
    rw [h2] at h1
    exact absurd h1 (Nat.not_lt.mpr (Nat.le_succ _))
  · intro i v s' Q' E hk ⟨k, hi⟩ hq'
    have hlt : i < vs.length := (List.getElem?_eq_some_iff.mp hi).1
    obtain ⟨qv, g1, g2⟩ := paired_got kv hi
    have hl : i < ls.length := by omega
    obtain ⟨pp, e1, e2⟩ := hls i qv.2 ls[i] (by rw [g1]; rfl) (by simp [hl])
    have rv : RelV qv.2 v := g2.2
    rw [e1] at rv
    obtain rfl : v = Value.ref pp := rv
    obtain ⟨its, rvs, pl, hzz⟩ := I1.list e2
    have eg : ls.getD i [] = ls[i] := by simp [List.getD, hl]
    obtain ⟨o, n, h1, h2, h3, h4⟩ := pl
    refine wpAny_truthy_list (items := its.toArray) ⟨o, hk _ _ h1, h2, n, h4⟩ (by
      rw [List.size_toArray]
      have : sizeLine = 16777216 := sizeLine_eq
      have hv := rvs.length
      have hb : (2 : Int) ^ 63 = 9223372036854775808 := by decide
      omega) ?_
    have e3 : its.toArray.isEmpty = ls[i].isEmpty := by
      have := rvs.length
      cases h : ls[i] with
      | nil => rw [h] at this; cases its with | nil => rfl | cons _ _ => cases this
      | cons a r => rw [h] at this; cases its with | nil => cases this | cons _ _ => rfl
    have hq' : ∀ tk, s'.toks ≤ tk → Q' (!(ls.getD i []).isEmpty) { s' with toks := tk } := hq'
    rw [eg, ← e3] at hq'
    exact hq' _ (Nat.le_succ_of_le (Nat.le_succ _))
  · obtain ⟨h', tk, rfl, hk'⟩ := PySem.W.moved_old (s := { s1 with heap := s1.heap.push { cls := .type "dict_values", data := .fields #[.ref d] } }) rfl rfl m
    refine ⟨.bl _, H1, I2.kept hk', ?_, q⟩
    show Value.bool _ = Value.bool _
    rw [← lk, hll, PySem.W.range_any (fun l : List V => !l.isEmpty) [] ls]
/-- list(d.items()) -/
def rItemsR : V → Hp → VK → Prop := fun x H Q => ∃ (d : Addr) (kvs : List (Key × V)), x = .ref d ∧ Rd H d (.dK kvs) ∧
  ∀ (H' : Hp) (p : Addr) (ts : List Addr), (∀ b o, H b = some o → H' b = some o) → H p = none → (∀ t ∈ ts, H t = none) → p ∉ ts → H' p = some (.lst (ts.map V.ref)) → Paired (fun (t : Addr) (q : Key × V) => H' t = some (.tup [kV q.1, q.2])) ts kvs → Q (.ref p) H'
def tListItemsR (te : TE) : TE := fun σ H Q => te σ H fun x H1 => rItemsR x H1 Q
theorem pe_listItemsR {e : Expr} {te : TE} {p apos cpos pos : Pos} (hc : X.calm = true) (he : PE X e te) (hg : Gl X "list") (hm : X.mg "list" = none) (hv : bootBuiltins "list" = some (.type "list")) (hbase : attributeBase e "items" X.env (eval e X.env) = eval e X.env := by rfl) (hline : (apos.endLine == cpos.line) = true := by rfl)
    (hs : starEach [.Call (.Attribute e "items" apos) [] [] cpos] X.env = (false, eval (.Call (.Attribute e "items" apos) [] [] cpos) X.env) :: starEach [] X.env := by rfl) :
    PE X (.Call (.Name "list" p) [.Call (.Attribute e "items" apos) [] [] cpos] [] pos) (tListItemsR te) := by
  refine ⟨fun pins s σ H Q I hq => ?_⟩
  refine wpAny_Call_Name_kw (ld_blt I hg hm hv ?_)
  refine PyProof.Rows.callWith_type1 ?_ hs rfl
  rw [hs]
  show wpAny _ _ (spliced ((false, eval (.Call (.Attribute e "items" apos) [] [] cpos) X.env) :: backTo pos (starEach [] X.env))) _ _ s
  refine Calls.spliced_cons ?_
  refine wpAny_Call_method (T := "dict") (id := "dict.items") hbase rfl hline F.plainAttrs_dict F.slot_dict_items F.type_dict_items (thn (he.run pins s σ H _ I hq) fun u s1 ⟨x, H1, I1, rx, d, kvs, ex, hd, q⟩ => ?_)
  subst ex
  obtain rfl : u = Value.ref d := rx
  obtain ⟨hz, hs0, vs, kv, hdo⟩ := dk_rd I1.hok hd
  obtain ⟨ep, hat⟩ := hdo.dictAt
  have lk : kvs.length = vs.length := Paired.length kv
  have I2 : Inv X pins σ H1 { s1 with heap := s1.heap.push { cls := .type "dict_items", data := .fields #[.ref d] } } := I1.kept (t' := s1.toks) fun b ob q => Heap.get?_push_of_some _ q
  refine ⟨hdo.typeIs, hdo.mapOf.noDict, ?_⟩
  show wpAny _ _ (callWith cpos (.builtin "dict.items") [.ref d] [] []) _ X.xe s1
  refine method_meetsIn F.slot_dict_items F.entry_dict_items rfl (PySem.evalArgs_none ⟨rfl, hdo.typeIs, F.args_dict_items_1 _, _, meets_dict_items (mixKind X.prog X.w) d hs0, ⟨vs, hdo⟩, ?_⟩)
  refine Calls.spliced_nil ?_
  refine PySem.W.kdx_call (knd := mixKind X.prog X.w) (kvs := vs) (ep := ep) (I1.ok.hd hc) ⟨_, Heap.get?_push_size _ rfl, rfl, rfl⟩ (hat.push _) (by omega) fun h' tk acc c as hk hS hl hG hacc => ?_
  obtain ⟨H', k1, k2, k3, k4, k5, k6, J⟩ := LiI.items_laid (tk := tk) I2 hz kv hk hS hl hG hacc
  exact ⟨.ref _, H', J, rfl, q H' _ as k1 k2 k3 k4 k5 k6⟩
end L2

set_option Elab.async false
set_option linter.all false
set_option maxRecDepth 100000
namespace DL
open PySem PySem.Spec L2
variable {K : PySem.W.Frag}
section
variable {ρ : List SV} {C : SV → List SV → Prop} {R : Post} {ta tb tc td te tk tv : TE} {i j l : Nat}
/-- a < b < c, ints -/
theorem we_chainI {g g' : Int → Int → V} (h : WE K ta ρ fun x ρ1 => WE K tb ρ1 fun y ρ2 => ∃ i j k, vw x ρ2 = some (.int i) ∧ vw y ρ2 = some (.int j) ∧ g i j = .bl k ∧
    if k = true then WE K tc ρ2 (fun w ρ3 => ∃ l, vw w ρ3 = some (.int l) ∧ C (.d (cD (g' j l))) ρ3) else C (.d (.bl false)) ρ2) : WE K (tChain (rI0 g) (rI0 g') ta tb tc) ρ C := fun b σ H θ τ Q S q =>
  h b σ H θ τ _ S fun x ρ1 v H1 h1 S1 => h1 b σ H1 _ _ _ S1 fun y ρ2 w H2 ⟨i, j, k, hx, hy, hg, hk⟩ S2 => by
    obtain ⟨G, fp, fq, r, r', S3⟩ := S2.vw2 hx hy
    refine ⟨i, j, r, r', k, hg, ?_⟩
    have S3' : Sat K b ρ2 σ θ τ H2 := ⟨G, fp, fq, S3⟩
    cases k with
    | false => exact q _ ρ2 _ H2 hk ⟨G, fp, fq, S3.push rfl⟩
    | true =>
      refine (hk : WE K tc ρ2 _) b σ H2 θ τ _ S3' fun z ρ3 u H3 ⟨l, hl, hc⟩ S4 => ?_
      obtain ⟨G4, fp4, fq4, e4, S5⟩ := S4.vw1 hl
      exact ⟨j, l, r', e4, q _ ρ3 _ H3 hc ⟨G4, fp4, fq4, S5.push (rep_cD _)⟩⟩
theorem noAl_d {z : SV} (h : allD [z] = true) {θ : List SV} (na : noAl θ = true) : noAl (z :: θ) = true := by
  have := noAl_app (zs := [z]) (θ := θ) h na
  simpa using this
/-- a, b = x, y -/
theorem ws_par {ta : TA} (hij : i ≠ j) (h : WA K ta ρ fun zs ρ1 => ∃ y z ρ2 ρ3, zs = [y, z] ∧ allD [y] = true ∧ asg j z ρ1 = some ρ2 ∧ asg i y ρ2 = some ρ3 ∧ R.nx ρ3) : WS K (tPar i j ta) ρ R := fun b σ H θ τ D na S q1 _ _ _ =>
  h b σ H θ τ _ S fun zs ρ1 vs H1 ⟨y, z, ρ2, ρ3, ez, hd, h1, h2, hn⟩ S1 hl => by
    subst ez
    obtain ⟨v, w, rfl⟩ := two2 hl
    have S1 : Sat K b ρ1 σ (z :: y :: θ) (w :: v :: τ) H1 := S1
    have S2 := (S1.store (noAl_d hd na) h1).store na h2
    refine ⟨v, w, rfl, q1 _ _ _ hn ?_⟩
    rw [List.set_comm _ _ hij]
    exact S2
theorem ws_par3 {ta : TA} (hij : i ≠ j) (hil : i ≠ l) (hjl : j ≠ l) (h : WA K ta ρ fun zs ρ1 => ∃ x y z ρ2 ρ3 ρ4, zs = [x, y, z] ∧ allD [x] = true ∧ allD [y] = true ∧ asg l z ρ1 = some ρ2 ∧ asg j y ρ2 = some ρ3 ∧ asg i x ρ3 = some ρ4 ∧ R.nx ρ4) : WS K (tPar3 i j l ta) ρ R := fun b σ H θ τ D na S q1 _ _ _ =>
  h b σ H θ τ _ S fun zs ρ1 vs H1 ⟨x, y, z, ρ2, ρ3, ρ4, ez, hd, hd2, h1, h2, h3, hn⟩ S1 hl => by
    subst ez
    obtain ⟨u, v, w, rfl⟩ : ∃ u v w, vs = [u, v, w] := by
      match vs, hl with
      | [u, v, w], _ => exact ⟨u, v, w, rfl⟩
    have S1 : Sat K b ρ1 σ (z :: y :: x :: θ) (w :: v :: u :: τ) H1 := S1
    have S2 := ((S1.store (noAl_d hd2 (noAl_d hd na)) h1).store (noAl_d hd na) h2).store na h3
    refine ⟨u, v, w, rfl, q1 _ _ _ hn ?_⟩
    have e : ((σ.set i (some u)).set j (some v)).set l (some w) = ((σ.set l (some w)).set j (some v)).set i (some u) := by
      rw [List.set_comm (some u) (some v) hij, List.set_comm (some u) (some w) hil, List.set_comm (some v) (some w) hjl]
    show Sat K b ρ4 (((σ.set i (some u)).set j (some v)).set l (some w)) θ τ H1
    rw [e]
    exact S2

/-! ### an instance that is being made -/
def ownI (Ca x : Addr) (fs : List (Str × D)) : Own where
  R := fun K G H v fp => ∃ dx ws, v = .ref x ∧ fp = [x] ∧ H x = some (.ins Ca dx ws) ∧ repF K G fs ws
  dat := some (.ins Ca fs)
  see := none
  mono := fun e ⟨dx, ws, e1, e2, e3, e4⟩ => ⟨dx, ws, e1, e2, e3, repF_le e _ _ e4⟩
  loc := fun e ⟨dx, ws, e1, e2, e3, e4⟩ => ⟨dx, ws, e1, e2, (e x (by rw [e2]; simp)).trans e3, e4⟩
  liv := fun ⟨dx, ws, e1, e2, e3, e4⟩ q hq => by
    rw [e2, List.mem_singleton] at hq
    rw [hq]; exact ⟨_, e3, rfl⟩
  fz := fun {K G H v fp y} hx ⟨dx, ws, e1, e2, e3, e4⟩ hn _ => by
    cases hx
    have hp : G x = none := hn x (by rw [e2]; simp)
    refine ⟨upd G x (.ins Ca dx ws), Ex.upd hp, fun a o h => ?_, ⟨x, dx, ws, e1, upd_same, repF_le (Ex.upd hp).le _ _ e4⟩⟩
    by_cases ha : a = x
    · subst ha; rw [upd_same] at h; cases h; exact .inr ⟨by rw [e2]; simp, e3⟩
    · rw [upd_ne ha] at h; exact .inl h
  sh := fun hx _ => by cases hx
theorem we_make {Ca : Addr} {E : XK} {ta : TA} {pre : Addr × List (Str × D) → List D → Prop} {post : Addr × List (Str × D) → List D → Addr × List (Str × D) → D → Prop}
    (h : WA K ta ρ fun zs ρ1 => ∃ ds ρ2, fzA zs.reverse ρ1 [] = some (ds, ρ2) ∧ ∀ x, pre (x, []) ds ∧ ∀ st' d, post (x, []) ds st' d → d = .non ∧ st'.1 = x ∧ C (.d (.ins Ca st'.2)) ρ2) :
    WE K (tMake Ca (spS K (fun s : Addr × List (Str × D) => ownI Ca s.1 s.2) pre post) [] E ta) ρ C := fun b σ H θ τ Q S q =>
  h b σ H θ τ _ S fun zs ρ1 vs H1 ⟨ds, ρ2, e, hh⟩ S1 hl => by
    obtain ⟨G, fp, fq, S2, r⟩ := S1.args hl e
    intro x dx hx hdx hne
    rw [List.append_nil]
    have hx2 : upd H1 dx (.own x) x = none := by rw [upd_ne hne.symm]; exact hx
    have eH : Ex H1 (upd (upd H1 dx (.own x)) x (.ins Ca dx [])) := (Ex.upd hdx).trans (Ex.upd hx2)
    have gx := S2.free hx
    obtain ⟨hp, hc⟩ := hh x
    refine ⟨G, (x, []), ds, .ref x, vs, [x], rfl, S2.gh.trans eH, ⟨dx, [], rfl, rfl, upd_same, rfl⟩, fun p hp => by rw [List.mem_singleton] at hp; rw [hp]; exact gx, by simp, r, hp, fun st' d v G' H' fp' hd g1 g2 g3 g4 g5 g6 g7 g8 g9 => ?_⟩
    obtain ⟨ed, e2, hC⟩ := hc st' d hd
    subst ed
    refine ⟨g9, q _ ρ2 _ H' hC ?_⟩
    have ef : fp' = [x] := by
      obtain ⟨dx', ws, _, e3, _⟩ := g6
      rw [e3]; exact congrArg (fun a => [a]) e2
    subst ef
    have old : ∀ p, H1 p ≠ none → p ≠ x ∧ H' p = H1 p := fun p hp => by
      have np : p ≠ x := fun z => hp (z ▸ hx)
      refine ⟨np, ?_⟩
      cases z : H1 p with
      | none => exact absurd z hp
      | some o => exact g3 p o (by simpa using np) (eH p o z)
    have hne1 : ∀ p, H1 p ≠ none → upd (upd H1 dx (.own x)) x (.ins Ca dx []) p ≠ none := fun p hp z => by
      cases y : H1 p with
      | none => exact hp y
      | some o => rw [eH p o y] at z; cases z
    have bl : ∀ p, b.H p ≠ none → H1 p ≠ none := fun p hp z => by
      cases e : b.H p with
      | none => exact hp e
      | some o => rw [S2.hh p o e] at z; cases z
    have liv : ∀ p ∈ fp ++ fq, H1 p ≠ none := fun p hp => by
      rcases List.mem_append.mp hp with z | z
      · exact S2.sl.liv p z
      · exact S2.tm.liv p z
    have S5 : SatG K b ρ2 σ (.own (ownI Ca x st'.2) :: θ) (.ref x :: τ) H' G' fp ([x] ++ fq) := by
      refine ⟨S2.gg.trans g1, fun p o z => (old p (bl p (by rw [z]; exact fun y => nomatch y))).2.trans (S2.hh p o z), g2, fun p h1 h2 => g4 p (by simpa using (old p (bl p h1)).1) (hne1 p (bl p h1)) (S2.sep p h1 h2), fun a o u z => S2.fr a o u (g5 a o u z),
        (S2.sl.mono g1.le).loc fun p hp => (old p (S2.sl.liv p hp)).2, .cons ⟨_, rfl, e2 ▸ g6⟩ ((S2.tm.mono g1.le).loc fun p hp => (old p (S2.tm.liv p hp)).2), fun p hp => ?_, ?_⟩
      · have hp : p ∈ fp ∨ p = x ∨ p ∈ fq := by simpa using hp
        have o1 : p ∈ fp ++ fq → G' p = none ∧ b.H p = none := fun hm => ⟨g4 p (by simpa using (old p (liv p hm)).1) (hne1 p (liv p hm)) (S2.out p hm).1, (S2.out p hm).2⟩
        rcases hp with z | z | z
        · exact o1 (List.mem_append_left _ z)
        · subst z
          refine ⟨(g7 p (by simp)).1, ?_⟩
          cases y : b.H p with
          | none => rfl
          | some o => exact absurd hx (bl p (by rw [y]; exact fun y => nomatch y))
        · exact o1 (List.mem_append_right _ z)
      · have nd := S2.nd
        rw [List.nodup_append] at nd
        obtain ⟨n1, n2, n3⟩ := nd
        rw [List.nodup_append]
        refine ⟨n1, ?_, fun a ha c hc => ?_⟩
        · simp only [List.cons_append, List.nil_append, List.nodup_cons]
          exact ⟨fun z => liv x (List.mem_append_right _ z) hx, n2⟩
        · have hc : c = x ∨ c ∈ fq := by simpa using hc
          rcases hc with z | z
          · exact fun y => liv a (List.mem_append_left _ ha) (by rw [y, z]; exact hx)
          · exact n3 a ha c z
    exact Sat.fz (z := .own (ownI Ca x st'.2)) ⟨G', fp, _, S5⟩ rfl
/-- self.f, read while it is made -/
theorem we_fldO {f : Str} (h : WE K te ρ fun z ρ1 => ∃ j Ca x fs a, z = .al j ∧ ρ1[j]? = some (.own (ownI Ca x fs)) ∧ Cls K Ca ∧ NoAttr K Ca f ∧ fs.lookup f = some a ∧ C (.d a) ρ1) : WE K (tFld K te f) ρ C := fun b σ H θ τ Q S q =>
  h b σ H θ τ _ S fun z ρ1 v H1 ⟨j, Ca, x, fs, a, ez, hj, c1, c2, hl, k⟩ S1 => by
    subst ez
    obtain ⟨G, fp, fq, S1⟩ := S1
    have hs := S1.al
    obtain ⟨fq', S2⟩ := S1.drop
    obtain ⟨v', f2, e1, ⟨dx, ws, e2, e3, e4, e5⟩, _, _⟩ := S2.mut hj
    rw [hs] at e1
    cases e1
    obtain ⟨u, hu, ru⟩ := repF_look e5 hl
    exact ⟨x, Ca, dx, ws, u, e2, e4, c1, c2, hu, q _ ρ1 _ H1 k ⟨G, fp, fq', S2.push ru⟩⟩
theorem path_fldO {Ca x : Addr} {fs : List (Str × D)} {f : Str} {kvs : List (Key × D)} (h : ρ[i]? = some (.own (ownI Ca x fs))) (c1 : Cls K Ca) (c2 : NoAttr K Ca f) (hl : fs.lookup f = some (.dK kvs)) : PathK K (tFld K (tVar i) f) ρ kvs := fun b σ θ τ H G fp fq S => by
  obtain ⟨o, f1, f2, f3, e1, e2, ⟨v, e4, dx, fw, e5, e5', e6, e7⟩⟩ := S.sl.get h
  subst e4 e5
  obtain ⟨u, hu, d, ws, e8, e9, e10⟩ := repF_look e7 hl
  subst e8
  exact ⟨d, ws, e9, e10, fun H' Q hi q => ⟨.ref x, e1, x, Ca, dx, fw, .ref d, rfl, hi _ _ _ _ e6, c1, c2, hu, q⟩⟩
theorem repF_len {G : Hp} : ∀ {fs : List (Str × D)} {ws : List (Str × V)}, repF K G fs ws → ws.length = fs.length
  | [], ws, h => by rw [show ws = [] from h]; rfl
  | (c, y) :: t, ws, ⟨u, s, e1, e2, e3⟩ => by rw [e1, List.length_cons, List.length_cons, repF_len e3]
theorem repF_put {G : Hp} {f : Str} {a : D} {v : V} (r : rep K G a v) : ∀ {fs : List (Str × D)} {ws : List (Str × V)}, repF K G fs ws → fs.lookup f = none → repF K G (fs ++ [(f, a)]) (putF f v ws)
  | [], ws, h, _ => by rw [show ws = [] from h]; exact ⟨v, [], rfl, r, rfl⟩
  | (c, y) :: t, ws, ⟨u, s, e1, e2, e3⟩, hl => by
    subst e1
    rw [List.lookup_cons] at hl
    cases hq : f == c with
    | true => rw [hq] at hl; cases hl
    | false =>
      rw [hq] at hl
      have ne : ¬ c = f := fun z => by subst z; simp at hq
      show repF K G ((c, y) :: (t ++ [(f, a)])) (if c = f then (c, v) :: s else (c, u) :: putF f v s)
      rw [if_neg ne]
      exact ⟨u, _, rfl, e2, repF_put r e3 hl⟩
/-- self.f = e -/
theorem ws_setfld {f : Str} (h : WE K tv ρ fun z ρ1 => WE K ta ρ1 fun y ρ2 => ∃ j Ca x fs a ρ3, y = .al j ∧ fzT z ρ2 = some (a, ρ3) ∧ ρ3[j]? = some (.own (ownI Ca x fs)) ∧ Cls K Ca ∧ NoAttr K Ca f ∧ fs.length < 1000 ∧ fs.lookup f = none ∧ R.nx (ρ3.set j (.own (ownI Ca x (fs ++ [(f, a)]))))) : WS K (sFld K ta tv f) ρ R := fun b σ H θ τ D na S q1 _ _ _ =>
  h b σ H θ τ _ S fun z ρ1 v H1 h1 S1 => h1 b σ H1 _ _ _ S1 fun y ρ2 w H2 ⟨j, Ca, x, fs, a, ρ3, ey, hf, hj, c1, c2, hlen, hl, hn⟩ S2 => by
    subst ey
    have hs : σ[j]? = some (some w) := by
      obtain ⟨G, fp, fq, S2⟩ := S2
      exact S2.al
    obtain ⟨G, fp, fq, S3⟩ := (S2.drop).fz hf
    have r := SatG.top S3
    obtain ⟨fq', S4⟩ := S3.drop
    obtain ⟨v', f2, e1, ⟨dx, ws, e2, e3, e4, e5⟩, e6, kk⟩ := S4.mut hj
    rw [hs] at e1
    cases e1
    subst e2 e3
    have hw : ws.length = fs.length := by
      exact repF_len e5
    refine ⟨x, Ca, dx, ws, rfl, e4, c1, c2, by rw [hw]; exact hlen, q1 _ _ _ hn ⟨G, fp, fq', kk _ (ownI Ca x (fs ++ [(f, a)])) (fun c hc => upd_ne (by simpa using hc)) ⟨dx, _, rfl, rfl, upd_same, repF_put r e5 hl⟩⟩⟩

/-! ### a dict written with one pair, its key a tuple -/
theorem we_dispT (h : WE K tk ρ fun x ρ1 => WE K tv ρ1 fun y ρ2 => ∃ xs ks a, x = .d (.tup xs) ∧ dkeys xs = some ks ∧ y = .d a ∧ C (.own (ownT [(ks, a)])) ρ2) : WE K (tDispT tk tv) ρ C := fun b σ H θ τ Q S q p hp => by
  obtain ⟨G, fp, fq, S⟩ := S
  have S1 : Sat K b ρ σ (.own (ownT []) :: θ) (.ref p :: τ) (upd H p (.dT [])) := ⟨G, fp, _, S.owned (O := ownT []) hp ⟨p, [], rfl, rfl, upd_same, rfl⟩⟩
  refine h b σ _ _ _ _ S1 fun x ρ1 v H1 h1 S2 => h1 b σ H1 _ _ _ S2 fun y ρ2 w H2 ⟨xs, ks, a, ex, hk, ey, hc⟩ S3 => ?_
  subst ex ey
  obtain ⟨G3, fp3, fq3, S3⟩ := S3
  have r2 := SatG.top S3
  obtain ⟨fq4, S4⟩ := S3.drop
  obtain ⟨c, us, e1, e2, e3⟩ := SatG.top S4
  have eu := reps_keys hk e3
  subst e1 eu
  obtain ⟨fq5, S5⟩ := S4.drop
  obtain ⟨f2, ⟨p', ws, e4, e5, e6, e7⟩, g1, kk⟩ := S5.mutT (θ1 := []) (τ1 := []) rfl
  cases e4
  subst e5
  have e7 : ws = [] := e7
  subst e7
  refine ⟨e6, c, ks, rfl, S5.gh _ _ e2, q _ ρ2 _ _ hc ⟨G3, fp3, fq5, kk _ (ownT [(ks, a)]) (fun c hc => upd_ne (by simpa using hc)) ⟨p, _, rfl, rfl, upd_same, ⟨w, [], rfl, r2, rfl⟩⟩⟩⟩
end

/-! ### sorted pairs, dict of pairs -/
section
variable {ρ : List SV} {C : SV → List SV → Prop} {x : SV}
def pairSI (p : Str × Int) : D := .tup [.str p.1, .int p.2]
theorem reps_mem {G : Hp} : ∀ {xs : List D} {vs : List V}, reps K G xs vs → ∀ v ∈ vs, ∃ x ∈ xs, rep K G x v
  | [], vs, h, v, hv => by rw [show vs = [] from h] at hv; simp at hv
  | x :: xs, vs, ⟨u, r, e1, e2, e3⟩, v, hv => by
    subst e1
    rcases List.mem_cons.mp hv with e | hv
    · subst e; exact ⟨x, by simp, e2⟩
    · obtain ⟨y, hy, ry⟩ := reps_mem e3 v hv
      exact ⟨y, by simp [hy], ry⟩
theorem wr_sortedSI {l : List (Str × Int)} (h : vw x ρ = some (.lst (l.map pairSI))) (k : ∀ l' : List (Str × Int), l'.Perm l → SrtO.Srtd SrtO.lexSI l' → C (.own (ownL (l'.map pairSI))) ρ) : WR K (rSortedSI K) [x] ρ C := fun b σ H θ τ vs Q S hl q => by
  obtain ⟨v, rfl⟩ := one1 hl
  have S : Sat K b ρ σ (x :: θ) (v :: τ) H := S
  obtain ⟨G, fp, fq, ⟨p, ws, e1, e2, e3⟩, S'⟩ := S.vw1 h
  let kf : V → Str × Int := fun u => match u with
    | .ref t => match G t with
      | some (.tup [.str s, .int i]) => (s, i)
      | _ => (⟨#[]⟩, 0)
    | _ => (⟨#[]⟩, 0)
  have hk : ∀ (m : List (Str × Int)) (us : List V), reps K G (m.map pairSI) us → us.map kf = m ∧ ∀ u ∈ us, ∃ t, u = .ref t ∧ G t = some (.tup [.str (kf u).1, .int (kf u).2]) := by
    intro m
    induction m with
    | nil => intro us r; rw [show us = [] from r]; exact ⟨rfl, fun u hu => by simp at hu⟩
    | cons a m ih =>
      intro us r
      obtain ⟨u, t, f1, ⟨d, ys, f2, f3, z1, y1, f4, f5, z2, y2, f6, f7, f8⟩, f9⟩ := r
      have f8 : y2 = [] := f8
      subst f1 f2 f8 f6 f4
      have f5 : z1 = .str a.1 := f5
      have f7 : z2 = .int a.2 := f7
      subst f5 f7
      obtain ⟨i1, i2⟩ := ih t f9
      have ek : kf (.ref d) = a := by show (match G d with | some (.tup [.str s, .int i]) => (s, i) | _ => (⟨#[]⟩, 0)) = a; rw [f3]
      refine ⟨by rw [List.map_cons, ek, i1], fun w hw => ?_⟩
      rcases List.mem_cons.mp hw with e | hw
      · subst e; exact ⟨d, rfl, by rw [ek]; exact f3⟩
      · exact i2 w hw
  obtain ⟨k1, k2⟩ := hk l ws e3
  refine ⟨p, ws, kf, by rw [e1], .inl (.inl e2), fun u hu => ?_, fun ys a so pm ha => ?_⟩
  · obtain ⟨t, f1, f2⟩ := k2 u hu
    exact ⟨t, f1, S'.gh _ _ f2⟩
  · have rr : ∀ ys : List V, (∀ u ∈ ys, u ∈ ws) → reps K G ((ys.map kf).map pairSI) ys := by
      intro ys
      induction ys with
      | nil => intro _; rfl
      | cons u ys ih =>
        intro hs
        obtain ⟨t, f1, f2⟩ := k2 u (hs u (by simp))
        exact ⟨u, ys, rfl, ⟨t, _, f1, f2, _, _, rfl, rfl, _, [], rfl, rfl, rfl⟩, ih fun w hw => hs w (by simp [hw])⟩
    refine q _ ρ _ _ (k (ys.map kf) (by rw [← k1]; exact pm.map kf) ?_) ⟨G, fp, _, S'.owned (O := ownL _) ha ⟨a, ys, rfl, rfl, upd_same, rr ys fun u hu => pm.mem_iff.mp hu⟩⟩
    exact List.pairwise_map.mpr so
theorem reps_pairs {G H : Hp} (e : Ex G H) : ∀ {l : List (Key × D)} {vs : List V}, reps K G (l.map fun p => .tup [keyD p.1, p.2]) vs → ∃ ps kvs, vs = ps.map V.ref ∧ Paired (fun (p : Addr) (kv : Key × V) => SqT K H p [kV kv.1, kv.2]) ps kvs ∧ repK K G l kvs
  | [], vs, h => ⟨[], [], h, .nil, rfl⟩
  | (c, a) :: l, vs, ⟨u, t, f1, ⟨d, ys, f2, f3, z1, y1, f4, f5, z2, y2, f6, f7, f8⟩, f9⟩ => by
    have f8 : y2 = [] := f8
    subst f1 f2 f8 f6 f4
    have f5 : z1 = kV c := by cases c <;> exact f5
    subst f5
    obtain ⟨ps, kvs, g1, g2, g3⟩ := reps_pairs e f9
    exact ⟨d :: ps, (c, z2) :: kvs, by rw [g1]; rfl, .cons (.inl (.inl (e _ _ f3))) g2, z2, kvs, rfl, f7, g3⟩
theorem wr_dictA {l : List (Key × D)} (h : vw x ρ = some (.lst (l.map fun p => .tup [keyD p.1, p.2]))) (k : C (.own (ownK (mergeD [] l))) ρ) : WR K (rDictA K) [x] ρ C := fun b σ H θ τ vs Q S hl q => by
  obtain ⟨v, rfl⟩ := one1 hl
  have S : Sat K b ρ σ (x :: θ) (v :: τ) H := S
  obtain ⟨G, fp, fq, ⟨p, ws, e1, e2, e3⟩, S'⟩ := S.vw1 h
  obtain ⟨ps, kvs, g1, g2, g3⟩ := reps_pairs S'.gh e3
  subst g1
  refine ⟨p, ps, kvs, by rw [e1], .inl (.inl e2), g2, fun a ha => q _ ρ _ _ k ⟨G, fp, _, S'.owned (O := ownK _) ha ⟨a, _, rfl, rfl, upd_same, repK_merge (kvs := []) (ws := []) rfl g3⟩⟩⟩
end
end DL

set_option Elab.async false
set_option linter.all false
set_option maxRecDepth 100000
namespace DL
open PySem PySem.Spec L2
variable {K : PySem.W.Frag}
section
variable {b : Bs} {ρ : List SV} {σ : L2.St} {θ : List SV} {τ : List V} {H H' G : Hp} {fp fq : List Addr}
open Classical in
/-- many new objects, frozen at once -/
theorem SatG.layMany (P : Addr → Prop) (S : SatG K b ρ σ θ τ H G fp fq) (eH : Ex H H') (hp : ∀ p, P p → H p = none) (hf : ∀ p o, P p → H' p = some o → isFrz o = false) : SatG K b ρ σ θ τ H' (fun a => if P a then H' a else G a) fp fq := by
  have gp : ∀ p, P p → G p = none := fun p h => S.free (hp p h)
  have bp : ∀ p, P p → b.H p = none := fun p h => by
    cases q : b.H p with
    | none => rfl
    | some u => have := S.hh p u q; rw [hp p h] at this; cases this
  have eG : Ex G (fun a => if P a then H' a else G a) := fun a o e => by
    by_cases h : P a
    · rw [gp a h] at e; cases e
    · show (if P a then H' a else G a) = some o
      rw [if_neg h]; exact e
  have S1 := S.grow eH
  refine ⟨S.gg.trans eG, S1.hh, fun a u h => ?_, fun q h1 h2 => ?_, fun a o u h => ?_, S1.sl.mono eG.le, S1.tm.mono eG.le, fun q hq => ⟨?_, (S.out q hq).2⟩, S.nd⟩
  · have h : (if P a then H' a else G a) = some u := h
    by_cases hP : P a
    · rw [if_pos hP] at h; exact h
    · rw [if_neg hP] at h; exact S1.gh a u h
  · show (if P q then H' q else G q) = none
    by_cases hP : P q
    · exact absurd (bp q hP) h1
    · rw [if_neg hP]; exact S.sep q h1 h2
  · have h : (if P a then H' a else G a) = some (.frz o u) := h
    by_cases hP : P a
    · rw [if_pos hP] at h; have := hf a _ hP h; cases this
    · rw [if_neg hP] at h; exact S.fr a o u h
  · show (if P q then H' q else G q) = none
    by_cases hP : P q
    · have hq' : H q ≠ none := by
        rcases List.mem_append.mp hq with h | h
        · exact S.sl.liv q h
        · exact S.tm.liv q h
      exact absurd (hp q hP) hq'
    · rw [if_neg hP]; exact (S.out q hq).1
end
section
variable {ρ : List SV} {C : SV → List SV → Prop} {R : Post} {te : TE}
theorem paired_mem {α β : Type} {F : α → β → Prop} : ∀ {xs : List α} {ys : List β}, Paired F xs ys → ∀ x ∈ xs, ∃ y ∈ ys, F x y
  | _, _, .cons h t, x, hx => by
    rcases List.mem_cons.mp hx with e | hx
    · subst e; exact ⟨_, by simp, h⟩
    · obtain ⟨y, hy, f⟩ := paired_mem t x hx
      exact ⟨y, by simp [hy], f⟩
theorem reps_items {G G' H' : Hp} (e : Ex G G') : ∀ {kvs : List (Key × D)} {ws : List (Key × V)} {ts : List Addr}, repK K G kvs ws → Paired (fun (t : Addr) (q : Key × V) => H' t = some (.tup [kV q.1, q.2])) ts ws → (∀ t ∈ ts, G' t = H' t) → reps K G' (kvs.map fun q => .tup [keyD q.1, q.2]) (ts.map V.ref)
  | [], ws, ts, h, p, _ => by
    rw [show ws = [] from h] at p
    cases p
    rfl
  | (c, x) :: r, ws, ts, ⟨v, s, e1, e2, e3⟩, p, hs => by
    subst e1
    cases p with
    | cons f t =>
      rename_i a as
      exact ⟨.ref a, as.map V.ref, rfl, ⟨a, _, rfl, (hs a (by simp)).trans f, _, _, rfl, rep_keyD c, _, [], rfl, rep_le e.le _ _ e2, rfl⟩, reps_items e e3 t fun w hw => hs w (by simp [hw])⟩
theorem we_listItems (h : WE K te ρ fun z ρ1 => ∃ kvs, vw z ρ1 = some (.dK kvs) ∧ C (.d (.lst (kvs.map fun q => .tup [keyD q.1, q.2]))) ρ1) : WE K (tListItemsR te) ρ C := fun b σ H θ τ Q S q =>
  h b σ H θ τ _ S fun z ρ1 v H1 ⟨kvs, hv, k⟩ S1 => by
    obtain ⟨G, fp, fq, ⟨d, ws, e1, e2, e3⟩, S2⟩ := S1.vw1 hv
    refine ⟨d, ws, e1, e2, fun H' p ts k1 k2 k3 k4 k5 k6 => ?_⟩
    have S3 := S2.layMany (fun a => a = p ∨ a ∈ ts) k1 (fun a ha => by
      rcases ha with e | e
      · subst e; exact k2
      · exact k3 a e) (fun a o ha e => by
      rcases ha with z | z
      · subst z; rw [k5] at e; cases e; rfl
      · obtain ⟨y, _, f⟩ := paired_mem k6 a z
        rw [f] at e; cases e; rfl)
    have eG : Ex G (fun a => @ite _ (a = p ∨ a ∈ ts) (Classical.propDecidable _) (H' a) (G a)) := fun a o e => by
      show @ite _ (a = p ∨ a ∈ ts) (Classical.propDecidable _) (H' a) (G a) = some o
      by_cases hP : a = p ∨ a ∈ ts
      · have : G a = none := by
          rcases hP with z | z
          · subst z; exact S2.free k2
          · exact S2.free (k3 a z)
        rw [this] at e; cases e
      · rw [if_neg hP]; exact e
    refine q _ ρ1 _ H' k ⟨_, fp, fq, S3.push ⟨p, ts.map V.ref, rfl, ?_, reps_items eG e3 k6 fun t ht => if_pos (.inr ht)⟩⟩
    exact (if_pos (.inl rfl)).trans k5
theorem we_anyVals (h : WE K te ρ fun z ρ1 => ∃ (kvs : List (Key × D)) (ls : List (List D)), vw z ρ1 = some (.dK kvs) ∧ kvs.map (·.2) = ls.map D.lst ∧ C (.d (.bl (ls.any fun l => !l.isEmpty))) ρ1) : WE K (tAnyVals K te) ρ C := fun b σ H θ τ Q S q =>
  h b σ H θ τ _ S fun z ρ1 v H1 ⟨kvs, ls, hv, hl, k⟩ S1 => by
    obtain ⟨G, fp, fq, ⟨d, ws, e1, e2, e3⟩, S2⟩ := S1.vw1 hv
    have key : ∀ (kvs : List (Key × D)) (ws : List (Key × V)) (ls : List (List D)), repK K G kvs ws → kvs.map (·.2) = ls.map D.lst → ∃ us : List (List V), ws.length = us.length ∧ (∀ (i : Nat) (v : V) (l : List V), (ws[i]?).map (·.2) = some v → us[i]? = some l → ∃ p, v = .ref p ∧ SqL K H1 p l) ∧ (us.any fun l => !l.isEmpty) = (ls.any fun l => !l.isEmpty) := by
      intro kvs
      induction kvs with
      | nil =>
        intro ws ls r e
        have : ls = [] := by cases ls with | nil => rfl | cons _ _ => cases e
        subst this
        rw [show ws = [] from r]
        exact ⟨[], rfl, fun i v l h => by simp at h, rfl⟩
      | cons p kvs ih =>
        obtain ⟨c, x⟩ := p
        rintro ws ls ⟨v, t, f1, f2, f3⟩ e
        cases ls with
        | nil => cases e
        | cons l ls =>
          simp only [List.map_cons, List.cons.injEq] at e
          obtain ⟨ex, e⟩ := e
          have ex : x = .lst l := ex
          subst f1 ex
          obtain ⟨us, g1, g2, g3⟩ := ih t ls f3 e
          obtain ⟨a, vs, z1, z2, z3⟩ := f2
          refine ⟨vs :: us, by simp [g1], fun i v' l' hv' hl' => ?_, ?_⟩
          · cases i with
            | zero =>
              simp only [List.getElem?_cons_zero, Option.map_some, Option.some.injEq] at hv' hl'
              subst hv' hl'
              exact ⟨a, z1, .inl (.inl (S2.gh _ _ z2))⟩
            | succ i =>
              simp only [List.getElem?_cons_succ] at hv' hl'
              exact g2 i v' l' hv' hl'
          · rw [List.any_cons, List.any_cons, g3]
            have : vs.isEmpty = l.isEmpty := by
              have := reps_len z3
              cases vs with
              | nil => cases l with | nil => rfl | cons _ _ => cases this
              | cons _ _ => cases l with | nil => cases this | cons _ _ => rfl
            rw [this]
    obtain ⟨us, g1, g2, g3⟩ := key kvs ws ls e3 hl
    refine ⟨d, ws, us, e1, e2, g1, g2, ?_⟩
    rw [g3]
    exact q _ ρ1 _ H1 k ⟨G, fp, fq, S2.push rfl⟩

/-! ### a dict of lists, all one's own -/
def repL (K : PySem.W.Frag) (G H : Hp) : List (Key × List D) → List (Key × V) → List Addr → Prop
  | [], ws, as => ws = [] ∧ as = []
  | (k, xs) :: r, ws, as => ∃ a vs t s, ws = (k, .ref a) :: t ∧ as = a :: s ∧ H a = some (.lst vs) ∧ reps K G xs vs ∧ repL K G H r t s
theorem repL_le {G G' H : Hp} (e : Le G G') : ∀ {kvs : List (Key × List D)} {ws : List (Key × V)} {as : List Addr}, repL K G H kvs ws as → repL K G' H kvs ws as
  | [], _, _, h => h
  | (k, xs) :: r, ws, as, ⟨a, vs, t, s, e1, e2, e3, e4, e5⟩ => ⟨a, vs, t, s, e1, e2, e3, reps_le e _ _ e4, repL_le e e5⟩
theorem repL_loc {G H H' : Hp} : ∀ {kvs : List (Key × List D)} {ws : List (Key × V)} {as : List Addr}, (∀ p ∈ as, H' p = H p) → repL K G H kvs ws as → repL K G H' kvs ws as
  | [], _, _, _, h => h
  | (k, xs) :: r, ws, as, e, ⟨a, vs, t, s, e1, e2, e3, e4, e5⟩ => ⟨a, vs, t, s, e1, e2, (e a (by rw [e2]; simp)).trans e3, e4, repL_loc (fun p hp => e p (by rw [e2]; simp [hp])) e5⟩
theorem repL_liv {G H : Hp} : ∀ {kvs : List (Key × List D)} {ws : List (Key × V)} {as : List Addr}, repL K G H kvs ws as → ∀ p ∈ as, ∃ vs, H p = some (.lst vs)
  | [], _, _, h, p, hp => by rw [h.2] at hp; simp at hp
  | (k, xs) :: r, ws, as, ⟨a, vs, t, s, e1, e2, e3, e4, e5⟩, p, hp => by
    rw [e2] at hp
    rcases List.mem_cons.mp hp with z | z
    · subst z; exact ⟨vs, e3⟩
    · exact repL_liv e5 p z
theorem repL_fz {G G' H : Hp} (e : Ex G G') : ∀ {kvs : List (Key × List D)} {ws : List (Key × V)} {as : List Addr}, repL K G H kvs ws as → (∀ p ∈ as, G' p = H p) → repK K G' (kvs.map fun q => (q.1, .lst q.2)) ws
  | [], ws, _, h, _ => h.1
  | (k, xs) :: r, ws, as, ⟨a, vs, t, s, e1, e2, e3, e4, e5⟩, hs => ⟨.ref a, t, e1, ⟨a, vs, rfl, (hs a (by rw [e2]; simp)).trans e3, reps_le e.le _ _ e4⟩, repL_fz e e5 fun p hp => hs p (by rw [e2]; simp [hp])⟩
theorem repL_len {G H : Hp} : ∀ {kvs : List (Key × List D)} {ws : List (Key × V)} {as : List Addr}, repL K G H kvs ws as → ws.length = kvs.length ∧ ws.map (·.1) = kvs.map (·.1)
  | [], ws, as, h => by rw [h.1]; exact ⟨rfl, rfl⟩
  | (k, xs) :: r, ws, as, ⟨a, vs, t, s, e1, e2, e3, e4, e5⟩ => by
    obtain ⟨i1, i2⟩ := repL_len e5
    rw [e1]; simp [i1, i2]
theorem repL_app {G H : Hp} {k : Key} {a : Addr} {xs : List D} {vs : List V} (h1 : H a = some (.lst vs)) (h2 : reps K G xs vs) : ∀ {kvs : List (Key × List D)} {ws : List (Key × V)} {as : List Addr}, repL K G H kvs ws as → repL K G H (kvs ++ [(k, xs)]) (ws ++ [(k, .ref a)]) (as ++ [a])
  | [], ws, as, h => by rw [h.1, h.2]; exact ⟨a, vs, [], [], rfl, rfl, h1, h2, rfl, rfl⟩
  | (c, ys) :: r, ws, as, ⟨d, us, t, s, e1, e2, e3, e4, e5⟩ => by rw [e1, e2]; exact ⟨d, us, _, _, rfl, rfl, e3, e4, repL_app h1 h2 e5⟩
/-- one of the lists, and what may become of it -/
theorem repL_at {G H : Hp} {k : Key} : ∀ {kvs : List (Key × List D)} {ws : List (Key × V)} {as : List Addr} {xs : List D}, repL K G H kvs ws as → as.Nodup → lookD kvs k = some xs → ∃ a vs, a ∈ as ∧ valV ws k = some (.ref a) ∧ H a = some (.lst vs) ∧ reps K G xs vs ∧
    ∀ (H' : Hp) (ys : List D) (us : List V), (∀ p, p ≠ a → H' p = H p) → H' a = some (.lst us) → reps K G ys us → (kvs.map (·.1)).Nodup → repL K G H' (putD kvs k ys) ws as
  | [], _, _, _, _, _, h => by cases h
  | (c, zs) :: r, ws, as, xs, ⟨d, vs, t, s, e1, e2, e3, e4, e5⟩, nd, h => by
    subst e1 e2
    obtain ⟨nd1, nd2⟩ := List.nodup_cons.mp nd
    by_cases e : c = k
    · subst e
      have : zs = xs := by simpa [lookD, List.find?_cons] using h
      subst this
      refine ⟨d, vs, by simp, valV_pos rfl, e3, e4, fun H' ys us h1 h2 h3 hk => ?_⟩
      have hk := (List.nodup_cons.mp (show (c :: r.map (·.1)).Nodup from hk)).1
      have ep : putD ((c, zs) :: r) c ys = (c, ys) :: r := by
        unfold putD
        rw [if_pos (by simp)]
        rw [List.map_cons, if_pos rfl]
        congr 1
        refine (List.map_congr_left fun q hq => ?_).trans (List.map_id r)
        exact if_neg fun z => hk (List.mem_map.mpr ⟨q, hq, z⟩)
      rw [ep]
      exact ⟨d, us, t, s, rfl, rfl, h2, h3, repL_loc (fun p hp => h1 p fun z => nd1 (z ▸ hp)) e5⟩
    · have h' : lookD r k = some xs := by simpa [lookD, List.find?_cons, e] using h
      obtain ⟨a, vs', m, g1, g2, g3, g4⟩ := repL_at e5 nd2 h'
      refine ⟨a, vs', by simp [m], (valV_neg (p := (c, .ref d)) e).trans g1, g2, g3, fun H' ys us h1 h2 h3 hk => ?_⟩
      have hk := (List.nodup_cons.mp (show (c :: r.map (·.1)).Nodup from hk)).2
      have ep : putD ((c, zs) :: r) k ys = (c, zs) :: putD r k ys := by
        have hm : (((c, zs) :: r).any fun kv => decide (kv.1 = k)) = true ∧ (r.any fun kv => decide (kv.1 = k)) = true := by
          have : (r.any fun kv => decide (kv.1 = k)) = true := by
            unfold lookD at h'
            obtain ⟨q, hq, _⟩ := Option.map_eq_some_iff.mp h'
            rw [List.any_eq_true]
            exact ⟨q, List.mem_of_find?_eq_some hq, by have := List.find?_some hq; simpa using this⟩
          exact ⟨by simp [this], this⟩
        unfold putD
        rw [if_pos hm.1, if_pos hm.2, List.map_cons, if_neg e]
      rw [ep]
      exact ⟨d, vs, t, s, rfl, rfl, (h1 d fun z => nd1 (z ▸ m)).trans e3, e4, g4 H' ys us h1 h2 h3 hk⟩
open Classical in
def ownKL (kvs : List (Key × List D)) : Own where
  R := fun K G H v fp => ∃ p ws as, v = .ref p ∧ fp = p :: as ∧ H p = some (.dK ws) ∧ repL K G H kvs ws as
  dat := some (.dK (kvs.map fun q => (q.1, .lst q.2)))
  see := none
  mono := fun e ⟨p, ws, as, e1, e2, e3, e4⟩ => ⟨p, ws, as, e1, e2, e3, repL_le e e4⟩
  loc := fun e ⟨p, ws, as, e1, e2, e3, e4⟩ => ⟨p, ws, as, e1, e2, (e p (by rw [e2]; simp)).trans e3, repL_loc (fun q hq => e q (by rw [e2]; simp [hq])) e4⟩
  liv := fun ⟨p, ws, as, e1, e2, e3, e4⟩ q hq => by
    rw [e2] at hq
    rcases List.mem_cons.mp hq with z | z
    · subst z; exact ⟨_, e3, rfl⟩
    · obtain ⟨vs, hv⟩ := repL_liv e4 q z
      exact ⟨_, hv, rfl⟩
  fz := fun {K G H v fp x} hx ⟨p, ws, as, e1, e2, e3, e4⟩ hn _ => by
    cases hx
    have eG : Ex G (fun a => if a ∈ fp then H a else G a) := fun a o e => by
      show (if a ∈ fp then H a else G a) = some o
      by_cases h : a ∈ fp
      · rw [hn a h] at e; cases e
      · rw [if_neg h]; exact e
    refine ⟨fun a => if a ∈ fp then H a else G a, eG, fun a o h => ?_, ⟨p, ws, e1, .inl ?_, repL_fz eG e4 fun q hq => if_pos (by rw [e2]; simp [hq])⟩⟩
    · have h : (if a ∈ fp then H a else G a) = some o := h
      by_cases z : a ∈ fp
      · rw [if_pos z] at h; exact .inr ⟨z, h⟩
      · rw [if_neg z] at h; exact .inl h
    · show (if p ∈ fp then H p else G p) = _
      rw [if_pos (by rw [e2]; simp)]; exact e3
  sh := fun hx _ => by cases hx
/-- d[k].pop(0) -/
theorem ws_popKL {i j : Nat} {kvs : List (Key × List D)} {k : Key} {x : D} {l : List D} (hj : ρ[j]? = some (.own (ownKL kvs))) (hi : ρ[i]? = some (.d (keyD k))) (hl : lookD kvs k = some (x :: l)) (hnd : (kvs.map (·.1)).Nodup) (hz : l.length < sizeLine) (hn : R.nx (ρ.set j (.own (ownKL (putD kvs k l))))) :
    WS K (tDrop (tBM K "list" (rPopAt) (tOp (rIxA K) (tVar j) (tVar i)) (tCons (tC (.int 0)) (tNil)))) ρ R := fun b σ H θ τ D na S q1 _ _ _ => by
  obtain ⟨G, fp, fq, S⟩ := S
  obtain ⟨v, f2, e1, ⟨p, ws, as, e2, e3, e4, e5⟩, _, kk⟩ := S.mut hj
  obtain ⟨o, g1, g2, g3, h1, h2, ⟨_, w, h4, h5⟩⟩ := S.sl.get hi
  subst e2 h4
  have ew : w = kV k := by cases k <;> exact h5
  subst ew
  have nd2 : as.Nodup := by
    obtain ⟨o', f1, f2', f3, z1, z2, ⟨v', z3, p', ws', as', z4, z5, z6, z7⟩⟩ := S.sl.get hj
    rw [e1] at z1; cases z1; cases z3; cases z4
    rw [e4] at z6; cases z6
    have ea : as' = as := by
      clear z2 z5 kk e3 e4
      clear hl hnd hn hj
      induction kvs generalizing ws as as' with
      | nil => rw [e5.2, z7.2]
      | cons q r ih =>
        obtain ⟨c, ys⟩ := q
        obtain ⟨a1, v1, t1, s1, y1, y2, y3, y4, y5⟩ := e5
        obtain ⟨a2, v2, t2, s2, x1, x2, x3, x4, x5⟩ := z7
        rw [y1] at x1; cases x1
        rw [y2, x2, ih _ _ y5 _ x5]
    have nd := S.nd
    rw [z2, z5, ea] at nd
    simp only [List.append_assoc, List.cons_append, List.nodup_append, List.mem_append] at nd
    exact ((List.nodup_cons.mp nd.2.1).2 |> fun h => (List.nodup_append.mp h).1)
  obtain ⟨a, vs, m, g4, g5, g6, g7⟩ := repL_at e5 nd2 hl
  obtain ⟨v0, r0, f4, f5, f6⟩ := g6
  subst f4
  have hpa : a ≠ p := fun z => by subst z; rw [e4] at g5; cases g5
  refine ⟨.ref p, e1, kV k, h1, .inl ⟨p, .ref a, rfl, (show DGet H p (kV k) (some (.ref a)) from g4 ▸ DGet.k e4), .inl ⟨rfl, _, .inl (.inl g5)⟩, a, v0 :: r0, 0, 0, v0, rfl, rfl, g5, by decide, by decide, ?_, rfl, ?_⟩⟩
  · exact seqIndex_of (Int.natCast_nonneg 0) (by simp)
  · refine q1 _ _ _ hn ⟨G, fp, fq, kk _ (ownKL (putD kvs k l)) (fun c hc => upd_ne fun z => hc (by rw [e3, z]; simp [m])) ⟨p, ws, as, rfl, e3, by rw [upd_ne hpa.symm]; exact e4, g7 _ l r0 (fun q hq => upd_ne hq) upd_same f6 hnd⟩⟩
end
end DL

set_option Elab.async false
set_option linter.all false
set_option maxRecDepth 100000
namespace DL
open PySem PySem.Spec L2
variable {K : PySem.W.Frag}
section
variable {b : Bs} {ρ : List SV} {σ : L2.St} {θ : List SV} {τ : List V} {H H' G : Hp} {fp fq : List Addr}
theorem putK_new {ws : List (Key × V)} {k : Key} {v : V} (h : k ∉ ws.map (·.1)) : putK ws k v = ws ++ [(k, v)] := by
  unfold putK
  rw [if_neg]
  rw [List.any_eq_true]
  rintro ⟨p, hp, e⟩
  exact h (List.mem_map.mpr ⟨p, hp, of_decide_eq_true e⟩)
/-- an own list goes into an own dict of lists -/
theorem SatG.joinKL {θ1 : List SV} {τ1 : List V} {w u : V} {ys : List D} {ds : List (Key × List D)} {k : Key} (S : SatG K b ρ σ (θ1 ++ (.own (ownL ys) :: (.own (ownKL ds) :: θ))) (τ1 ++ (w :: (u :: τ))) H G fp fq) (hl : θ1.length = τ1.length) (hk : k ∉ ds.map (·.1)) :
    ∃ p ws, u = .ref p ∧ H p = some (.dK ws) ∧ ws.length = ds.length ∧ ∃ fq', SatG K b ρ σ (θ1 ++ (.own (ownKL (ds ++ [(k, ys)])) :: θ)) (τ1 ++ (u :: τ)) (upd H p (.dK (putK ws k w))) G fp fq' := by
  have tm := S.tm
  rw [List.map_append] at tm
  obtain ⟨fa, fb, e, c1, c2⟩ := Cells.split (by simpa using hl) tm
  cases c2 with
  | cons a1 r =>
    rename_i f1 f2
    cases r with
    | cons a2 r =>
      rename_i f3 f4
      obtain ⟨w', e1, a, vs, e2, e3, e4, e5⟩ := a1
      obtain ⟨u', g1, p, ws, as, g2, g3, g4, g5⟩ := a2
      cases e1; cases g1
      subst e2 e3 g2 g3
      have out := S.out
      have nd := S.nd
      subst e
      have hpa : a ≠ p := fun z => by subst z; rw [e4] at g4; cases g4
      obtain ⟨l1, l2⟩ := repL_len g5
      have hkw : k ∉ ws.map (·.1) := by rw [l2]; exact hk
      simp only [List.nodup_append, List.nodup_cons, List.mem_append, List.mem_cons, List.cons_append, List.nil_append, List.append_assoc] at nd
      obtain ⟨n1, ⟨n2, ⟨n3, n4, ⟨n5, n6, n7⟩⟩, n8⟩, n9⟩ := nd
      have off : ∀ q, q ∈ fp ∨ q ∈ fa ∨ q ∈ f4 → q ≠ p := fun q hq z => by
        subst z
        rcases hq with h | h | h
        · exact n9 q h q (.inr (.inr (.inl rfl))) rfl
        · exact n8 q h q (.inr (.inl rfl)) rfl
        · exact n4 (.inr h)
      have hq : ∀ q, q ≠ p → upd H p (.dK (putK ws k (.ref a))) q = H q := fun q hq => upd_ne hq
      have eL : repL K G (upd H p (.dK (putK ws k (.ref a)))) (ds ++ [(k, ys)]) (ws ++ [(k, .ref a)]) (as ++ [a]) := by
        refine repL_loc (H := H) (fun q hm => hq q fun z => ?_) (repL_app e4 e5 g5)
        subst z
        rcases List.mem_append.mp hm with h | h
        · exact n4 (.inl h)
        · exact hpa (List.mem_singleton.mp h).symm
      refine ⟨p, ws, rfl, g4, l1, fa ++ ((p :: (as ++ [a])) ++ f4), S.gg, fun c o z => ?_, fun c o z => ?_, S.sep, S.fr, S.sl.loc fun q hm => hq q (off q (.inl hm)), ?_, fun q hm => out q ?_, ?_⟩
      · rw [hq c fun y => by subst y; rw [(out c (by simp)).2] at z; cases z]; exact S.hh c o z
      · rw [hq c fun y => by subst y; rw [(out c (by simp)).1] at z; cases z]; exact S.gh c o z
      · rw [List.map_append]
        refine (c1.loc fun q hm => hq q (off q (.inr (.inl hm)))).app (.cons ⟨_, rfl, p, _, _, rfl, rfl, ?_, eL⟩ (r.loc fun q hm => hq q (off q (.inr (.inr hm)))))
        rw [upd_same, putK_new hkw]
      · simp only [List.mem_append, List.mem_cons, List.not_mem_nil, or_false] at hm ⊢
        rcases hm with h | h | (h | h | h) | h
        · exact .inl h
        · exact .inr (.inl h)
        · exact .inr (.inr (.inr (.inl (.inl h))))
        · exact .inr (.inr (.inr (.inl (.inr h))))
        · exact .inr (.inr (.inl h))
        · exact .inr (.inr (.inr (.inr h)))
      · have m1 : ∀ q, q ∈ p :: (as ++ [a]) ++ f4 → q = a ∨ q = p ∨ q ∈ as ∨ q ∈ f4 := fun q hm => by
          simp only [List.mem_append, List.mem_cons, List.not_mem_nil, or_false] at hm
          rcases hm with (h | h | h) | h
          · exact .inr (.inl h)
          · exact .inr (.inr (.inl h))
          · exact .inl h
          · exact .inr (.inr (.inr h))
        rw [List.nodup_append, List.nodup_append]
        refine ⟨n1, ⟨n2, ?_, fun x hx y hy => n8 x hx y (m1 y hy)⟩, fun x hx y hy => n9 x hx y ?_⟩
        · rw [List.cons_append, List.nodup_cons]
          refine ⟨fun h => ?_, ?_⟩
          · rcases List.mem_append.mp h with h | h
            · rcases List.mem_append.mp h with h | h
              · exact n4 (.inl h)
              · exact hpa (List.mem_singleton.mp h).symm
            · exact n4 (.inr h)
          · rw [List.append_assoc, List.nodup_append]
            refine ⟨n5, ?_, fun x hx y hy => ?_⟩
            · rw [List.singleton_append, List.nodup_cons]
              exact ⟨fun h => n3 (.inr (.inr h)), n6⟩
            · rcases List.mem_cons.mp hy with h | h
              · exact fun z => n3 (.inr (.inl (by rw [← h, ← z]; exact hx)))
              · exact n7 x hx y h
        · rcases List.mem_append.mp hy with h | h
          · exact .inl h
          · exact .inr (m1 y h)
def DcLC (K : PySem.W.Frag) (g : TG) (tk tv : TE) (vs : List Nat) (C : SV → List SV → Prop) (xs : List D) (ρ1 : List SV) : Prop := xs.length ≤ sizeLine ∧ ∃ Iv : Nat → List SV → List (Key × List D) → Prop, Iv 0 (wipeS ρ1 vs) [] ∧
      (∀ i x ρ2 ds, xs[i]? = some x → Iv i ρ2 ds → WG K (· ∈ vs) g (.d x) ρ2 fun ρ3 => WE K tk ρ3 fun kz ρ5 => ∃ kd c, kz = .d kd ∧ dkey kd = some c ∧ WE K tv ρ5 fun z ρ6 => ∃ ys, z = .own (ownL ys) ∧ c ∉ ds.map (·.1) ∧ Iv (i + 1) (wipeS ρ6 vs) (ds ++ [(c, ys)])) ∧
      ∀ ρ2 ds, Iv xs.length ρ2 ds → C (.own (ownKL ds)) ρ2
variable {wi : TI} {g : TG} {te tk tv : TE} {vs : List Nat} {C : SV → List SV → Prop}
theorem dcL_at {Q : VK} (S : Sat K b ρ σ θ τ H) (h : WIat K wi b σ H θ τ (DcLC K g tk tv vs C)) (q : ∀ z ρ' v H', C z ρ' → Sat K b ρ' σ (z :: θ) (v :: τ) H' → Q v H') : tDc wi g tYes tk tv vs σ H Q :=
  h _ fun J xs θk τk ρ1 H1 Bp ⟨hz, Iv, i0, it, ie⟩ hb W S1 a ha => by
    have start : Sat K b (wipeS ρ1 vs) (wipe σ vs) (θk ++ (.own (ownKL []) :: θ.map hideA)) (τk ++ (.ref a :: τ)) (upd H1 a (.dK [])) := by
      obtain ⟨G, fp, fq, S2⟩ := S1
      have S3 : Sat K b ρ1 σ (.own (ownKL []) :: (θk ++ θ)) (.ref a :: (τk ++ τ)) (upd H1 a (.dK [])) := ⟨_, fp, _, S2.owned (O := ownKL []) ha ⟨a, [], [], rfl, rfl, upd_same, rfl, rfl⟩⟩
      have S4 := (S3.under W.len).block vs
      rw [List.map_append, hide_allD W.na] at S4
      exact S4
    refine ⟨fun i m H' => m = xs.length - i ∧ i ≤ xs.length ∧ ∃ ρ2 ds, Iv i ρ2 ds ∧ ds.length ≤ i ∧ (∀ i ∈ vs, ∀ s, ρ2[i]? = some s → s = .any) ∧ Sat K b ρ2 (wipe σ vs) (θk ++ (.own (ownKL ds) :: θ.map hideA)) (τk ++ (.ref a :: τ)) H',
      ⟨xs.length, by simp, Nat.zero_le _, _, [], i0, Nat.le_refl _, fun i hi s e => wipeS_any hi s e, start⟩, ?_⟩
    rintro i m H' ⟨rfl, hi, ρ2, ds, iv, hd, hs, S2⟩
    have na : noAl (θk ++ (.own (ownKL ds) :: θ.map hideA)) = true := noAl_app W.na (noAl_hide θ)
    by_cases hlt : i < xs.length
    · refine .inr ⟨W.goes b ρ2 _ _ _ H' i hb S2 hlt, fun H3 => ∃ ρ3 ds', Iv (i + 1) ρ3 ds' ∧ ds'.length ≤ i + 1 ∧ (∀ i ∈ vs, ∀ s, ρ3[i]? = some s → s = .any) ∧ Sat K b ρ3 (wipe σ vs) (θk ++ (.own (ownKL ds') :: θ.map hideA)) (τk ++ (.ref a :: τ)) H3,
        fun H3 ⟨ρ3, ds', h1, h2, h3, h4⟩ => ⟨xs.length - (i + 1), by omega, rfl, hlt, ρ3, ds', h1, h2, h3, h4⟩, fun v H3 y => ?_⟩
      have S3 := W.yields b ρ2 _ _ _ H' i xs[i] v H3 hb S2 (by simp [hlt]) y
      refine it i xs[i] ρ2 ds (by simp [hlt]) iv b _ H3 _ _ v _ na S3 fun ρ3 σ3 H4 hs4 S4 ag hlen => ?_
      have hw : wipe σ3 vs = wipe σ vs := wipe_same (fun j hj => (ag j hj).trans (wipe_out hj)) (by rw [hlen, wipe_length])
      refine ⟨hw, ?_⟩
      dsimp only [tYes]
      rw [if_pos rfl]
      refine hs4 b σ3 H4 _ _ _ S4 fun kz ρ5 ku H6 ⟨kd, c, ek, hc, hv⟩ S6 => ?_
      subst ek
      have eku : ku = kV c := by
        obtain ⟨G, fp, fq, S6⟩ := S6
        exact rep_key hc (SatG.top S6)
      refine hv b σ3 H6 _ _ _ S6.drop fun z ρ6 u H7 ⟨ys, ez, hnew, hn⟩ S7 => ?_
      subst ez
      obtain ⟨G, fp, fq, S8⟩ := S7.under (θ1 := θk) (τ1 := τk) W.len
      obtain ⟨p, ws, e1, e3, e4, fq', S9⟩ := S8.joinKL (k := c) W.len hnew
      cases e1
      exact ⟨ws, c, eku, e3, by omega, _, ds ++ [(c, ys)], hn, by simp; omega, fun i hi s e => wipeS_any hi s e, Sat.wiped ⟨G, fp, fq', S9⟩ (noAl_app W.na (noAl_hide θ)) hw⟩
    · have e : i = xs.length := by omega
      subst e
      refine .inl ⟨W.stops b ρ2 _ _ _ H' hb S2, q _ ρ2 _ H' (ie ρ2 ds iv) ?_⟩
      exact Sat.unblock (z := [.own (ownKL ds)]) (u := [.ref a]) S (S2.dropN W.len) rfl rfl hs
theorem we_lkdcL {wi : TE → TI} {xsOf : List (Key × D) → List D} {td : TE} {kvs : List (Key × D)} (W : DWalk K wi xsOf) (hp : PathK K td ρ kvs) (h : DcLC K g tk tv vs C (xsOf kvs) ρ) : WE K (tLkE (tDc (wi td) g tYes tk tv vs)) ρ C := fun b σ H θ τ Q S q => by
  obtain ⟨mk, w1, w2⟩ := W.ex
  obtain ⟨G, fp, fq, S⟩ := S
  obtain ⟨d, ws, hr, hk, ht⟩ := hp b σ θ τ H G fp fq S
  rcases hr with hr | ⟨o, hr⟩
  · refine .inl ⟨d, .dK ws, S.gh _ _ hr, True.intro, fun od => ?_⟩
    have S1 := S.lock (od := od) hr
    have wb := S.was hr
    refine dcL_at (K := K) (b := lkB b d (.frz od (.dK ws)) (.dK ws)) (θ := θ) (τ := τ) (C := C) ⟨_, fp, fq, S1⟩ (fun R' q => ?_) (fun z ρ' v H' a s => ?_)
    · refine w1 td σ _ d od ws _ upd_same (fun Q q' => ht _ Q (lock_ins (S.gh _ _ hr)) q') ?_
      exact q _ (xsOf kvs) [.d (.dK kvs)] [.ref d] ρ _ _ h (by show upd b.G d _ d = _; exact upd_same) (w2 d od ws kvs) ⟨_, fp, fq, S1.push ⟨d, ws, rfl, .inr ⟨od, upd_same⟩, repK_le (le_lock hr) _ _ hk⟩⟩
    · obtain ⟨e, s'⟩ := s.unlock wb
      exact ⟨e, q z ρ' v _ a s'⟩
  · refine .inr (dcL_at (K := K) (C := C) ⟨G, fp, fq, S⟩ (fun R' q => ?_) q)
    refine w1 td σ _ d o ws _ (S.gh _ _ hr) (fun Q q' => ht _ Q (fun _ _ _ _ e => e) q') ?_
    exact q _ (xsOf kvs) [.d (.dK kvs)] [.ref d] ρ _ _ h (S.fr _ _ _ hr) (w2 d o ws kvs) ⟨_, fp, fq, S.push ⟨d, ws, rfl, .inr ⟨o, hr⟩, hk⟩⟩
end
end DL

set_option Elab.async false
set_option linter.all false
set_option maxRecDepth 100000
namespace DL
open PySem in
theorem le_line {n : Nat} (h : n ≤ 1000000) : n ≤ sizeLine := by rw [sizeLine_eq]; omega
open PySem in
theorem le_lineB {n : Nat} (h : Nat.ble n 1000000 = true) : n ≤ sizeLine := le_line (Nat.le_of_ble_eq_true h)
open PySem in
theorem lt_line {n : Nat} (h : n ≤ 1000000) : n < sizeLine := by rw [sizeLine_eq]; omega
open PySem PySem.Spec L2
variable {K : PySem.W.Frag}
section
variable {te : TE} {ρ : List SV} {C : List D → List SV → Prop}
theorem wi_seq (h : WE K te ρ fun z ρ1 => ∃ xs ρ2, (fzT z ρ1 = some (.lst xs, ρ2) ∨ fzT z ρ1 = some (.tup xs, ρ2)) ∧ C xs ρ2) : WI K (iSeq K te) ρ C := fun b σ H θ τ R S q =>
  h b σ H θ τ _ S fun z ρ1 v H1 ⟨xs, ρ2, e, k⟩ S1 => by
    rcases e with e | e
    · obtain ⟨G, fp, fq, S2⟩ := S1.fz e
      obtain ⟨p, ws, e1, e2, e3⟩ := SatG.top S2
      subst e1
      exact .inl ⟨p, rfl, ⟨ws, .inl (.inl (S2.gh _ _ e2))⟩, q _ _ _ _ ρ2 H1 _ k True.intro walkD_list ⟨G, fp, fq, S2⟩⟩
    · obtain ⟨G, fp, fq, S2⟩ := S1.fz e
      obtain ⟨p, ws, e1, e2, e3⟩ := SatG.top S2
      subst e1
      exact .inr ⟨p, rfl, ⟨ws, .inl (.inl (S2.gh _ _ e2))⟩, q _ _ _ _ ρ2 H1 _ k True.intro walkD_tup ⟨G, fp, fq, S2⟩⟩
end
section
variable {ρ : List SV} {C : SV → List SV → Prop} {x y z : SV}
theorem w2_eqStr {a c : Str} (hx : vw x ρ = some (.str a)) (hy : vw y ρ = some (.str c)) (k : C (.d (.bl (decide (a = c)))) ρ) : W2 K (rEqA K) x y ρ C := w2_inl (w2_eq hx hy rfl rfl rfl (by
  have e : decide (V.str a = V.str c) = decide (a = c) := by
    by_cases h : a = c
    · subst h; simp
    · rw [decide_eq_false h, decide_eq_false fun z => h (V.str.inj z)]
  rw [e]; exact k))
theorem w2_neStr {a c : Str} (hx : vw x ρ = some (.str a)) (hy : vw y ρ = some (.str c)) (k : C (.d (.bl (!decide (a = c)))) ρ) : W2 K (rNeA K) x y ρ C := w2_inl (w2_ne hx hy rfl rfl rfl (by
  have e : decide (V.str a = V.str c) = decide (a = c) := by
    by_cases h : a = c
    · subst h; simp
    · rw [decide_eq_false h, decide_eq_false fun z => h (V.str.inj z)]
  rw [e]; exact k))
theorem w2_eqInt {a c : Int} (hx : vw x ρ = some (.int a)) (hy : vw y ρ = some (.int c)) (k : C (.d (.bl (decide (a = c)))) ρ) : W2 K (rEqA K) x y ρ C := w2_inl (w2_eq hx hy rfl rfl rfl (by
  have e : decide (V.int a = V.int c) = decide (a = c) := by
    by_cases h : a = c
    · subst h; simp
    · rw [decide_eq_false h, decide_eq_false fun z => h (V.int.inj z)]
  rw [e]; exact k))
theorem w2_neInt {a c : Int} (hx : vw x ρ = some (.int a)) (hy : vw y ρ = some (.int c)) (k : C (.d (.bl (!decide (a = c)))) ρ) : W2 K (rNeA K) x y ρ C := w2_inl (w2_ne hx hy rfl rfl rfl (by
  have e : decide (V.int a = V.int c) = decide (a = c) := by
    by_cases h : a = c
    · subst h; simp
    · rw [decide_eq_false h, decide_eq_false fun z => h (V.int.inj z)]
  rw [e]; exact k))
theorem w2_eqBl {a c : Bool} (hx : vw x ρ = some (.bl a)) (hy : vw y ρ = some (.bl c)) (k : C (.d (.bl (a == c))) ρ) : W2 K (rEqA K) x y ρ C := w2_inl (w2_eq hx hy rfl rfl rfl (by
  have e : decide (V.bl a = V.bl c) = (a == c) := by cases a <;> cases c <;> decide
  rw [e]; exact k))
theorem w2_neBl {a c : Bool} (hx : vw x ρ = some (.bl a)) (hy : vw y ρ = some (.bl c)) (k : C (.d (.bl (a != c))) ρ) : W2 K (rNeA K) x y ρ C := w2_inl (w2_ne hx hy rfl rfl rfl (by
  have e : (!decide (V.bl a = V.bl c)) = (a != c) := by cases a <;> cases c <;> decide
  rw [e]; exact k))
/-- all, any of a list of truth values that a comprehension made -/
theorem wr_allF {α : Type} {l : List α} {f : α → Bool} (h : vw x ρ = some (.lst (l.map fun a => .bl (f a)))) (k : C (.d (.bl (l.all f))) ρ) : WR K (rAll K) [x] ρ C := wr_all (bs := l.map f) h (by rw [List.map_map]; rfl) (by rw [List.all_map]; exact k)
theorem wr_anyF {α : Type} {l : List α} {f : α → Bool} (h : vw x ρ = some (.lst (l.map fun a => .bl (f a)))) (k : C (.d (.bl (l.any f))) ρ) : WR K (rAny K) [x] ρ C := wr_any (bs := l.map f) h (by rw [List.map_map]; rfl) (by rw [List.any_map]; exact k)
end
end DL

set_option Elab.async false
set_option linter.all false
set_option maxRecDepth 100000
namespace DL
open PySem PySem.Spec L2
variable {K : PySem.W.Frag}
section
variable {b : Bs} {ρ : List SV} {σ : L2.St} {θ : List SV} {τ : List V} {H : Hp} {j : Nat}
theorem List.set_getv {α : Type} {l : List α} {j : Nat} {x : α} (h : l[j]? = some x) : l.set j x = l := by
  refine List.ext_getElem? fun m => ?_
  by_cases hm : m = j
  · subst hm
    rw [List.getElem?_set_self (List.getElem?_eq_some_iff.mp h).1, h]
  · rw [List.getElem?_set_ne (Ne.symm hm)]
/-- an own object, told otherwise -/
theorem Sat.conv {O : Own} {P : Own → Prop} (S : Sat K b ρ σ θ τ H) (e : ρ[j]? = some (.own O)) (h : ∀ G v fp, O.R K G H v fp → ∃ O', P O' ∧ O'.R K G H v fp) : ∃ O', P O' ∧ Sat K b (ρ.set j (.own O')) σ θ τ H := by
  obtain ⟨G, fp, fq, S⟩ := S
  obtain ⟨o, f1, f2, f3, e1, e2, ⟨v, e3, hR⟩, k⟩ := S.sl.take e
  subst e2 e3
  obtain ⟨O', hP, hR'⟩ := h G v f2 hR
  have sl := k (.own O') (some v) G H f2 (Ex.refl G).le (fun _ _ => rfl) ⟨v, rfl, hR'⟩
  rw [List.set_getv e1] at sl
  exact ⟨O', hP, G, _, fq, S.gg, S.hh, S.gh, S.sep, S.fr, sl, S.tm, S.out, S.nd⟩
/-- opened at a block's start -/
theorem ws_open {t : TS} {R : Post} {O : Own} {P : Own → Prop} (e : ρ[j]? = some (.own O)) (h : ∀ G H v fp, O.R K G H v fp → ∃ O', P O' ∧ O'.R K G H v fp) (k : ∀ O', P O' → WS K t (ρ.set j (.own O')) R) : WS K t ρ R := fun b σ H θ τ D na S q1 q2 q3 q4 => by
  obtain ⟨O', hP, S'⟩ := S.conv e fun G v fp => h G H v fp
  exact k O' hP b σ H θ τ D na S' q1 q2 q3 q4
/-- closed at its end -/
theorem ws_close {t : TS} {R : Post} {O : Own → Own} {P : Own → Prop} (h : ∀ O', P O' → ∀ G H v fp, O'.R K G H v fp → (O O').R K G H v fp)
    (k : WS K t ρ { nx := fun ρ' => ∃ O', ρ'[j]? = some (.own O') ∧ P O' ∧ R.nx (ρ'.set j (.own (O O'))), rt := fun z ρ' => ∃ O', ρ'[j]? = some (.own O') ∧ P O' ∧ R.rt z (ρ'.set j (.own (O O'))) }) : WS K t ρ R := fun b σ H θ τ D na S q1 q2 _ _ =>
  k b σ H θ τ D na S (fun ρ' σ' H' ⟨O', e, hP, hr⟩ S' => by
      obtain ⟨O2, e2, S2⟩ := S'.conv (P := fun O2 => O2 = O O') e fun G v fp hR => ⟨_, rfl, h O' hP G H' v fp hR⟩
      subst e2
      exact q1 _ σ' H' hr S2)
    (fun z ρ' σ' v H' ⟨O', e, hP, hr⟩ S' => by
      obtain ⟨O2, e2, S2⟩ := S'.conv (P := fun O2 => O2 = O O') e fun G v fp hR => ⟨_, rfl, h O' hP G H' v fp hR⟩
      subst e2
      exact q2 z _ σ' v H' hr S2) (fun _ _ _ z _ => z.elim) (fun _ _ _ z _ => z.elim)
/-- a def that hands out an object of the caller's own -/
def spN (K : PySem.W.Frag) {S : Type} (O : S → Own) (pre : List D → Prop) (post : List D → S → Prop) : Sp := fun vs H Q _ =>
  ∃ G ds, Ex G H ∧ reps K G ds vs ∧ pre ds ∧ ∀ s v G' H' fp, post ds s → Ex G G' → Ex H H' → Ex G' H' → (∀ p, H p ≠ none → G p = none → G' p = none) → (∀ a o u, G' a = some (.frz o u) → G a = some (.frz o u)) → (O s).R K G' H' v fp → (∀ p ∈ fp, G' p = none ∧ H p = none) → fp.Nodup → Q v H'
theorem we_callN {S : Type} {O : S → Own} {pre : List D → Prop} {post : List D → S → Prop} {ts : TA} {E : XK} {C : SV → List SV → Prop}
    (h : WA K ts ρ fun zs ρ1 => ∃ ds ρ2, fzA zs.reverse ρ1 [] = some (ds, ρ2) ∧ pre ds ∧ ∀ s, post ds s → C (.own (O s)) ρ2) : WE K (tCall (spN K O pre post) [] E ts) ρ C := fun b σ H θ τ Q S q =>
  h b σ H θ τ _ S fun zs ρ1 vs H1 ⟨ds, ρ2, e, hp, hc⟩ S1 hl => by
    obtain ⟨G, fp, fq, S2, r⟩ := S1.args hl e
    rw [List.append_nil]
    refine ⟨G, ds, S2.gh, r, hp, fun s v G' H' f hs g1 g2 g3 g4 g5 g6 g7 g8 => q _ ρ2 v H' (hc s hs) ?_⟩
    have S3 := S2.grow g2
    have liv : ∀ p ∈ fp ++ fq, H1 p ≠ none := fun p hp => by
      rcases List.mem_append.mp hp with z | z
      · exact S2.sl.liv p z
      · exact S2.tm.liv p z
    have bl : ∀ p, b.H p ≠ none → H1 p ≠ none := fun p hp z => by
      cases e : b.H p with
      | none => exact hp e
      | some o => rw [S2.hh p o e] at z; cases z
    refine ⟨G', fp, f ++ fq, S3.gg.trans g1, S3.hh, g3, fun p h1 h2 => g4 p (bl p h1) (S2.sep p h1 h2), fun a o u z => S2.fr a o u (g5 a o u z), S3.sl.mono g1.le, .cons ⟨v, rfl, g6⟩ (S3.tm.mono g1.le), fun p hp => ?_, ?_⟩
    · have old : p ∈ fp ++ fq → G' p = none ∧ b.H p = none := fun hm => ⟨g4 p (liv p hm) (S2.out p hm).1, (S2.out p hm).2⟩
      simp only [List.mem_append] at hp
      rcases hp with z | z | z
      · exact old (List.mem_append_left _ z)
      · refine ⟨(g7 p z).1, ?_⟩
        cases y : b.H p with
        | none => rfl
        | some o => exact absurd (g7 p z).2 (bl p (by rw [y]; exact fun y => nomatch y))
      · exact old (List.mem_append_right _ z)
    · have nd := S2.nd
      rw [List.nodup_append] at nd
      obtain ⟨n1, n2, n3⟩ := nd
      have off : ∀ p ∈ f, p ∉ fp ++ fq := fun p hp hm => liv p hm (g7 p hp).2
      rw [List.nodup_append, List.nodup_append]
      refine ⟨n1, ⟨g8, n2, fun x hx y hy z => off x hx (by rw [z]; exact List.mem_append_right _ hy)⟩, fun x hx y hy z => ?_⟩
      rcases List.mem_append.mp hy with w | w
      · exact off y w (by rw [← z]; exact List.mem_append_left _ hx)
      · exact n3 x hx y w z
end
section
variable {P : Program} {w : World} {mg : Str → Option Value} {base : Heap}
theorem fn_new {x qual : Str} {st : Stmt} {f : Addr} {fd : FuncData} {N ps : List Str} {k : Nat} {S : Type} {O : S → Own} {pre : List D → Prop} {post : List D → S → Prop} (F : Fun K x qual st f fd) (SC : FnScope N ps (defScope st))
    (len : ∀ ds, pre ds → ds.length = ps.length) (hO : ∀ (s : S) K G H v fp, (O s).R K G H v fp → fp.Nodup)
    (hbody : ∀ (cdv : Value) (A : Around) (outer : List Env) (s : Shared) (H : Hp) (E : XK) (ds : List D), Room k (A.deeper (PyProof.Rows.envOfC qual (defScope st) s.heap.objs.size f cdv)) → pre ds →
      ∃ t, PSs (cxOf CX0 P w K mg base N qual (defScope st) f cdv A outer s H E).nox (defBody st) t ∧
        WS K t (slots N (ds.map SV.d)) { nx := fun _ => False, rt := fun z ρ => ∃ s, z = .own (O s) ∧ post ds s }) : FnOk P w K mg base CX0 (k + 1) f fd ps (spN K O pre post) := by
  refine F.ok SC (fun vs H Q E h => ?_) (fun cdv A outer s H vs Q E hr h => ?_)
  · obtain ⟨G, ds, _, r, hp, _⟩ := h
    rw [reps_len r]; exact len ds hp
  · obtain ⟨G, ds, gh, r, hp, q⟩ := h
    obtain ⟨t, h1, h2⟩ := hbody cdv A outer s H E ds hr hp
    refine ⟨t, h1, h2 ⟨G, H⟩ _ H [] [] _ rfl ?_ (fun ρ' σ' H' hn S1 => hn.elim) (fun z ρ' σ' v H' hz S1 => ?_) (fun _ _ _ z _ => z.elim) (fun _ _ _ z _ => z.elim)⟩
    · have c := (cells_d (H := H) (σ0 := []) r).app (cells_any (K := K) (G := G) (H := H) (σ0 := []) (N.length - vs.length))
      refine ⟨G, [], [], Ex.refl G, Ex.refl H, gh, fun p _ h => h, fun a o u h => h, ?_, .nil, fun p hp => by simp at hp, List.nodup_nil⟩
      unfold L2.start slots
      rw [List.length_map, ← reps_len r]
      exact c
    · obtain ⟨s1, rfl, hs⟩ := hz
      obtain ⟨G', fp, fq, S2⟩ := S1
      have tm := S2.tm
      cases tm with
      | cons a r =>
        rename_i f1 f2
        obtain ⟨v', e3, hR⟩ := a
        cases e3
        cases r
        refine q s1 v G' H' f1 hs S2.gg S2.hh S2.gh S2.sep S2.fr hR (fun p hp => ?_) (hO _ _ _ _ _ _ hR)
        exact S2.out p (by simp [hp])
end
end DL

set_option Elab.async false
set_option linter.all false
set_option maxRecDepth 100000
namespace DL
open PySem PySem.Spec L2
variable {K : PySem.W.Frag}
section
variable {P : Program} {w : World} {mg : Str → Option Value} {base : Heap}
theorem fn_strP {x qual : Str} {st : Stmt} {f : Addr} {fd : FuncData} {N ps : List Str} {k : Nat} {S : Type} {O : S → Own} {pre : S → List D → Prop} {post : S → List D → S → D → Prop} (F : Fun K x qual st f fd) (SC : FnScope N ps (defScope st))
    (adr : S → Addr) (len : ∀ s ds, pre s ds → ds.length + 1 = ps.length) (hO : ∀ (s : S) K G H v fp, (O s).R K G H v fp → v = .ref (adr s) ∧ fp.Nodup) (hA : ∀ s ds s' d, pre s ds → post s ds s' d → adr s' = adr s)
    (hbody : ∀ (cdv : Value) (A : Around) (outer : List Env) (s : Shared) (H : Hp) (E : XK) (st0 : S) (ds : List D), Room k (A.deeper (PyProof.Rows.envOfC qual (defScope st) s.heap.objs.size f cdv)) → pre st0 ds →
      ∃ t, PSs (cxOf CX0 P w K mg base N qual (defScope st) f cdv A outer s H E).nox (defBody st) t ∧
        WS K t (slots N (.own (O st0) :: ds.map SV.d)) { nx := fun ρ => ∃ st1, ρ[0]? = some (.own (O st1)) ∧ post st0 ds st1 .non, rt := fun z ρ => ∃ x ρ' st1, fzT z ρ = some (x, ρ') ∧ ρ'[0]? = some (.own (O st1)) ∧ post st0 ds st1 x }) : FnOk P w K mg base CX0 (k + 1) f fd ps (spS K O pre post) := by
  refine F.ok SC (fun vs H Q E h => ?_) (fun cdv A outer s H vs Q E hr h => ?_)
  · obtain ⟨G, st0, ds, u, ws, fp, rfl, _, _, _, _, r, hp, _⟩ := h
    rw [List.length_cons, reps_len r]; exact len st0 ds hp
  · obtain ⟨G, st0, ds, u, ws, fp, rfl, gh, hR, hG, hnd, r, hp, q⟩ := h
    obtain ⟨t, h1, h2⟩ := hbody cdv A outer s H E st0 ds hr hp
    have hu := (hO _ _ _ _ _ _ hR).1
    let bH : Hp := fun p => if p ∈ fp then none else H p
    have bin : ∀ p, p ∈ fp → bH p = none := fun p hp => if_pos hp
    have bout : ∀ p, p ∉ fp → bH p = H p := fun p hp => if_neg hp
    have fin : ∀ (st1 : S) (x : D) (ρ' : List SV) (σ' : L2.St) (v : V) (H' : Hp), post st0 ds st1 x → ρ'[0]? = some (.own (O st1)) → (∃ G' fp' fq', SatG K ⟨G, bH⟩ ρ' σ' [] [] H' G' fp' fq' ∧ rep K G' x v) → Q v H' := by
      rintro st1 x ρ' σ' v H' hpo h0 ⟨G', fp', fq', S2, rx⟩
      obtain ⟨o, f1, f2, f3, e1, e2, ⟨v', e3, hR'⟩⟩ := S2.sl.get h0
      have hu' := (hO _ _ _ _ _ _ hR').1
      have eu : v' = u := by rw [hu', hu, hA _ _ _ _ hp hpo]
      rw [eu] at hR'
      have o2 : ∀ p ∈ f2, G' p = none ∧ bH p = none := fun p hp => S2.out p (by rw [e2]; simp [hp])
      refine q st1 x v G' H' f2 hpo S2.gg S2.gh (fun p o hn e => S2.hh p o ((bout p hn).trans e)) (fun p hn h1 h2 => S2.sep p (by show bH p ≠ none; rw [bout p hn]; exact h1) h2) S2.fr hR' (fun p hp => ⟨(o2 p hp).1, ?_⟩) (hO _ _ _ _ _ _ hR').2 rx
      by_cases hm : p ∈ fp
      · exact .inl hm
      · exact .inr ((bout p hm).symm.trans (o2 p hp).2)
    refine ⟨t, h1, h2 ⟨G, bH⟩ _ H [] [] _ rfl ?_ (fun ρ' σ' H' ⟨st1, e1, e2⟩ S1 => ?_) (fun z ρ' σ' v H' hz S1 => ?_) (fun _ _ _ z _ => z.elim) (fun _ _ _ z _ => z.elim)⟩
    · have c : Cells K G H [] (slots N (.own (O st0) :: ds.map SV.d)) (L2.start N (u :: ws)) (fp ++ ([] ++ [])) := by
        have c1 := (cells_d (H := H) (σ0 := []) r).app (cells_any (K := K) (G := G) (H := H) (σ0 := []) (N.length - (ws.length + 1)))
        unfold slots L2.start
        rw [List.length_cons, List.length_map, ← reps_len r]
        exact .cons ⟨u, rfl, hR⟩ c1
      refine ⟨G, _, [], Ex.refl G, fun p o e => ?_, gh, fun p _ h => h, fun a o u h => h, c, .nil, fun p hp => ?_, by simpa using hnd⟩
      · by_cases hm : p ∈ fp
        · rw [show (Bs.mk G bH).H p = none from bin p hm] at e; cases e
        · rw [show (Bs.mk G bH).H p = H p from bout p hm] at e; exact e
      · have hp : p ∈ fp := by simpa using hp
        exact ⟨hG p hp, bin p hp⟩
    · obtain ⟨G', fp', fq', S2⟩ := S1
      exact fin st1 .non ρ' σ' .non H' e2 e1 ⟨G', fp', fq', S2, rfl⟩
    · obtain ⟨x, ρ'', st1, e, e0, hx⟩ := hz
      obtain ⟨G', fp', fq', S2⟩ := S1.fz e
      have rx := SatG.top S2
      obtain ⟨fq2, S3⟩ := S2.drop
      exact fin st1 x ρ'' σ' v H' hx e0 ⟨G', fp', fq2, S3, rx⟩
end
end DL

set_option Elab.async false
set_option linter.all false
set_option maxRecDepth 100000
/-! rows of deeds, what hands see of them, taking a deed, least rows -/
namespace K61
open PySem DL
abbrev Crw := List (Str × List Str)
def hsOf (cr : Crw) (d : Str) : List Str := (lookD cr d).getD []
def keysOf (cr : Crw) : List Str := cr.map (·.1)
/-- what the hand h sees of a row -/
def saw (cr : Crw) (l : List Str) (h : Str) : List Str := l.filter fun d => decide (h ∈ hsOf cr d)
/-- no hand in common -/
def dis (cr : Crw) (a b : Str) : Bool := (hsOf cr a).all fun h => decide (h ∉ hsOf cr b)
/-- every deed has a hand -/
structure Hands (cr : Crw) : Prop where
  ne : ∀ d ∈ keysOf cr, hsOf cr d ≠ []
def takeF (cr : Crw) : List Str → Str → Option (List Str)
  | [], _ => none
  | x :: r, d => if x = d then some r else if dis cr d x = true then (takeF cr r d).map (x :: ·) else none
def leastN (cr : Crw) : Nat → List Str → List Str
  | 0, _ => []
  | n + 1, l => match (keysOf cr).find? (fun d => (takeF cr l d).isSome) with
    | some d => d :: leastN cr n ((takeF cr l d).getD [])
    | none => []
def least (cr : Crw) (l : List Str) : List Str := leastN cr l.length l
section
variable {cr : Crw} {l m r : List Str} {d x h : Str}
theorem dis_iff {a b : Str} : dis cr a b = true ↔ ∀ h ∈ hsOf cr a, h ∉ hsOf cr b := by
  unfold dis; rw [List.all_eq_true]
  constructor
  · intro q h hh; exact of_decide_eq_true (q h hh)
  · intro q h hh; exact decide_eq_true (q h hh)
theorem dis_comm {a b : Str} : dis cr a b = dis cr b a := by
  rw [Bool.eq_iff_iff, dis_iff, dis_iff]
  exact ⟨fun q h h1 h2 => q h h2 h1, fun q h h1 h2 => q h h2 h1⟩
theorem dis_self (H : Hands cr) (hd : d ∈ keysOf cr) : dis cr d d = false := by
  cases q : dis cr d d with
  | false => rfl
  | true =>
    rw [dis_iff] at q
    cases e : hsOf cr d with
    | nil => exact absurd e (H.ne d hd)
    | cons a r => exact absurd (by rw [e]; simp) (q a (by rw [e]; simp))
theorem saw_app : saw cr (l ++ m) h = saw cr l h ++ saw cr m h := by unfold saw; rw [List.filter_append]
theorem saw_cons : saw cr (x :: l) h = if h ∈ hsOf cr x then x :: saw cr l h else saw cr l h := by
  unfold saw
  by_cases e : h ∈ hsOf cr x
  · rw [if_pos e, List.filter_cons_of_pos (by simpa using e)]
  · rw [if_neg e, List.filter_cons_of_neg (by simpa using e)]
theorem saw_nil : saw cr [] h = [] := rfl
theorem take_saw : ∀ {l m : List Str}, takeF cr l d = some m → ∀ h, saw cr l h = if h ∈ hsOf cr d then d :: saw cr m h else saw cr m h
  | [], m, e, h => by cases e
  | x :: l, m, e, h => by
    unfold takeF at e
    by_cases q : x = d
    · rw [if_pos q] at e
      cases e
      subst q
      exact saw_cons
    · rw [if_neg q] at e
      by_cases q2 : dis cr d x = true
      · rw [if_pos q2] at e
        obtain ⟨m', e1, e2⟩ := Option.map_eq_some_iff.mp e
        subst e2
        have ih := take_saw e1 h
        rw [saw_cons, saw_cons, ih]
        by_cases q3 : h ∈ hsOf cr d
        · rw [if_pos q3, if_pos q3, if_neg (dis_iff.mp q2 h q3), if_neg (dis_iff.mp q2 h q3)]
        · rw [if_neg q3, if_neg q3]
      · rw [if_neg q2] at e; cases e
theorem take_perm : ∀ {l m : List Str}, takeF cr l d = some m → l.Perm (d :: m)
  | [], m, e => by cases e
  | x :: l, m, e => by
    unfold takeF at e
    by_cases q : x = d
    · rw [if_pos q] at e; cases e; subst q; exact .refl _
    · rw [if_neg q] at e
      by_cases q2 : dis cr d x = true
      · rw [if_pos q2] at e
        obtain ⟨m', e1, e2⟩ := Option.map_eq_some_iff.mp e
        subst e2
        exact ((take_perm e1).cons x).trans (.swap d x m')
      · rw [if_neg q2] at e; cases e
/-- a deed that all its hands see first can be taken -/
theorem take_of (H : Hands cr) : ∀ {l : List Str}, (∀ x ∈ l, x ∈ keysOf cr) → d ∈ keysOf cr → (∀ h ∈ hsOf cr d, (saw cr l h).head? = some d) → ∃ m, takeF cr l d = some m
  | [], _, hd, hh => by
    cases e : hsOf cr d with
    | nil => exact absurd e (H.ne d hd)
    | cons a r => have := hh a (by rw [e]; simp); cases this
  | x :: l, hl, hd, hh => by
    unfold takeF
    by_cases q : x = d
    · exact ⟨l, if_pos q⟩
    · rw [if_neg q]
      have q2 : dis cr d x = true := by
        rw [dis_iff]
        intro h h1 h2
        have := hh h h1
        rw [saw_cons, if_pos h2] at this
        exact q (Option.some.inj this)
      rw [if_pos q2]
      obtain ⟨m, e⟩ := take_of H (l := l) (fun y hy => hl y (by simp [hy])) hd fun h h1 => by
        have := hh h h1
        rw [saw_cons, if_neg (dis_iff.mp q2 h h1)] at this
        exact this
      exact ⟨x :: m, by rw [e]; rfl⟩
theorem take_iff (H : Hands cr) (hl : ∀ x ∈ l, x ∈ keysOf cr) (hd : d ∈ keysOf cr) : (takeF cr l d).isSome = true ↔ ∀ h ∈ hsOf cr d, (saw cr l h).head? = some d := by
  constructor
  · intro q h hh
    obtain ⟨m, e⟩ := Option.isSome_iff_exists.mp q
    rw [take_saw e h, if_pos hh]; rfl
  · intro q
    obtain ⟨m, e⟩ := take_of H hl hd q
    rw [e]; rfl
theorem take_sub {m : List Str} (e : takeF cr l d = some m) (hl : ∀ x ∈ l, x ∈ keysOf cr) : ∀ x ∈ m, x ∈ keysOf cr := fun x hx => hl x ((take_perm e).mem_iff.mpr (by simp [hx]))
theorem take_len {m : List Str} (e : takeF cr l d = some m) : l.length = m.length + 1 := (take_perm e).length_eq
theorem take_mem {m : List Str} (e : takeF cr l d = some m) : d ∈ l := (take_perm e).mem_iff.mpr (by simp)
theorem take_saw_in {m : List Str} (e : takeF cr l d = some m) (hh : h ∈ hsOf cr d) : saw cr l h = d :: saw cr m h := by rw [take_saw e h, if_pos hh]
theorem take_saw_out {m : List Str} (e : takeF cr l d = some m) (hh : h ∉ hsOf cr d) : saw cr l h = saw cr m h := by rw [take_saw e h, if_neg hh]
/-- alike rows: taken alike -/
theorem take_alike (H : Hands cr) (hl : ∀ x ∈ l, x ∈ keysOf cr) (hm : ∀ x ∈ m, x ∈ keysOf cr) (ha : ∀ h, saw cr l h = saw cr m h) (hd : d ∈ keysOf cr) : (takeF cr l d).isSome = (takeF cr m d).isSome := by
  rw [Bool.eq_iff_iff, take_iff H hl hd, take_iff H hm hd]
  constructor
  · intro q h hh; rw [← ha]; exact q h hh
  · intro q h hh; rw [ha]; exact q h hh
theorem take_alike2 {l' m' : List Str} (ha : ∀ h, saw cr l h = saw cr m h) (e : takeF cr l d = some l') (e2 : takeF cr m d = some m') : ∀ h, saw cr l' h = saw cr m' h := fun h => by
  have q := ha h
  rw [take_saw e h, take_saw e2 h] at q
  by_cases hh : h ∈ hsOf cr d
  · rw [if_pos hh, if_pos hh] at q; exact (List.cons.inj q).2
  · rw [if_neg hh, if_neg hh] at q; exact q
theorem leastN_alike (H : Hands cr) : ∀ (n : Nat) {l m : List Str}, (∀ x ∈ l, x ∈ keysOf cr) → (∀ x ∈ m, x ∈ keysOf cr) → (∀ h, saw cr l h = saw cr m h) → leastN cr n l = leastN cr n m
  | 0, _, _, _, _, _ => rfl
  | n + 1, l, m, hl, hm, ha => by
    have e : (keysOf cr).find? (fun d => (takeF cr l d).isSome) = (keysOf cr).find? (fun d => (takeF cr m d).isSome) := by
      have : ∀ ks : List Str, (∀ d ∈ ks, d ∈ keysOf cr) → ks.find? (fun d => (takeF cr l d).isSome) = ks.find? (fun d => (takeF cr m d).isSome) := by
        intro ks
        induction ks with
        | nil => intro _; rfl
        | cons a r ih =>
          intro hk
          rw [List.find?_cons, List.find?_cons, take_alike H hl hm ha (hk a (by simp)), ih fun d hd => hk d (by simp [hd])]
      exact this _ fun _ h => h
    unfold leastN
    rw [← e]
    cases q : (keysOf cr).find? (fun d => (takeF cr l d).isSome) with
    | none => rfl
    | some d =>
      have h1 := List.find?_some q
      have hd := List.mem_of_find?_eq_some q
      obtain ⟨l', e1⟩ := Option.isSome_iff_exists.mp (show (takeF cr l d).isSome = true from h1)
      have h2 : (takeF cr m d).isSome = true := by rw [← take_alike H hl hm ha hd]; exact h1
      obtain ⟨m', e2⟩ := Option.isSome_iff_exists.mp h2
      show d :: leastN cr n ((takeF cr l d).getD []) = d :: leastN cr n ((takeF cr m d).getD [])
      rw [e1, e2]
      show d :: leastN cr n l' = d :: leastN cr n m'
      rw [leastN_alike H n (take_sub e1 hl) (take_sub e2 hm) (take_alike2 ha e1 e2)]
/-- the first deed of a row can be taken -/
theorem take_head : takeF cr (x :: l) x = some l := by unfold takeF; exact if_pos rfl
theorem find_some (hl : ∀ x ∈ l, x ∈ keysOf cr) (h0 : l ≠ []) : ∃ d m, (keysOf cr).find? (fun d => (takeF cr l d).isSome) = some d ∧ takeF cr l d = some m := by
  cases l with
  | nil => exact absurd rfl h0
  | cons x r =>
    cases q : (keysOf cr).find? (fun d => (takeF cr (x :: r) d).isSome) with
    | none =>
      have := List.find?_eq_none.mp q x (hl x (by simp))
      rw [take_head] at this
      exact absurd rfl this
    | some d =>
      have h1 := List.find?_some q
      obtain ⟨m, e⟩ := Option.isSome_iff_exists.mp (show (takeF cr (x :: r) d).isSome = true from h1)
      exact ⟨d, m, rfl, e⟩
theorem leastN_step {d : Str} {m : List Str} {n : Nat} (q : (keysOf cr).find? (fun d => (takeF cr l d).isSome) = some d) (e : takeF cr l d = some m) : leastN cr (n + 1) l = d :: leastN cr n m := by
  show (match (keysOf cr).find? (fun d => (takeF cr l d).isSome) with
    | some d => d :: leastN cr n ((takeF cr l d).getD [])
    | none => []) = _
  rw [q]
  show d :: leastN cr n ((takeF cr l d).getD []) = _
  rw [e]; rfl
theorem leastN_saw : ∀ (n : Nat) {l : List Str}, l.length = n → (∀ x ∈ l, x ∈ keysOf cr) → (∀ h, saw cr (leastN cr n l) h = saw cr l h) ∧ (leastN cr n l).Perm l
  | 0, l, hn, _ => by
    have : l = [] := List.length_eq_zero_iff.mp hn
    subst this; exact ⟨fun _ => rfl, .nil⟩
  | n + 1, l, hn, hl => by
    obtain ⟨d, m, q, e⟩ := find_some hl (by intro z; subst z; cases hn)
    rw [leastN_step q e]
    have hm := take_len e
    obtain ⟨i1, i2⟩ := leastN_saw n (l := m) (by omega) (take_sub e hl)
    refine ⟨fun h => ?_, (i2.cons d).trans (take_perm e).symm⟩
    rw [saw_cons, i1, take_saw e h]
theorem least_saw (hl : ∀ x ∈ l, x ∈ keysOf cr) (h : Str) : saw cr (least cr l) h = saw cr l h := (leastN_saw l.length rfl hl).1 h
theorem least_perm (hl : ∀ x ∈ l, x ∈ keysOf cr) : (least cr l).Perm l := (leastN_saw l.length rfl hl).2
theorem least_len (hl : ∀ x ∈ l, x ∈ keysOf cr) : (least cr l).length = l.length := (least_perm hl).length_eq
theorem least_sub (hl : ∀ x ∈ l, x ∈ keysOf cr) : ∀ x ∈ least cr l, x ∈ keysOf cr := fun x hx => hl x ((least_perm hl).mem_iff.mp hx)
/-- alike rows are of one length -/
theorem alike_len (H : Hands cr) : ∀ (n : Nat) {l m : List Str}, l.length = n → (∀ x ∈ l, x ∈ keysOf cr) → (∀ x ∈ m, x ∈ keysOf cr) → (∀ h, saw cr l h = saw cr m h) → m.length = n
  | 0, l, m, hn, hl, hm, ha => by
    have : l = [] := List.length_eq_zero_iff.mp hn
    subst this
    cases m with
    | nil => rfl
    | cons x r =>
      cases e : hsOf cr x with
      | nil => exact absurd e (H.ne x (hm x (by simp)))
      | cons a t =>
        have := ha a
        rw [saw_cons, if_pos (by rw [e]; simp)] at this
        cases this
  | n + 1, l, m, hn, hl, hm, ha => by
    cases l with
    | nil => cases hn
    | cons x l =>
      have e : (takeF cr m x).isSome = true := by
        rw [← take_alike H hl hm ha (hl x (by simp)), take_head]; rfl
      obtain ⟨m', e2⟩ := Option.isSome_iff_exists.mp e
      have := alike_len H n (l := l) (m := m') (by simpa using hn) (fun y hy => hl y (by simp [hy])) (take_sub e2 hm) (take_alike2 ha take_head e2)
      rw [take_len e2, this]
theorem least_alike (H : Hands cr) (hl : ∀ x ∈ l, x ∈ keysOf cr) (hm : ∀ x ∈ m, x ∈ keysOf cr) (ha : ∀ h, saw cr l h = saw cr m h) : least cr l = least cr m := by
  unfold least
  rw [alike_len H l.length rfl hl hm ha]
  exact leastN_alike H _ hl hm ha

/-! ### the rest behind a row -/
def restF (cr : Crw) : List Str → List Str → Option (List Str)
  | l, [] => some l
  | l, d :: m => match takeF cr l d with
    | some l' => restF cr l' m
    | none => none
/-- a row begins another if each hand sees that -/
theorem rest_iff (H : Hands cr) : ∀ {m l : List Str}, (∀ x ∈ l, x ∈ keysOf cr) → (∀ x ∈ m, x ∈ keysOf cr) → ((restF cr l m).isSome = true ↔ ∀ h, (saw cr l h).take (saw cr m h).length = saw cr m h)
  | [], l, _, _ => by simp [restF, saw]
  | d :: m, l, hl, hm => by
    have hd := hm d (by simp)
    unfold restF
    cases e : takeF cr l d with
    | none =>
      constructor
      · intro q; cases q
      · intro q
        exfalso
        have : (takeF cr l d).isSome = true := (take_iff H hl hd).mpr fun h hh => by
          have := q h
          rw [saw_cons, if_pos hh] at this
          cases s : saw cr l h with
          | nil => rw [s] at this; simp at this
          | cons a t => rw [s] at this; simp at this; rw [this.1]; rfl
        rw [e] at this; cases this
    | some l' =>
      have ih := rest_iff H (m := m) (l := l') (take_sub e hl) fun x hx => hm x (by simp [hx])
      show (restF cr l' m).isSome = true ↔ _
      rw [ih]
      constructor
      · intro q h
        have := q h
        rw [saw_cons, take_saw e h]
        by_cases hh : h ∈ hsOf cr d
        · rw [if_pos hh, if_pos hh]; simp [this]
        · rw [if_neg hh, if_neg hh]; exact this
      · intro q h
        have := q h
        rw [saw_cons, take_saw e h] at this
        by_cases hh : h ∈ hsOf cr d
        · rw [if_pos hh, if_pos hh] at this; simpa using this
        · rw [if_neg hh, if_neg hh] at this; exact this
theorem rest_saw : ∀ {m l r : List Str}, restF cr l m = some r → (∀ h, saw cr l h = saw cr m h ++ saw cr r h) ∧ l.length = m.length + r.length ∧ (∀ x ∈ r, x ∈ l)
  | [], l, r, e => by cases e; exact ⟨fun _ => rfl, by simp, fun _ h => h⟩
  | d :: m, l, r, e => by
    unfold restF at e
    cases q : takeF cr l d with
    | none => rw [q] at e; cases e
    | some l' =>
      rw [q] at e
      obtain ⟨i1, i2, i3⟩ := rest_saw (show restF cr l' m = some r from e)
      refine ⟨fun h => ?_, by rw [take_len q, i2, List.length_cons]; omega, fun x hx => (take_perm q).mem_iff.mpr (by simp [i3 x hx])⟩
      rw [take_saw q h, saw_cons, i1]
      by_cases hh : h ∈ hsOf cr d
      · rw [if_pos hh, if_pos hh]; rfl
      · rw [if_neg hh, if_neg hh]
end
end K61

set_option Elab.async false
set_option linter.all false
set_option maxRecDepth 100000
namespace K61
open PySem DL
section
variable {cr : Crw} {l m r : List Str} {d x h : Str}
/-! ### fronts -/
def frontB (cr : Crw) (l : List Str) (i : Nat) : Bool := match l[i]? with
  | some d => (l.take i).all (dis cr d)
  | none => false
def frontsF (cr : Crw) (l : List Str) : List Nat := (List.range l.length).filter (frontB cr l)
theorem front_take (H : Hands cr) : ∀ {l : List Str} {i : Nat}, (∀ x ∈ l, x ∈ keysOf cr) → l[i]? = some d → (∀ o ∈ l.take i, dis cr d o = true) → takeF cr l d = some (l.eraseIdx i)
  | [], i, _, e, _ => by simp at e
  | x :: l, 0, _, e, _ => by
    simp only [List.getElem?_cons_zero, Option.some.injEq] at e
    subst e; exact take_head
  | x :: l, i + 1, hl, e, ha => by
    simp only [List.getElem?_cons_succ] at e
    have h1 := ha x (by simp)
    have hd : d ∈ keysOf cr := hl d (by simp [List.mem_of_getElem? e])
    have ne : ¬ x = d := fun z => by subst z; rw [dis_self H hd] at h1; cases h1
    unfold takeF
    rw [if_neg ne, if_pos h1, front_take H (fun y hy => hl y (by simp [hy])) e fun o ho => ha o (by simp [ho])]
    rfl
theorem take_front : ∀ {l m : List Str}, takeF cr l d = some m → ∃ i, l[i]? = some d ∧ (∀ o ∈ l.take i, dis cr d o = true) ∧ m = l.eraseIdx i
  | [], m, e => by cases e
  | x :: l, m, e => by
    unfold takeF at e
    by_cases q : x = d
    · rw [if_pos q] at e; cases e; subst q; exact ⟨0, rfl, by simp, rfl⟩
    · rw [if_neg q] at e
      by_cases q2 : dis cr d x = true
      · rw [if_pos q2] at e
        obtain ⟨m', e1, e2⟩ := Option.map_eq_some_iff.mp e
        subst e2
        obtain ⟨i, i1, i2, i3⟩ := take_front e1
        refine ⟨i + 1, by simpa using i1, fun o ho => ?_, by rw [i3]; rfl⟩
        rw [List.take_succ_cons] at ho
        rcases List.mem_cons.mp ho with z | z
        · subst z; exact q2
        · exact i2 o z
      · rw [if_neg q2] at e; cases e
theorem mem_fronts {i : Nat} : i ∈ frontsF cr l ↔ ∃ d, l[i]? = some d ∧ ∀ o ∈ l.take i, dis cr d o = true := by
  unfold frontsF
  rw [List.mem_filter, List.mem_range]
  unfold frontB
  constructor
  · rintro ⟨h1, h2⟩
    cases e : l[i]? with
    | none => rw [e] at h2; cases h2
    | some d => rw [e] at h2; exact ⟨d, rfl, fun o ho => List.all_eq_true.mp h2 o ho⟩
  · rintro ⟨d, e, h2⟩
    exact ⟨(List.getElem?_eq_some_iff.mp e).1, by rw [e]; exact List.all_eq_true.mpr h2⟩
theorem fronts_take (H : Hands cr) (hl : ∀ x ∈ l, x ∈ keysOf cr) {i : Nat} (hi : i ∈ frontsF cr l) (e : l[i]? = some d) : takeF cr l d = some (l.eraseIdx i) := by
  obtain ⟨d', e', h⟩ := mem_fronts.mp hi
  rw [e] at e'; cases e'
  exact front_take H hl e h
theorem take_fronts (e : takeF cr l d = some m) : ∃ i, i ∈ frontsF cr l ∧ l[i]? = some d ∧ m = l.eraseIdx i := by
  obtain ⟨i, h1, h2, h3⟩ := take_front e
  exact ⟨i, mem_fronts.mpr ⟨d, h1, h2⟩, h1, h3⟩
theorem fronts_ne (hn : l ≠ []) : frontsF cr l ≠ [] := by
  cases l with
  | nil => exact absurd rfl hn
  | cons x r => exact List.ne_nil_of_mem (mem_fronts.mpr ⟨x, rfl, by simp⟩ : 0 ∈ frontsF cr (x :: r))
/-- the least of the pairs tells the least step -/
theorem least_step (H : Hands cr) (hasc : Asc (keysOf cr)) (hl : ∀ x ∈ l, x ∈ keysOf cr) {p : Str × Int} {i : Nat} (hp : p = (d, (i : Int))) (hi : i ∈ frontsF cr l) (e : l[i]? = some d)
    (hm : ∀ j d', j ∈ frontsF cr l → l[j]? = some d' → SrtO.lexSI (d', (j : Int)) p = false) : (keysOf cr).find? (fun d => (takeF cr l d).isSome) = some d ∧ takeF cr l d = some (l.eraseIdx i) := by
  subst hp
  have ht := fronts_take H hl hi e
  refine ⟨?_, ht⟩
  obtain ⟨d0, m0, q, e0⟩ := find_some hl (by intro z; subst z; simp at e)
  rw [q]
  obtain ⟨i0, f1, f2, _⟩ := take_fronts e0
  have n1 := SrtO.lexSI_no.mp (hm i0 d0 f1 f2)
  have hd : d ∈ keysOf cr := hl d (List.mem_of_getElem? e)
  obtain ⟨h1, as, bs, h2, h3⟩ := List.find?_eq_some_iff_append.mp q
  rw [h2] at hd
  rcases List.mem_append.mp hd with z | z
  · have := h3 d z
    rw [ht] at this; cases this
  · rcases List.mem_cons.mp z with z | z
    · rw [z]
    · rw [h2] at hasc
      have h4 : ltS d d0 = false := (List.pairwise_cons.mp (List.pairwise_append.mp hasc).2.1).1 d z
      rcases ltS_tri d0 d with c | c | c
      · exact absurd (.inl (ltS_iff.mp c)) n1
      · rw [c]
      · rw [h4] at c; cases c
theorem cut_erase {α : Type} (l : List α) (i : Nat) : l.take i ++ l.drop (i + 1) = l.eraseIdx i := (List.eraseIdx_eq_take_drop_succ l i).symm
/-! ### what begins a row -/
theorem pre_of {a b c : List Str} (h : a = b ++ c) : a.take b.length = b := by rw [h]; simp
/-- f with n, f with r: what both begin with, and the rest -/
structure Beg (cr : Crw) (l m f n r : List Str) : Prop where
  one : ∀ h, saw cr l h = saw cr f h ++ saw cr n h
  two : ∀ h, saw cr m h = saw cr f h ++ saw cr r h
  l1 : l.length = f.length + n.length
  l2 : m.length = f.length + r.length
  k0 : ∀ x ∈ f, x ∈ keysOf cr
  k1 : ∀ x ∈ n, x ∈ keysOf cr
  k2 : ∀ x ∈ r, x ∈ keysOf cr
theorem Beg.start (hl : ∀ x ∈ l, x ∈ keysOf cr) (hm : ∀ x ∈ m, x ∈ keysOf cr) : Beg cr l m [] l m := ⟨fun _ => rfl, fun _ => rfl, by simp, by simp, by simp, hl, hm⟩
theorem Beg.step {f n r n' r' : List Str} (B : Beg cr l m f n r) (e1 : takeF cr n d = some n') (e2 : takeF cr r d = some r') : Beg cr l m (f ++ [d]) n' r' := by
  have key : ∀ {a b c : List Str} {h : Str}, a = saw cr f h ++ saw cr b h → takeF cr b d = some c → a = saw cr (f ++ [d]) h ++ saw cr c h := fun {a b c h} q e => by
    rw [q, saw_app, take_saw e h, saw_cons, saw_nil]
    by_cases hh : h ∈ hsOf cr d
    · rw [if_pos hh, if_pos hh]; simp
    · rw [if_neg hh, if_neg hh]; simp
  refine ⟨fun h => key (B.one h) e1, fun h => key (B.two h) e2, ?_, ?_, fun x hx => ?_, take_sub e1 B.k1, take_sub e2 B.k2⟩
  · rw [B.l1, take_len e1]; simp; omega
  · rw [B.l2, take_len e2]; simp; omega
  · rcases List.mem_append.mp hx with z | z
    · exact B.k0 x z
    · rw [List.mem_singleton.mp z]; exact B.k1 d (take_mem e1)
/-- two rows, no hand in both -/
theorem apart_rows {n r : List Str} (ha : ∀ a ∈ n, ∀ b ∈ r, dis cr a b = true) (h : Str) : saw cr n h = [] ∨ saw cr r h = [] := by
  by_cases e : saw cr n h = []
  · exact .inl e
  · right
    obtain ⟨a, ha1⟩ := List.exists_mem_of_ne_nil _ e
    obtain ⟨a1, a2⟩ := List.mem_filter.mp ha1
    refine List.filter_eq_nil_iff.mpr fun b hb z => ?_
    exact dis_iff.mp (ha a a1 b hb) h (of_decide_eq_true a2) (of_decide_eq_true z)
theorem Beg.both {f n r : List Str} (B : Beg cr l m f n r) (ha : ∀ a ∈ n, ∀ b ∈ r, dis cr a b = true) (h : Str) : (saw cr (f ++ n ++ r) h).take (saw cr l h).length = saw cr l h ∧ (saw cr (f ++ n ++ r) h).take (saw cr m h).length = saw cr m h := by
  constructor
  · exact pre_of (c := saw cr r h) (by rw [saw_app, saw_app, B.one])
  · rcases apart_rows ha h with z | z
    · exact pre_of (c := []) (by rw [saw_app, saw_app, B.two, z]; simp)
    · exact pre_of (c := saw cr n h) (by rw [saw_app, saw_app, B.two, z]; simp)
/-! ### the crew -/
def DN : List Str := ["a", "b", "c", "pay", "log", "x9", "put", "get"]
def HN : List Str := ["p", "q", "r", "s", "t"]
structure Good (cr : Crw) : Prop where
  nd : (keysOf cr).Nodup
  asc : Asc (keysOf cr)
  n1 : 1 ≤ cr.length
  n8 : cr.length ≤ 8
  dn : ∀ d ∈ keysOf cr, d ∈ DN
  hs : ∀ p ∈ cr, p.2 ≠ [] ∧ p.2.Nodup ∧ Asc p.2 ∧ ∀ h ∈ p.2, h ∈ HN
theorem look_of : ∀ {cr : Crw} {p : Str × List Str}, (keysOf cr).Nodup → p ∈ cr → lookD cr p.1 = some p.2
  | [], _, _, h => by simp at h
  | q :: cr, p, nd, h => by
    obtain ⟨n1, n2⟩ := List.nodup_cons.mp (show (q.1 :: keysOf cr).Nodup from nd)
    rcases List.mem_cons.mp h with e | h
    · subst e; simp [lookD]
    · have ne : ¬ q.1 = p.1 := fun z => n1 (by rw [z]; exact List.mem_map.mpr ⟨p, h, rfl⟩)
      have := look_of n2 h
      simpa [lookD, List.find?_cons, ne] using this
theorem Good.look (Gd : Good cr) {p : Str × List Str} (h : p ∈ cr) : hsOf cr p.1 = p.2 := by unfold hsOf; rw [look_of Gd.nd h]; rfl
theorem Good.at (Gd : Good cr) (hd : d ∈ keysOf cr) : ∃ p ∈ cr, p.1 = d ∧ hsOf cr d = p.2 ∧ lookD cr d = some p.2 := by
  obtain ⟨p, hp, e⟩ := List.mem_map.mp hd
  subst e
  exact ⟨p, hp, rfl, Gd.look hp, look_of Gd.nd hp⟩
theorem Good.hands (Gd : Good cr) : Hands cr := ⟨fun d hd => by
  obtain ⟨p, hp, _, e, _⟩ := Gd.at hd
  rw [e]; exact (Gd.hs p hp).1⟩
theorem Good.hn (Gd : Good cr) (hd : d ∈ keysOf cr) : ∀ h ∈ hsOf cr d, h ∈ HN := by
  obtain ⟨p, hp, _, e, _⟩ := Gd.at hd
  rw [e]; exact (Gd.hs p hp).2.2.2
/-- the hands, in order -/
def addH (found : List Str) (l : List Str) : List Str := found ++ l.filter fun h => decide (h ∉ found)
def allH (cr : Crw) : List Str := cr.foldl (fun f p => addH f p.2) []
def every (cr : Crw) : List Str := sortS (allH cr)
theorem addH_mem {f l : List Str} : h ∈ addH f l ↔ h ∈ f ∨ h ∈ l := by
  unfold addH
  rw [List.mem_append, List.mem_filter]
  constructor
  · rintro (q | q)
    · exact .inl q
    · exact .inr q.1
  · rintro (q | q)
    · exact .inl q
    · by_cases e : h ∈ f
      · exact .inl e
      · exact .inr ⟨q, by simpa using e⟩
theorem addH_nd {f l : List Str} (hf : f.Nodup) (hl : l.Nodup) : (addH f l).Nodup := by
  unfold addH
  rw [List.nodup_append]
  refine ⟨hf, hl.filter _, fun a ha b hb e => ?_⟩
  subst e
  exact (of_decide_eq_true (List.mem_filter.mp hb).2) ha
theorem fold_mem : ∀ {c : Crw} {f : List Str}, h ∈ c.foldl (fun f p => addH f p.2) f ↔ h ∈ f ∨ ∃ p ∈ c, h ∈ p.2
  | [], f => by simp
  | p :: c, f => by
    rw [List.foldl_cons, fold_mem, addH_mem]
    simp only [List.mem_cons, exists_eq_or_imp, or_assoc]
theorem fold_nd : ∀ {c : Crw} {f : List Str}, f.Nodup → (∀ p ∈ c, p.2.Nodup) → (c.foldl (fun f p => addH f p.2) f).Nodup
  | [], f, h, _ => h
  | p :: c, f, h, hc => by rw [List.foldl_cons]; exact fold_nd (addH_nd h (hc p (by simp))) fun q hq => hc q (by simp [hq])
theorem Good.allH_mem (Gd : Good cr) : h ∈ allH cr ↔ ∃ d ∈ keysOf cr, h ∈ hsOf cr d := by
  unfold allH
  rw [fold_mem]
  constructor
  · rintro (q | ⟨p, hp, q⟩)
    · simp at q
    · exact ⟨p.1, List.mem_map.mpr ⟨p, hp, rfl⟩, by rw [Gd.look hp]; exact q⟩
  · rintro ⟨d, hd, q⟩
    obtain ⟨p, hp, _, e, _⟩ := Gd.at hd
    exact .inr ⟨p, hp, by rw [← e]; exact q⟩
theorem Good.every_mem (Gd : Good cr) : h ∈ every cr ↔ ∃ d ∈ keysOf cr, h ∈ hsOf cr d := by unfold every; rw [sortS_mem, Gd.allH_mem]
theorem Good.allH_nd (Gd : Good cr) : (allH cr).Nodup := fold_nd List.nodup_nil fun p hp => (Gd.hs p hp).2.1
theorem Good.every_nd (Gd : Good cr) : (every cr).Nodup := (sortS_perm _).nodup_iff.mpr Gd.allH_nd
theorem Good.allH_hn (Gd : Good cr) : ∀ h ∈ allH cr, h ∈ HN := fun h hh => by
  obtain ⟨d, hd, q⟩ := Gd.allH_mem.mp hh
  exact Gd.hn hd h q
theorem sub_len {l m : List Str} (nd : l.Nodup) (h : ∀ x ∈ l, x ∈ m) : l.length ≤ m.length := by
  induction l generalizing m with
  | nil => simp
  | cons a l ih =>
    obtain ⟨n1, n2⟩ := List.nodup_cons.mp nd
    have ha := h a (by simp)
    have := ih (m := m.erase a) n2 fun x hx => (List.mem_erase_of_ne (fun (z : x = a) => n1 (z ▸ hx))).mpr (h x (by simp [hx]))
    rw [List.length_erase_of_mem ha] at this
    have : 0 < m.length := List.length_pos_of_mem ha
    simp; omega
theorem Good.every_len (Gd : Good cr) : (every cr).length ≤ 5 := by
  unfold every; rw [sortS_len]
  exact sub_len (m := HN) Gd.allH_nd Gd.allH_hn
theorem Good.every_hn (Gd : Good cr) : ∀ h ∈ every cr, h ∈ HN := fun h hh => Gd.allH_hn h (sortS_mem.mp hh)
theorem Good.hs_every (Gd : Good cr) (hd : d ∈ keysOf cr) (hh : h ∈ hsOf cr d) : h ∈ every cr := Gd.every_mem.mpr ⟨d, hd, hh⟩
theorem Good.hs_len (Gd : Good cr) (hd : d ∈ keysOf cr) : (hsOf cr d).length ≤ 5 := by
  obtain ⟨p, hp, _, e, _⟩ := Gd.at hd
  rw [e]; exact sub_len (m := HN) (Gd.hs p hp).2.1 (Gd.hs p hp).2.2.2
/-- a hand without a deed sees nothing -/
theorem saw_out (Gd : Good cr) (hl : ∀ x ∈ l, x ∈ keysOf cr) (hh : h ∉ every cr) : saw cr l h = [] := List.filter_eq_nil_iff.mpr fun d hd z => hh (Gd.hs_every (hl d hd) (of_decide_eq_true z))
theorem saw_len (l : List Str) (h : Str) : (saw cr l h).length ≤ l.length := List.length_filter_le _ _
end
end K61

set_option Elab.async false
set_option linter.all false
set_option maxRecDepth 100000
namespace K61
open PySem PySem.Spec L2 DL
/-- where the defs and classes stand -/
structure Ad where
  a_is_word : Addr
  fd_is_word : FuncData
  a_is_name : Addr
  fd_is_name : FuncData
  a_are_hands : Addr
  fd_are_hands : FuncData
  a_are_deeds : Addr
  fd_are_deeds : FuncData
  a_Crew_init : Addr
  fd_Crew_init : FuncData
  a_apart : Addr
  fd_apart : FuncData
  a_need_crew : Addr
  fd_need_crew : FuncData
  a_is_row : Addr
  fd_is_row : FuncData
  a_need_row : Addr
  fd_need_row : FuncData
  a_need_second : Addr
  fd_need_second : FuncData
  a_seen_by : Addr
  fd_seen_by : FuncData
  a_least_of : Addr
  fd_least_of : FuncData
  a_taken : Addr
  fd_taken : FuncData
  a_rest_by : Addr
  fd_rest_by : FuncData
  a_begun : Addr
  fd_begun : FuncData
  a_told : Addr
  fd_told : FuncData
  a_rest_of : Addr
  fd_rest_of : FuncData
  a_common_begin : Addr
  fd_common_begin : FuncData
  a_continued : Addr
  fd_continued : FuncData
  a_logs_of : Addr
  fd_logs_of : FuncData
  a_is_log : Addr
  fd_is_log : FuncData
  a_are_logs : Addr
  fd_are_logs : FuncData
  a_need_logs : Addr
  fd_need_logs : FuncData
  a_is_ready : Addr
  fd_is_ready : FuncData
  a_done_by : Addr
  fd_done_by : FuncData
  a_joined : Addr
  fd_joined : FuncData
  a_law_start : Addr
  fd_law_start : FuncData
  a_law_below : Addr
  fd_law_below : FuncData
  a_law_pick : Addr
  fd_law_pick : FuncData
  a_law_mixed : Addr
  fd_law_mixed : FuncData
  a_law_mcrew : Addr
  fd_law_mcrew : FuncData
  a_law_mmade_crew : Addr
  fd_law_mmade_crew : FuncData
  a_law_mis_apart : Addr
  fd_law_mis_apart : FuncData
  a_law_mrow : Addr
  fd_law_mrow : FuncData
  a_law_mfronts : Addr
  fd_law_mfronts : FuncData
  a_law_mleast : Addr
  fd_law_mleast : FuncData
  a_law_mshuffled : Addr
  fd_law_mshuffled : FuncData
  a_law_mtaken : Addr
  fd_law_mtaken : FuncData
  a_law_mrest : Addr
  fd_law_mrest : FuncData
  a_law_mbeginnings : Addr
  fd_law_mbeginnings : FuncData
  a_law_mtwo : Addr
  fd_law_mtwo : FuncData
  a_law_mhands : Addr
  fd_law_mhands : FuncData
  a_law_same : Addr
  fd_law_same : FuncData
  a_law : Addr
  fd_law : FuncData
  CCrew : Addr
/-- is_word: slots 0 thing, 1 sign -/
def t_is_word (K : PySem.W.Frag) (A : Ad) : TS :=
    tSeq (tIfS (tOr (tNot (tB (tCB (rIsiA K) (tCons (tVar 0) (tCons (tC (.ty "str")) (tNil)))))) (tOr (tTest (tOp (rEqA K) (tVar 0) (tC (.str "")))) (tTest (tOp (rInA K true) (tOp (rIxA K) (tVar 0) (tC (.int 0))) (tC (.str "abcdefghijklmnopqrstuvwxyz")))))) (tRet (tC (.bl false))) (tNext))
    (tRet (tOp (rEqA K) (tLc (iStr (tVar 0)) (gName 1) (tTest (tOp (rInA K true) (tVar 1) (tOp (rAddA K) (tC (.str "abcdefghijklmnopqrstuvwxyz")) (tC (.str "0123456789"))))) (tVar 1) [1]) (tLst (tNil))))
/-- is_name: slots 0 thing -/
def t_is_name (K : PySem.W.Frag) (A : Ad) (sp_is_word : Sp) : TS :=
    tRet (tAndV (tCall sp_is_word [] E0 (tCons (tVar 0) (tNil))) (tOp (rI0 fun i j => .bl (decide (i ≤ j))) (tCB (rLenA K) (tCons (tVar 0) (tNil))) (tC (.int 8))))
/-- are_hands: slots 0 thing, 1 part, 2 at -/
def t_are_hands (K : PySem.W.Frag) (A : Ad) (sp_is_name : Sp) : TS :=
    tSeq (tIfS (tOr (tNot (tB (tCB (rIsiA K) (tCons (tVar 0) (tCons (tTup (tCons (tC (.ty "list")) (tCons (tC (.ty "tuple")) (tNil)))) (tNil)))))) (tOr (tTest (tOp (rEqA K) (tCB (rLenA K) (tCons (tVar 0) (tNil))) (tC (.int 0)))) (tNot (tB (tCB (rAll K) (tCons (tLc (iSeq K (tVar 0)) (gName 1) (tYes) (tCall sp_is_name [] E0 (tCons (tVar 1) (tNil))) [1]) (tNil))))))) (tRet (tC (.bl false))) (tNext))
    (tRet (tCB (rAll K) (tCons (tLc (iEnumA K (tCons (tVar 0) (tNil))) (gTup K 2 (gCons (gName 2) (gCons (gName 1) (gNil)))) (tYes) (tOp (rInA K true) (tVar 1) (tSl (rSlLT K) (tVar 0) (tNoPart) (tPart (tVar 2)))) [2, 1]) (tNil))))
/-- are_deeds: slots 0 thing, 1 found, 2 deed, 3 hand -/
def t_are_deeds (K : PySem.W.Frag) (A : Ad) (sp_is_name : Sp) (sp_are_hands : Sp) : TS :=
    tSeq (tIfS (tOr (tNot (tB (tCB (rIsiA K) (tCons (tVar 0) (tCons (tC (.ty "dict")) (tNil)))))) (tNot (tTest (tChain (rI0 fun i j => .bl (decide (i ≤ j))) (rI0 fun i j => .bl (decide (i ≤ j))) (tC (.int 1)) (tCB (rLenA K) (tCons (tVar 0) (tNil))) (tC (.int 8)))))) (tRet (tC (.bl false))) (tNext))
    (tSeq (tIfS (tNot (tB (tCB (rAll K) (tCons (tLkE (tLc (iKeys (tVar 0)) (gName 2) (tYes) (tAndV (tCall sp_is_name [] E0 (tCons (tVar 2) (tNil))) (tCall sp_are_hands [] E0 (tCons (tOp (rIxA K) (tVar 0) (tVar 2)) (tNil)))) [2])) (tNil))))) (tRet (tC (.bl false))) (tNext))
    (tSeq (tAsg (tDNewK) (gName 1))
    (tSeq (tLk (tFor (iKeys (tVar 0)) (gName 2) (tDrop (tBM K "dict" (rUpdD) (tVar 1) (tCons (tDc (iSeq K (tOp (rIxA K) (tVar 0) (tVar 2))) (gName 3) (tYes) (tVar 3) (tC (.bl true)) [3]) (tNil))))))
    (tRet (tOp (rI0 fun i j => .bl (decide (i ≤ j))) (tCB (rLenA K) (tCons (tVar 1) (tNil))) (tC (.int 5)))))))
/-- Crew.__init__: slots 0 self, 1 deeds, 2 found, 3 hands, 4 deed, 5 hand -/
def t_Crew_init (K : PySem.W.Frag) (A : Ad) (sp_are_deeds : Sp) : TS :=
    tSeq (tIfS (tNot (tB (tCall sp_are_deeds [] E0 (tCons (tVar 1) (tNil))))) (tNever) (tNext))
    (tSeq (sFld K (tVar 0) (tDc (iSeq K (tCB (rSortedA K) (tCons (tVar 1) (tNil)))) (gName 4) (tYes) (tVar 4) (tCB (rTupA K) (tCons (tCB (rSortedA K) (tCons (tOp (rIxA K) (tVar 1) (tVar 4)) (tNil))) (tNil))) [4]) "touched")
    (tSeq (tAsg (tDNewK) (gName 2))
    (tSeq (tLk (tFor (iVals (tFld K (tVar 0) "touched")) (gName 3) (tDrop (tBM K "dict" (rUpdD) (tVar 2) (tCons (tDc (iSeq K (tVar 3)) (gName 5) (tYes) (tVar 5) (tC (.bl true)) [5]) (tNil))))))
    (sFld K (tVar 0) (tCB (rTupA K) (tCons (tCB (rSortedA K) (tCons (tVar 2) (tNil))) (tNil))) "every"))))
/-- apart: slots 0 crew, 1 deed, 2 other, 3 hand -/
def t_apart (K : PySem.W.Frag) (A : Ad) : TS :=
    tRet (tAndV (tOp (rNeA K) (tVar 1) (tVar 2)) (tOp (rEqA K) (tLc (iSeq K (tOp (rIxA K) (tFld K (tVar 0) "touched") (tVar 1))) (gName 3) (tTest (tOp (rInA K false) (tVar 3) (tOp (rIxA K) (tFld K (tVar 0) "touched") (tVar 2)))) (tVar 3) [3]) (tLst (tNil))))
/-- need_crew: slots 0 crew -/
def t_need_crew (K : PySem.W.Frag) (A : Ad) : TS :=
    tSeq (tIfS (tNot (tB (tCB (rIsiA K) (tCons (tVar 0) (tCons (tC (.ref A.CCrew)) (tNil)))))) (tNever) (tNext))
    (tRet (tVar 0))
/-- is_row: slots 0 crew, 1 thing, 2 deed -/
def t_is_row (K : PySem.W.Frag) (A : Ad) : TS :=
    tSeq (tIfS (tOr (tNot (tB (tCB (rIsiA K) (tCons (tVar 1) (tCons (tTup (tCons (tC (.ty "list")) (tCons (tC (.ty "tuple")) (tNil)))) (tNil)))))) (tTest (tOp (rI0 fun i j => .bl (decide (j < i))) (tCB (rLenA K) (tCons (tVar 1) (tNil))) (tC (.int 200))))) (tRet (tC (.bl false))) (tNext))
    (tRet (tCB (rAll K) (tCons (tLc (iSeq K (tVar 1)) (gName 2) (tYes) (tAndV (tCB (rIsiA K) (tCons (tVar 2) (tCons (tC (.ty "str")) (tNil)))) (tOp (rInA K false) (tVar 2) (tFld K (tVar 0) "touched"))) [2]) (tNil))))
/-- need_row: slots 0 crew, 1 row -/
def t_need_row (K : PySem.W.Frag) (A : Ad) (sp_is_row : Sp) (sp_need_crew : Sp) : TS :=
    tSeq (tIfS (tNot (tB (tCall sp_is_row [] E0 (tCons (tCall sp_need_crew [] E0 (tCons (tVar 0) (tNil))) (tCons (tVar 1) (tNil)))))) (tNever) (tNext))
    (tRet (tCB (rTupA K) (tCons (tVar 1) (tNil))))
/-- need_second: slots 0 crew, 1 second -/
def t_need_second (K : PySem.W.Frag) (A : Ad) (sp_is_row : Sp) : TS :=
    tSeq (tIfS (tNot (tB (tCall sp_is_row [] E0 (tCons (tVar 0) (tCons (tVar 1) (tNil)))))) (tNever) (tNext))
    (tRet (tCB (rTupA K) (tCons (tVar 1) (tNil))))
/-- seen_by: slots 0 crew, 1 row, 2 hand, 3 deed -/
def t_seen_by (K : PySem.W.Frag) (A : Ad) : TS :=
    tRet (tLc (iSeq K (tVar 1)) (gName 3) (tTest (tOp (rInA K false) (tVar 2) (tOp (rIxA K) (tFld K (tVar 0) "touched") (tVar 3)))) (tVar 3) [3])
/-- least_of: slots 0 crew, 1 row, 2 logs, 3 spots, 4 found, 5 deed, 6 hands, 7 hand -/
def t_least_of (K : PySem.W.Frag) (A : Ad) (sp_seen_by : Sp) : TS :=
    tSeq (tAsg (tDc (iSeq K (tFld K (tVar 0) "every")) (gName 7) (tYes) (tVar 7) (tCall sp_seen_by [] E0 (tCons (tVar 0) (tCons (tVar 1) (tCons (tVar 7) (tNil))))) [7]) (gName 2))
    (tSeq (tAsg (tTup (tCons (tDc (iSeq K (tFld K (tVar 0) "every")) (gName 7) (tYes) (tVar 7) (tC (.int 0)) [7]) (tCons (tLst (tNil)) (tNil)))) (gTup K 2 (gCons (gName 3) (gCons (gName 4) (gNil)))))
    (tSeq (tWhile (tTest (tOp (rI0 fun i j => .bl (decide (i < j))) (tCB (rLenA K) (tCons (tVar 4) (tNil))) (tCB (rLenA K) (tCons (tVar 1) (tNil))))) (tSeq (tLk (tFor (iItems (tFld K (tVar 0) "touched")) (gTup K 2 (gCons (gName 5) (gCons (gName 6) (gNil)))) (tIfS (tB (tCB (rAll K) (tCons (tLc (iSeq K (tVar 6)) (gName 7) (tYes) (tOp (rEqA K) (tSl (rSlLT K) (tOp (rIxA K) (tVar 2) (tVar 7)) (tPart (tOp (rIxA K) (tVar 3) (tVar 7))) (tPart (tOp (rAddA K) (tOp (rIxA K) (tVar 3) (tVar 7)) (tC (.int 1))))) (tLst (tCons (tVar 5) (tNil)))) [7]) (tNil)))) (tBreak) (tNext))))
    (tSeq (tDrop (tBM K "dict" (rUpdD) (tVar 3) (tCons (tDc (iSeq K (tVar 6)) (gName 7) (tYes) (tVar 7) (tOp (rAddA K) (tOp (rIxA K) (tVar 3) (tVar 7)) (tC (.int 1))) [7]) (tNil))))
    (tDrop (tBM K "list" (rAppend) (tVar 4) (tCons (tVar 5) (tNil)))))))
    (tRet (tCB (rTupA K) (tCons (tVar 4) (tNil))))))
/-- taken: slots 0 crew, 1 row, 2 deed, 3 at, 4 other -/
def t_taken (K : PySem.W.Frag) (A : Ad) (sp_apart : Sp) : TS :=
    tSeq (tFor (iEnumA K (tCons (tVar 1) (tNil))) (gTup K 2 (gCons (gName 3) (gCons (gName 4) (gNil)))) (tSeq (tIfS (tTest (tOp (rEqA K) (tVar 4) (tVar 2))) (tRet (tOp (rAddA K) (tSl (rSlLT K) (tVar 1) (tNoPart) (tPart (tVar 3))) (tSl (rSlLT K) (tVar 1) (tPart (tOp (rAddA K) (tVar 3) (tC (.int 1)))) (tNoPart)))) (tNext))
    (tIfS (tNot (tB (tCall sp_apart [] E0 (tCons (tVar 0) (tCons (tVar 2) (tCons (tVar 4) (tNil))))))) (tRet (tC .non)) (tNext))))
    (tRet (tC .non))
/-- rest_by: slots 0 crew, 1 row, 2 second, 3 deed -/
def t_rest_by (K : PySem.W.Frag) (A : Ad) (sp_taken : Sp) : TS :=
    tSeq (tFor (iSeq K (tVar 2)) (gName 3) (tAsg (tIf (tB (tIsN (tVar 1))) (tC .non) (tCall sp_taken [] E0 (tCons (tVar 0) (tCons (tVar 1) (tCons (tVar 3) (tNil)))))) (gName 1)))
    (tRet (tVar 1))
/-- begun: slots 0 crew, 1 row, 2 second, 3 found, 4 more, 5 deed, 6 near, 7 far -/
def t_begun (K : PySem.W.Frag) (A : Ad) (sp_taken : Sp) : TS :=
    tSeq (tAsg (tTup (tCons (tTup (tNil)) (tCons (tC (.bl true)) (tNil)))) (gTup K 2 (gCons (gName 3) (gCons (gName 4) (gNil)))))
    (tSeq (tWhile (tB (tVar 4)) (tSeq (tAsg (tC (.bl false)) (gName 4))
    (tFor (iSeq K (tCB (rSortedA K) (tCons (tDc (iSeq K (tVar 1)) (gName 5) (tYes) (tVar 5) (tC (.bl true)) [5]) (tNil)))) (gName 5) (tSeq (tPar 6 7 (tCons (tCall sp_taken [] E0 (tCons (tVar 0) (tCons (tVar 1) (tCons (tVar 5) (tNil))))) (tCons (tCall sp_taken [] E0 (tCons (tVar 0) (tCons (tVar 2) (tCons (tVar 5) (tNil))))) (tNil))))
    (tIfS (tAnd (tB (tNotN (tVar 6))) (tB (tNotN (tVar 7)))) (tSeq (tAsg (tTup (tCons (tOp (rAddA K) (tVar 3) (tTup (tCons (tVar 5) (tNil)))) (tCons (tVar 6) (tCons (tVar 7) (tCons (tC (.bl true)) (tNil)))))) (gTup K 4 (gCons (gName 3) (gCons (gName 1) (gCons (gName 2) (gCons (gName 4) (gNil)))))))
    (tBreak)) (tNext))))))
    (tRet (tTup (tCons (tVar 3) (tCons (tVar 1) (tCons (tVar 2) (tNil)))))))
/-- told: slots 0 crew, 1 row -/
def t_told (K : PySem.W.Frag) (A : Ad) (sp_least_of : Sp) : TS :=
    tRet (tIf (tB (tIsN (tVar 1))) (tC .non) (tCB (rListA K) (tCons (tCall sp_least_of [] E0 (tCons (tVar 0) (tCons (tVar 1) (tNil)))) (tNil))))
/-- rest_of: slots 0 crew, 1 row, 2 second, 3 one, 4 two -/
def t_rest_of (K : PySem.W.Frag) (A : Ad) (sp_need_second : Sp) (sp_need_row : Sp) (sp_told : Sp) (sp_rest_by : Sp) : TS :=
    tSeq (tPar 3 4 (tCons (tCall sp_need_row [] E0 (tCons (tVar 0) (tCons (tVar 1) (tNil)))) (tCons (tCall sp_need_second [] E0 (tCons (tVar 0) (tCons (tVar 2) (tNil)))) (tNil))))
    (tRet (tCall sp_told [] E0 (tCons (tVar 0) (tCons (tCall sp_rest_by [] E0 (tCons (tVar 0) (tCons (tVar 3) (tCons (tVar 4) (tNil))))) (tNil)))))
/-- common_begin: slots 0 crew, 1 row, 2 second, 3 one, 4 two -/
def t_common_begin (K : PySem.W.Frag) (A : Ad) (sp_need_second : Sp) (sp_need_row : Sp) (sp_told : Sp) (sp_begun : Sp) : TS :=
    tSeq (tPar 3 4 (tCons (tCall sp_need_row [] E0 (tCons (tVar 0) (tCons (tVar 1) (tNil)))) (tCons (tCall sp_need_second [] E0 (tCons (tVar 0) (tCons (tVar 2) (tNil)))) (tNil))))
    (tRet (tCall sp_told [] E0 (tCons (tVar 0) (tCons (tOp (rIxA K) (tCall sp_begun [] E0 (tCons (tVar 0) (tCons (tVar 3) (tCons (tVar 4) (tNil))))) (tC (.int 0))) (tNil)))))
/-- continued: slots 0 crew, 1 row, 2 second, 3 one, 4 two, 5 found, 6 near, 7 far, 8 deed, 9 other -/
def t_continued (K : PySem.W.Frag) (A : Ad) (sp_need_second : Sp) (sp_need_row : Sp) (sp_begun : Sp) (sp_least_of : Sp) (sp_apart : Sp) (sp_told : Sp) : TS :=
    tSeq (tPar 3 4 (tCons (tCall sp_need_row [] E0 (tCons (tVar 0) (tCons (tVar 1) (tNil)))) (tCons (tCall sp_need_second [] E0 (tCons (tVar 0) (tCons (tVar 2) (tNil)))) (tNil))))
    (tSeq (tAsg (tCall sp_begun [] E0 (tCons (tVar 0) (tCons (tVar 3) (tCons (tVar 4) (tNil))))) (gTup K 3 (gCons (gName 5) (gCons (gName 6) (gCons (gName 7) (gNil))))))
    (tSeq (tPar 6 7 (tCons (tCall sp_least_of [] E0 (tCons (tVar 0) (tCons (tVar 6) (tNil)))) (tCons (tCall sp_least_of [] E0 (tCons (tVar 0) (tCons (tVar 7) (tNil)))) (tNil))))
    (tSeq (tFor (iSeq K (tVar 6)) (gName 8) (tFor (iSeq K (tVar 7)) (gName 9) (tIfS (tNot (tB (tCall sp_apart [] E0 (tCons (tVar 0) (tCons (tVar 8) (tCons (tVar 9) (tNil))))))) (tRet (tTup (tCons (tC (.str "barred")) (tCons (tVar 8) (tCons (tVar 9) (tNil)))))) (tNext))))
    (tRet (tTup (tCons (tC (.str "row")) (tCons (tCall sp_told [] E0 (tCons (tVar 0) (tCons (tOp (rAddA K) (tOp (rAddA K) (tVar 5) (tVar 6)) (tVar 7)) (tNil)))) (tNil))))))))
/-- logs_of: slots 0 crew, 1 row, 2 plain, 3 hand -/
def t_logs_of (K : PySem.W.Frag) (A : Ad) (sp_need_row : Sp) (sp_seen_by : Sp) : TS :=
    tSeq (tAsg (tCall sp_need_row [] E0 (tCons (tVar 0) (tCons (tVar 1) (tNil)))) (gName 2))
    (tRet (tDc (iSeq K (tFld K (tVar 0) "every")) (gName 3) (tYes) (tVar 3) (tCall sp_seen_by [] E0 (tCons (tVar 0) (tCons (tVar 2) (tCons (tVar 3) (tNil))))) [3]))
/-- is_log: slots 0 crew, 1 hand, 2 thing, 3 deed -/
def t_is_log (K : PySem.W.Frag) (A : Ad) : TS :=
    tSeq (tIfS (tOr (tNot (tB (tCB (rIsiA K) (tCons (tVar 2) (tCons (tTup (tCons (tC (.ty "list")) (tCons (tC (.ty "tuple")) (tNil)))) (tNil)))))) (tTest (tOp (rI0 fun i j => .bl (decide (j < i))) (tCB (rLenA K) (tCons (tVar 2) (tNil))) (tC (.int 200))))) (tRet (tC (.bl false))) (tNext))
    (tRet (tCB (rAll K) (tCons (tLc (iSeq K (tVar 2)) (gName 3) (tYes) (tAndV (tCB (rIsiA K) (tCons (tVar 3) (tCons (tC (.ty "str")) (tNil)))) (tAndV (tOp (rInA K false) (tVar 3) (tFld K (tVar 0) "touched")) (tOp (rInA K false) (tVar 1) (tOp (rIxA K) (tFld K (tVar 0) "touched") (tVar 3))))) [3]) (tNil))))
/-- are_logs: slots 0 crew, 1 logs, 2 hand -/
def t_are_logs (K : PySem.W.Frag) (A : Ad) (sp_is_log : Sp) : TS :=
    tSeq (tIfS (tOr (tNot (tB (tCB (rIsiA K) (tCons (tVar 1) (tCons (tC (.ty "dict")) (tNil)))))) (tTest (tOp (rNeA K) (tCB (rLenA K) (tCons (tVar 1) (tNil))) (tCB (rLenA K) (tCons (tFld K (tVar 0) "every") (tNil)))))) (tRet (tC (.bl false))) (tNext))
    (tRet (tCB (rAll K) (tCons (tLc (iSeq K (tFld K (tVar 0) "every")) (gName 2) (tYes) (tAndV (tOp (rInA K false) (tVar 2) (tVar 1)) (tCall sp_is_log [] E0 (tCons (tVar 0) (tCons (tVar 2) (tCons (tOp (rIxA K) (tVar 1) (tVar 2)) (tNil)))))) [2]) (tNil))))
/-- need_logs: slots 0 crew, 1 logs, 2 hand -/
def t_need_logs (K : PySem.W.Frag) (A : Ad) (sp_are_logs : Sp) (sp_need_crew : Sp) : TS :=
    tSeq (tIfS (tNot (tB (tCall sp_are_logs [] E0 (tCons (tCall sp_need_crew [] E0 (tCons (tVar 0) (tNil))) (tCons (tVar 1) (tNil)))))) (tNever) (tNext))
    (tRet (tDc (iSeq K (tFld K (tVar 0) "every")) (gName 2) (tYes) (tVar 2) (tCB (rTupA K) (tCons (tOp (rIxA K) (tVar 1) (tVar 2)) (tNil))) [2]))
/-- is_ready: slots 0 crew, 1 logs, 2 deed, 3 hand -/
def t_is_ready (K : PySem.W.Frag) (A : Ad) : TS :=
    tRet (tCB (rAll K) (tCons (tLc (iSeq K (tOp (rIxA K) (tFld K (tVar 0) "touched") (tVar 2))) (gName 3) (tYes) (tOp (rEqA K) (tSl (rSlLT K) (tOp (rIxA K) (tVar 1) (tVar 3)) (tNoPart) (tPart (tC (.int 1)))) (tLst (tCons (tVar 2) (tNil)))) [3]) (tNil)))
/-- done_by: slots 0 crew, 1 told, 2 logs, 3 found, 4 grown, 5 deed, 6 hand -/
def t_done_by (K : PySem.W.Frag) (A : Ad) (sp_is_ready : Sp) : TS :=
    tSeq (tPar3 2 3 4 (tCons (tLkE (tDc (iKeys (tVar 1)) (gName 6) (tYes) (tVar 6) (tCB (rListA K) (tCons (tOp (rIxA K) (tVar 1) (tVar 6)) (tNil))) [6])) (tCons (tLst (tNil)) (tCons (tC (.bl true)) (tNil)))))
    (tSeq (tWhile (tB (tVar 4)) (tSeq (tAsg (tC (.bl false)) (gName 4))
    (tLk (tFor (iKeys (tFld K (tVar 0) "touched")) (gName 5) (tWhile (tB (tCall sp_is_ready [] E0 (tCons (tVar 0) (tCons (tVar 2) (tCons (tVar 5) (tNil)))))) (tSeq (tFor (iSeq K (tOp (rIxA K) (tFld K (tVar 0) "touched") (tVar 5))) (gName 6) (tDrop (tBM K "list" (rPopAt) (tOp (rIxA K) (tVar 2) (tVar 6)) (tCons (tC (.int 0)) (tNil)))))
    (tSeq (tDrop (tBM K "list" (rAppend) (tVar 3) (tCons (tVar 5) (tNil))))
    (tAsg (tC (.bl true)) (gName 4)))))))))
    (tRet (tTup (tCons (tVar 3) (tCons (tVar 2) (tNil))))))
/-- joined: slots 0 crew, 1 logs, 2 found, 3 left -/
def t_joined (K : PySem.W.Frag) (A : Ad) (sp_done_by : Sp) (sp_need_logs : Sp) (sp_least_of : Sp) : TS :=
    tSeq (tAsg (tCall sp_done_by [] E0 (tCons (tVar 0) (tCons (tCall sp_need_logs [] E0 (tCons (tVar 0) (tCons (tVar 1) (tNil)))) (tNil)))) (gTup K 2 (gCons (gName 2) (gCons (gName 3) (gNil)))))
    (tSeq (tIfS (tNot (tB (tAnyVals K (tVar 3)))) (tRet (tTup (tCons (tC (.str "row")) (tCons (tCB (rListA K) (tCons (tCall sp_least_of [] E0 (tCons (tVar 0) (tCons (tVar 2) (tNil)))) (tNil))) (tNil))))) (tNext))
    (tNever))
/-- _law_start: slots 0 script -/
def t_law_start (K : PySem.W.Frag) (A : Ad) : TS :=
    tRet (tLst (tCons (tCB (rListA K) (tCons (tVar 0) (tNil))) (tCons (tC (.int 0)) (tCons (tC (.int 0)) (tCons (tC (.int 43)) (tNil))))))
/-- _law_below: slots 0 stream, 1 many, 2 cell, 3 digit, 4 mixed -/
def t_law_below (K : PySem.W.Frag) (A : Ad) : TS :=
    tSeq (tAsg (tOp (rAddA K) (tOp (rIxA K) (tVar 0) (tC (.int 2))) (tC (.int 1))) (gSub (tVar 0) (tC (.int 2)) rSetL))
    (tSeq (tWhile (tAnd (tTest (tOp (rEqA K) (tOp (rIxA K) (tVar 0) (tC (.int 1))) (tC (.int 0)))) (tTest (tOp (rNeA K) (tOp (rIxA K) (tVar 0) (tC (.int 0))) (tLst (tNil))))) (tSeq (tAsg (tBM K "list" (rPopAt) (tOp (rIxA K) (tVar 0) (tC (.int 0))) (tCons (tC (.int 0)) (tNil))) (gName 2))
    (tSeq (tAsg (tOp (rI (fun _ j => j ≠ 0) fun i j => .int (i.fmod j)) (tCB (rInt1) (tCons (tOp (rAddA K) (tOp (rAddA K) (tOp (rI CMul fun i j => .int (i * j)) (tOp (rIxA K) (tVar 0) (tC (.int 3))) (tC (.int 69031))) (tVar 2)) (tC (.int 13))) (tNil))) (tC (.int 2147483647))) (gSub (tVar 0) (tC (.int 3)) rSetL))
    (tAsg (tIf (tTest (tOp (rI0 fun i j => .bl (decide (j ≤ i))) (tVar 2) (tOp (rI CPow fun i j => .int (i ^ j.toNat)) (tC (.int 10)) (tC (.int 18))))) (tVar 2) (tC (.int 0))) (gSub (tVar 0) (tC (.int 1)) rSetL)))))
    (tSeq (tIfS (tTest (tOp (rI0 fun i j => .bl (decide (j < i))) (tOp (rIxA K) (tVar 0) (tC (.int 1))) (tC (.int 0)))) (tSeq (tAsg (tOp (rI (fun _ j => j ≠ 0) fun i j => .int (i.fmod j)) (tCB (rInt1) (tCons (tOp (rIxA K) (tVar 0) (tC (.int 1))) (tNil))) (tVar 1)) (gName 3))
    (tSeq (tAsg (tOp (rI CDivN fun i j => .int (i.fdiv j)) (tOp (rIxA K) (tVar 0) (tC (.int 1))) (tVar 1)) (gSub (tVar 0) (tC (.int 1)) rSetL))
    (tRet (tVar 3)))) (tNext))
    (tSeq (tAsg (tOp (rI (fun _ j => j ≠ 0) fun i j => .int (i.fmod j)) (tCB (rInt1) (tCons (tOp (rI CPow fun i j => .int (i ^ j.toNat)) (tOp (rAddA K) (tOp (rAddA K) (tOp (rIxA K) (tVar 0) (tC (.int 3))) (tOp (rI CMul fun i j => .int (i * j)) (tC (.int 9049)) (tOp (rIxA K) (tVar 0) (tC (.int 2))))) (tC (.int 130073))) (tC (.int 5))) (tNil))) (tC (.int 2147483629))) (gName 4))
    (tRet (tOp (rI (fun _ j => j ≠ 0) fun i j => .int (i.fmod j)) (tOp (rI (fun _ j => j ≠ 0) fun i j => .int (i.fmod j)) (tCB (rInt1) (tCons (tOp (rI CPow fun i j => .int (i ^ j.toNat)) (tOp (rAddA K) (tOp (rAddA K) (tOp (rI CMul fun i j => .int (i * j)) (tVar 4) (tC (.int 44089))) (tOp (rI CMul fun i j => .int (i * j)) (tC (.int 60077)) (tOp (rIxA K) (tVar 0) (tC (.int 2))))) (tC (.int 47))) (tC (.int 3))) (tNil))) (tC (.int 1000000007))) (tVar 1))))))
/-- _law_pick: slots 0 stream, 1 some -/
def t_law_pick (K : PySem.W.Frag) (A : Ad) (sp_law_below : Sp) : TS :=
    tRet (tOp (rIxA K) (tVar 1) (tCall sp_law_below [] E0 (tCons (tVar 0) (tCons (tCB (rLenA K) (tCons (tVar 1) (tNil))) (tNil)))))
/-- _law_mixed: slots 0 stream, 1 some, 2 left, 3 k -/
def t_law_mixed (K : PySem.W.Frag) (A : Ad) (sp_law_below : Sp) : TS :=
    tSeq (tAsg (tCB (rListA K) (tCons (tVar 1) (tNil))) (gName 2))
    (tRet (tLc (iRng1 (tCons (tCB (rLenA K) (tCons (tVar 2) (tNil))) (tNil))) (gName 3) (tYes) (tBM K "list" (rPopAt) (tVar 2) (tCons (tCall sp_law_below [] E0 (tCons (tVar 0) (tCons (tCB (rLenA K) (tCons (tVar 2) (tNil))) (tNil)))) (tNil))) [3]))
/-- _law_mcrew: slots 0 stream, 1 most, 2 deeds, 3 hands, 4 crew, 5 deed -/
def t_law_mcrew (K : PySem.W.Frag) (A : Ad) (sp_law_mixed : Sp) (sp_law_below : Sp) (sp_law_pick : Sp) : TS :=
    tSeq (tAsg (tSl (rSlLT K) (tCall sp_law_mixed [] E0 (tCons (tVar 0) (tCons (tLst (tCons (tC (.str "a")) (tCons (tC (.str "b")) (tCons (tC (.str "c")) (tCons (tC (.str "pay")) (tCons (tC (.str "log")) (tCons (tC (.str "x9")) (tCons (tC (.str "put")) (tCons (tC (.str "get")) (tNil)))))))))) (tNil)))) (tNoPart) (tPart (tOp (rAddA K) (tC (.int 2)) (tCall sp_law_below [] E0 (tCons (tVar 0) (tCons (tOp (rI0 fun i j => .int (i - j)) (tVar 1) (tC (.int 1))) (tNil))))))) (gName 2))
    (tSeq (tPar 3 4 (tCons (tSl (rSlLT K) (tCall sp_law_mixed [] E0 (tCons (tVar 0) (tCons (tLst (tCons (tC (.str "p")) (tCons (tC (.str "q")) (tCons (tC (.str "r")) (tCons (tC (.str "s")) (tCons (tC (.str "t")) (tNil))))))) (tNil)))) (tNoPart) (tPart (tOp (rAddA K) (tC (.int 1)) (tCall sp_law_below [] E0 (tCons (tVar 0) (tCons (tC (.int 4)) (tNil))))))) (tCons (tDNewK) (tNil))))
    (tSeq (tFor (iSeq K (tCB (rSortedA K) (tCons (tVar 2) (tNil)))) (gName 5) (sDPut (tVar 4) (tVar 5) (tCB (rTupA K) (tCons (tCB (rSortedA K) (tCons (tSl (rSlLT K) (tCall sp_law_mixed [] E0 (tCons (tVar 0) (tCons (tVar 3) (tNil)))) (tNoPart) (tPart (tCall sp_law_pick [] E0 (tCons (tVar 0) (tCons (tLst (tCons (tC (.int 1)) (tCons (tC (.int 1)) (tCons (tC (.int 1)) (tCons (tC (.int 2)) (tCons (tC (.int 2)) (tCons (tC (.int 3)) (tNil)))))))) (tNil)))))) (tNil))) (tNil)))))
    (tRet (tVar 4))))
/-- _law_mmade_crew: slots 0 crew, 1 deed -/
def t_law_mmade_crew (K : PySem.W.Frag) (A : Ad) (sp_Crew_init : Sp) : TS :=
    tRet (tMake A.CCrew sp_Crew_init [] E0 (tCons (tCB (rDictA K) (tCons (tLkE (tLc (iKeys (tVar 0)) (gName 1) (tYes) (tTup (tCons (tVar 1) (tCons (tCB (rListA K) (tCons (tOp (rIxA K) (tVar 0) (tVar 1)) (tNil))) (tNil)))) [1])) (tNil))) (tNil)))
/-- _law_mis_apart: slots 0 crew, 1 one, 2 two, 3 hand -/
def t_law_mis_apart (K : PySem.W.Frag) (A : Ad) : TS :=
    tRet (tOp (rEqA K) (tLc (iSeq K (tOp (rIxA K) (tVar 0) (tVar 1))) (gName 3) (tTest (tOp (rInA K false) (tVar 3) (tOp (rIxA K) (tVar 0) (tVar 2)))) (tVar 3) [3]) (tLst (tNil)))
/-- _law_mrow: slots 0 stream, 1 crew, 2 most, 3 k -/
def t_law_mrow (K : PySem.W.Frag) (A : Ad) (sp_law_below : Sp) (sp_law_pick : Sp) : TS :=
    tRet (tLc (iRng1 (tCons (tCall sp_law_below [] E0 (tCons (tVar 0) (tCons (tOp (rAddA K) (tVar 2) (tC (.int 1))) (tNil)))) (tNil))) (gName 3) (tYes) (tCall sp_law_pick [] E0 (tCons (tVar 0) (tCons (tCB (rSortedA K) (tCons (tVar 1) (tNil))) (tNil)))) [3])
/-- _law_mfronts: slots 0 crew, 1 row, 2 found, 3 at, 4 deed, 5 other -/
def t_law_mfronts (K : PySem.W.Frag) (A : Ad) (sp_law_mis_apart : Sp) : TS :=
    tSeq (tAsg (tLst (tNil)) (gName 2))
    (tSeq (tFor (iEnumA K (tCons (tVar 1) (tNil))) (gTup K 2 (gCons (gName 3) (gCons (gName 4) (gNil)))) (tIfS (tTest (tOp (rEqA K) (tLc (iSeq K (tSl (rSlLT K) (tVar 1) (tNoPart) (tPart (tVar 3)))) (gName 5) (tNot (tB (tCall sp_law_mis_apart [] E0 (tCons (tVar 0) (tCons (tVar 4) (tCons (tVar 5) (tNil))))))) (tVar 5) [5]) (tLst (tNil)))) (tDrop (tBM K "list" (rAppend) (tVar 2) (tCons (tVar 3) (tNil)))) (tNext)))
    (tRet (tVar 2)))
/-- _law_mleast: slots 0 crew, 1 row, 2 left, 3 found, 4 turn, 5 at -/
def t_law_mleast (K : PySem.W.Frag) (A : Ad) (sp_law_mfronts : Sp) : TS :=
    tSeq (tAsg (tTup (tCons (tCB (rListA K) (tCons (tVar 1) (tNil))) (tCons (tLst (tNil)) (tNil)))) (gTup K 2 (gCons (gName 2) (gCons (gName 3) (gNil)))))
    (tSeq (tFor (iRng1 (tCons (tCB (rLenA K) (tCons (tVar 1) (tNil))) (tNil))) (gName 4) (tSeq (tAsg (tOp (rIxA K) (tOp (rIxA K) (tCB (rSortedSI K) (tCons (tLc (iSeq K (tCall sp_law_mfronts [] E0 (tCons (tVar 0) (tCons (tVar 2) (tNil))))) (gName 5) (tYes) (tTup (tCons (tOp (rIxA K) (tVar 2) (tVar 5)) (tCons (tVar 5) (tNil)))) [5]) (tNil))) (tC (.int 0))) (tC (.int 1))) (gName 5))
    (tSeq (tDrop (tBM K "list" (rAppend) (tVar 3) (tCons (tOp (rIxA K) (tVar 2) (tVar 5)) (tNil))))
    (tAsg (tOp (rAddA K) (tSl (rSlLT K) (tVar 2) (tNoPart) (tPart (tVar 5))) (tSl (rSlLT K) (tVar 2) (tPart (tOp (rAddA K) (tVar 5) (tC (.int 1)))) (tNoPart))) (gName 2)))))
    (tRet (tVar 3)))
/-- _law_mshuffled: slots 0 stream, 1 crew, 2 row, 3 left, 4 found, 5 turn, 6 at -/
def t_law_mshuffled (K : PySem.W.Frag) (A : Ad) (sp_law_pick : Sp) (sp_law_mfronts : Sp) : TS :=
    tSeq (tPar 3 4 (tCons (tCB (rListA K) (tCons (tVar 2) (tNil))) (tCons (tLst (tNil)) (tNil))))
    (tSeq (tFor (iRng1 (tCons (tCB (rLenA K) (tCons (tVar 2) (tNil))) (tNil))) (gName 5) (tSeq (tAsg (tCall sp_law_pick [] E0 (tCons (tVar 0) (tCons (tCall sp_law_mfronts [] E0 (tCons (tVar 1) (tCons (tVar 3) (tNil)))) (tNil)))) (gName 6))
    (tSeq (tDrop (tBM K "list" (rAppend) (tVar 4) (tCons (tOp (rIxA K) (tVar 3) (tVar 6)) (tNil))))
    (tAsg (tOp (rAddA K) (tSl (rSlLT K) (tVar 3) (tNoPart) (tPart (tVar 6))) (tSl (rSlLT K) (tVar 3) (tPart (tOp (rAddA K) (tVar 6) (tC (.int 1)))) (tNoPart))) (gName 3)))))
    (tRet (tVar 4)))
/-- _law_mtaken: slots 0 crew, 1 row, 2 deed, 3 places, 4 at -/
def t_law_mtaken (K : PySem.W.Frag) (A : Ad) (sp_law_mfronts : Sp) : TS :=
    tSeq (tAsg (tLc (iSeq K (tCall sp_law_mfronts [] E0 (tCons (tVar 0) (tCons (tVar 1) (tNil))))) (gName 4) (tTest (tOp (rEqA K) (tOp (rIxA K) (tVar 1) (tVar 4)) (tVar 2))) (tVar 4) [4]) (gName 3))
    (tRet (tIf (tTest (tOp (rNeA K) (tVar 3) (tLst (tNil)))) (tOp (rAddA K) (tCB (rListA K) (tCons (tSl (rSlLT K) (tVar 1) (tNoPart) (tPart (tOp (rIxA K) (tVar 3) (tC (.int 0))))) (tNil))) (tCB (rListA K) (tCons (tSl (rSlLT K) (tVar 1) (tPart (tOp (rAddA K) (tOp (rIxA K) (tVar 3) (tC (.int 0))) (tC (.int 1)))) (tNoPart)) (tNil)))) (tC .non)))
/-- _law_mrest: slots 0 crew, 1 row, 2 second, 3 left, 4 deed -/
def t_law_mrest (K : PySem.W.Frag) (A : Ad) (sp_law_mtaken : Sp) : TS :=
    tSeq (tAsg (tCB (rListA K) (tCons (tVar 1) (tNil))) (gName 3))
    (tSeq (tFor (iSeq K (tVar 2)) (gName 4) (tAsg (tIf (tB (tIsN (tVar 3))) (tC .non) (tCall sp_law_mtaken [] E0 (tCons (tVar 0) (tCons (tVar 3) (tCons (tVar 4) (tNil)))))) (gName 3)))
    (tRet (tVar 3)))
/-- _law_mbeginnings: slots 0 crew, 1 row, 2 found, 3 known, 4 turn, 5 ahead, 6 left, 7 at, 8 one -/
def t_law_mbeginnings (K : PySem.W.Frag) (A : Ad) (sp_law_mfronts : Sp) (sp_law_mleast : Sp) : TS :=
    tSeq (tPar 2 3 (tCons (tLst (tCons (tTup (tCons (tTup (tNil)) (tCons (tCB (rTupA K) (tCons (tVar 1) (tNil))) (tNil)))) (tNil))) (tCons (tDispT (tTup (tNil)) (tC (.int 0))) (tNil))))
    (tSeq (tFor (iRng1 (tCons (tC (.int 9999)) (tNil))) (gName 4) (tSeq (tIfS (tTest (tOp (rI0 fun i j => .bl (decide (j ≤ i))) (tVar 4) (tCB (rLenA K) (tCons (tVar 2) (tNil))))) (tBreak) (tNext))
    (tSeq (tAsg (tOp (rIxA K) (tVar 2) (tVar 4)) (gTup K 2 (gCons (gName 5) (gCons (gName 6) (gNil)))))
    (tFor (iSeq K (tCall sp_law_mfronts [] E0 (tCons (tVar 0) (tCons (tVar 6) (tNil))))) (gName 7) (tSeq (tAsg (tCB (rTupA K) (tCons (tCall sp_law_mleast [] E0 (tCons (tVar 0) (tCons (tOp (rAddA K) (tVar 5) (tTup (tCons (tOp (rIxA K) (tVar 6) (tVar 7)) (tNil)))) (tNil)))) (tNil))) (gName 8))
    (tIfS (tTest (tOp (rInA K true) (tVar 8) (tVar 3))) (tSeq (sDPut (tVar 3) (tVar 8) (tC (.int 0)))
    (tDrop (tBM K "list" (rAppend) (tVar 2) (tCons (tTup (tCons (tVar 8) (tCons (tOp (rAddA K) (tSl (rSlLT K) (tVar 6) (tNoPart) (tPart (tVar 7))) (tSl (rSlLT K) (tVar 6) (tPart (tOp (rAddA K) (tVar 7) (tC (.int 1)))) (tNoPart))) (tNil)))) (tNil))))) (tNext)))))))
    (tRet (tLc (iSeq K (tVar 2)) (gTup K 2 (gCons (gName 8) (gCons (gName 6) (gNil)))) (tYes) (tCB (rListA K) (tCons (tVar 8) (tNil))) [8, 6])))
/-- _law_mtwo: slots 0 ones, 1 others, 2 found, 3 one, 4 other -/
def t_law_mtwo (K : PySem.W.Frag) (A : Ad) : TS :=
    tSeq (tAsg (tLst (tNil)) (gName 2))
    (tSeq (tFor (iSeq K (tVar 0)) (gName 3) (tAsg (tOp (rAddA K) (tVar 2) (tLc (iSeq K (tVar 1)) (gName 4) (tYes) (tTup (tCons (tVar 3) (tCons (tVar 4) (tNil)))) [4])) (gName 2)))
    (tRet (tVar 2)))
/-- _law_mhands: slots 0 crew, 1 found, 2 deed, 3 hand -/
def t_law_mhands (K : PySem.W.Frag) (A : Ad) : TS :=
    tSeq (tAsg (tLst (tNil)) (gName 1))
    (tSeq (tLk (tFor (iKeys (tVar 0)) (gName 2) (tAsg (tOp (rAddA K) (tVar 1) (tLc (iSeq K (tOp (rIxA K) (tVar 0) (tVar 2))) (gName 3) (tTest (tOp (rInA K true) (tVar 3) (tVar 1))) (tVar 3) [3])) (gName 1))))
    (tRet (tCB (rSortedA K) (tCons (tVar 1) (tNil)))))
/-- _law_same: slots 0 found, 1 due, 2 x, 3 y -/
def t_law_same (K : PySem.W.Frag) (A : Ad) (sp_law_same : Sp) : TS :=
    tSeq (tIfS (tB (tCB (rIsiA K) (tCons (tVar 1) (tCons (tTup (tCons (tC (.ty "list")) (tCons (tC (.ty "tuple")) (tNil)))) (tNil))))) (tSeq (tIfS (tOr (tTest (tOp (rNeA K) (tCB (rIsiA K) (tCons (tVar 0) (tCons (tC (.ty "list")) (tNil)))) (tCB (rIsiA K) (tCons (tVar 1) (tCons (tC (.ty "list")) (tNil)))))) (tTest (tOp (rNeA K) (tCB (rIsiA K) (tCons (tVar 0) (tCons (tC (.ty "tuple")) (tNil)))) (tCB (rIsiA K) (tCons (tVar 1) (tCons (tC (.ty "tuple")) (tNil))))))) (tRet (tC (.bl false))) (tNext))
    (tRet (tAndV (tOp (rEqA K) (tCB (rLenA K) (tCons (tVar 0) (tNil))) (tCB (rLenA K) (tCons (tVar 1) (tNil)))) (tCB (rAll K) (tCons (tLc (RZ.iZipA K (tCons (tVar 0) (tCons (tVar 1) (tNil)))) (gTup K 2 (gCons (gName 2) (gCons (gName 3) (gNil)))) (tYes) (tCall sp_law_same [] E0 (tCons (tVar 2) (tCons (tVar 3) (tNil)))) [2, 3]) (tNil)))))) (tNext))
    (tSeq (tIfS (tB (tCB (rIsiA K) (tCons (tVar 1) (tCons (tC (.ty "dict")) (tNil))))) (tRet (tAndV (tCB (rIsiA K) (tCons (tVar 0) (tCons (tC (.ty "dict")) (tNil)))) (tCall sp_law_same [] E0 (tCons (tListItemsR (tVar 0)) (tCons (tListItemsR (tVar 1)) (tNil)))))) (tNext))
    (tSeq (tIfS (tB (tCB (rIsiA K) (tCons (tVar 1) (tCons (tC (.ty "int")) (tNil))))) (tRet (tAndV (tCB (rIsiA K) (tCons (tVar 0) (tCons (tC (.ty "int")) (tNil)))) (tAndV (tOp (rEqA K) (tCB (rIsiA K) (tCons (tVar 0) (tCons (tC (.ty "bool")) (tNil)))) (tCB (rIsiA K) (tCons (tVar 1) (tCons (tC (.ty "bool")) (tNil))))) (tOp (rEqA K) (tVar 0) (tVar 1))))) (tNext))
    (tSeq (tIfS (tB (tIsN (tVar 1))) (tRet (tIsN (tVar 0))) (tNext))
    (tSeq (tIfS (tB (tCB (rIsiA K) (tCons (tVar 1) (tCons (tC (.ty "str")) (tNil))))) (tRet (tAndV (tCB (rIsiA K) (tCons (tVar 0) (tCons (tC (.ty "str")) (tNil)))) (tOp (rEqA K) (tVar 0) (tVar 1)))) (tNext))
    (tNever)))))
/-- law: slots 0 script, 1 stream, 2 turn, 3 crew, 4 team, 5 look, 6 row, 7 second, 8 lots, 9 hands, 10 dues, 11 begins, 12 rest, 13 left, 14 whole, 15 common, 16 some, 17 told_v, 18 longer, 19 one, 20 hand, 21 deed, 22 lot -/
def t_law (K : PySem.W.Frag) (A : Ad) (sp_law_start : Sp) (sp_law_mcrew : Sp) (sp_law_mmade_crew : Sp) (sp_law_mrow : Sp) (sp_law_below : Sp) (sp_law_pick : Sp) (sp_law_mbeginnings : Sp) (sp_law_mshuffled : Sp) (sp_logs_of : Sp) (sp_law_mhands : Sp) (sp_law_same : Sp) (sp_rest_of : Sp) (sp_law_mrest : Sp) (sp_joined : Sp) (sp_law_mleast : Sp) (sp_common_begin : Sp) (sp_law_mtwo : Sp) (sp_continued : Sp) : TS :=
    tSeq (tAsg (tCall sp_law_start [] E0 (tCons (tVar 0) (tNil))) (gName 1))
    (tSeq (tFor (iRng1 (tCons (tC (.int 6)) (tNil))) (gName 2) (tSeq (tAsg (tCall sp_law_mcrew [] E0 (tCons (tVar 1) (tCons (tC (.int 5)) (tNil)))) (gName 3))
    (tSeq (tAsg (tCall sp_law_mmade_crew [] E0 (tCons (tVar 3) (tNil))) (gName 4))
    (tFor (iRng1 (tCons (tC (.int 3)) (tNil))) (gName 5) (tSeq (tAsg (tCall sp_law_mrow [] E0 (tCons (tVar 1) (tCons (tVar 3) (tCons (tC (.int 7)) (tNil))))) (gName 6))
    (tSeq (tAsg (tIf (tTest (tOp (rEqA K) (tCall sp_law_below [] E0 (tCons (tVar 1) (tCons (tC (.int 2)) (tNil)))) (tC (.int 0)))) (tCB (rListA K) (tCons (tCall sp_law_pick [] E0 (tCons (tVar 1) (tCons (tCall sp_law_mbeginnings [] E0 (tCons (tVar 3) (tCons (tVar 6) (tNil)))) (tNil)))) (tNil))) (tCall sp_law_mrow [] E0 (tCons (tVar 1) (tCons (tVar 3) (tCons (tC (.int 3)) (tNil)))))) (gName 7))
    (tSeq (tAsg (tCall sp_law_mshuffled [] E0 (tCons (tVar 1) (tCons (tVar 3) (tCons (tVar 7) (tNil))))) (gName 7))
    (tSeq (tAsg (tLc (iSeq K (tTup (tCons (tVar 6) (tCons (tVar 7) (tNil))))) (gName 19) (tYes) (tCall sp_logs_of [] E0 (tCons (tVar 4) (tCons (tCB (rListA K) (tCons (tVar 19) (tNil))) (tNil)))) [19]) (gName 8))
    (tSeq (tAsg (tCall sp_law_mhands [] E0 (tCons (tVar 3) (tNil))) (gName 9))
    (tSeq (tAsg (tLc (iSeq K (tTup (tCons (tVar 6) (tCons (tVar 7) (tNil))))) (gName 19) (tYes) (tCB (rDictA K) (tCons (tLc (iSeq K (tVar 9)) (gName 20) (tYes) (tTup (tCons (tVar 20) (tCons (tLc (iSeq K (tVar 19)) (gName 21) (tTest (tOp (rInA K false) (tVar 20) (tOp (rIxA K) (tVar 3) (tVar 21)))) (tVar 21) [21]) (tNil)))) [20]) (tNil))) [19]) (gName 10))
    (tSeq (tIfS (tNot (tB (tCall sp_law_same [] E0 (tCons (tVar 8) (tCons (tVar 10) (tNil)))))) (tRet (tC (.bl false))) (tNext))
    (tSeq (tAsg (tOp (rEqA K) (tLc (iSeq K (tVar 9)) (gName 20) (tTest (tOp (rNeA K) (tSl (rSlLT K) (tOp (rIxA K) (tOp (rIxA K) (tVar 10) (tC (.int 0))) (tVar 20)) (tNoPart) (tPart (tCB (rLenA K) (tCons (tOp (rIxA K) (tOp (rIxA K) (tVar 10) (tC (.int 1))) (tVar 20)) (tNil))))) (tOp (rIxA K) (tOp (rIxA K) (tVar 10) (tC (.int 1))) (tVar 20)))) (tVar 20) [20]) (tLst (tNil))) (gName 11))
    (tSeq (tAsg (tCall sp_rest_of [] E0 (tCons (tVar 4) (tCons (tCB (rListA K) (tCons (tVar 6) (tNil))) (tCons (tCB (rListA K) (tCons (tVar 7) (tNil))) (tNil))))) (gName 12))
    (tSeq (tIfS (tOr (tTest (tOp (rNeA K) (tNotN (tVar 12)) (tVar 11))) (tTest (tOp (rNeA K) (tVar 11) (tNotN (tCall sp_law_mrest [] E0 (tCons (tVar 3) (tCons (tVar 6) (tCons (tVar 7) (tNil))))))))) (tRet (tC (.bl false))) (tNext))
    (tSeq (tIfS (tB (tVar 11)) (tSeq (tAsg (tCB (rDictA K) (tCons (tLc (iSeq K (tVar 9)) (gName 20) (tYes) (tTup (tCons (tVar 20) (tCons (tSl (rSlLT K) (tOp (rIxA K) (tOp (rIxA K) (tVar 10) (tC (.int 0))) (tVar 20)) (tPart (tCB (rLenA K) (tCons (tOp (rIxA K) (tOp (rIxA K) (tVar 10) (tC (.int 1))) (tVar 20)) (tNil)))) (tNoPart)) (tNil)))) [20]) (tNil))) (gName 13))
    (tIfS (tNot (tB (tCall sp_law_same [] E0 (tCons (tCall sp_joined [] E0 (tCons (tVar 4) (tCons (tVar 13) (tNil)))) (tCons (tTup (tCons (tC (.str "row")) (tCons (tVar 12) (tNil)))) (tNil)))))) (tRet (tC (.bl false))) (tNext))) (tNext))
    (tSeq (tAsg (tCB (rDictA K) (tCons (tLc (iSeq K (tVar 9)) (gName 20) (tYes) (tTup (tCons (tVar 20) (tCons (tOp (rAddA K) (tOp (rIxA K) (tOp (rIxA K) (tVar 10) (tC (.int 1))) (tVar 20)) (tOp (rIxA K) (tOp (rIxA K) (tVar 10) (tC (.int 0))) (tVar 20))) (tNil)))) [20]) (tNil))) (gName 14))
    (tSeq (tIfS (tNot (tB (tCall sp_law_same [] E0 (tCons (tCall sp_joined [] E0 (tCons (tVar 4) (tCons (tVar 14) (tNil)))) (tCons (tTup (tCons (tC (.str "row")) (tCons (tCall sp_law_mleast [] E0 (tCons (tVar 3) (tCons (tOp (rAddA K) (tVar 7) (tVar 6)) (tNil)))) (tNil)))) (tNil)))))) (tRet (tC (.bl false))) (tNext))
    (tSeq (tAsg (tCall sp_common_begin [] E0 (tCons (tVar 4) (tCons (tCB (rListA K) (tCons (tVar 6) (tNil))) (tCons (tCB (rListA K) (tCons (tVar 7) (tNil))) (tNil))))) (gName 15))
    (tSeq (tAsg (tCall sp_logs_of [] E0 (tCons (tVar 4) (tCons (tCB (rListA K) (tCons (tVar 15) (tNil))) (tNil)))) (gName 16))
    (tSeq (tIfS (tTest (tOp (rNeA K) (tLc (iSeq K (tCall sp_law_mtwo [] E0 (tCons (tVar 9) (tCons (tVar 10) (tNil))))) (gTup K 2 (gCons (gName 20) (gCons (gName 22) (gNil)))) (tTest (tOp (rNeA K) (tSl (rSlLT K) (tOp (rIxA K) (tVar 22) (tVar 20)) (tNoPart) (tPart (tCB (rLenA K) (tCons (tOp (rIxA K) (tVar 16) (tVar 20)) (tNil))))) (tOp (rIxA K) (tVar 16) (tVar 20)))) (tVar 20) [20, 22]) (tLst (tNil)))) (tRet (tC (.bl false))) (tNext))
    (tSeq (tAsg (tCall sp_continued [] E0 (tCons (tVar 4) (tCons (tCB (rListA K) (tCons (tVar 6) (tNil))) (tCons (tCB (rListA K) (tCons (tVar 7) (tNil))) (tNil))))) (gName 17))
    (tIfS (tTest (tOp (rEqA K) (tOp (rIxA K) (tVar 17) (tC (.int 0))) (tC (.str "row")))) (tSeq (tAsg (tCall sp_logs_of [] E0 (tCons (tVar 4) (tCons (tCB (rListA K) (tCons (tOp (rIxA K) (tVar 17) (tC (.int 1))) (tNil))) (tNil)))) (gName 18))
    (tIfS (tTest (tOp (rNeA K) (tLc (iSeq K (tCall sp_law_mtwo [] E0 (tCons (tVar 9) (tCons (tVar 10) (tNil))))) (gTup K 2 (gCons (gName 20) (gCons (gName 22) (gNil)))) (tTest (tOp (rNeA K) (tSl (rSlLT K) (tOp (rIxA K) (tVar 18) (tVar 20)) (tNoPart) (tPart (tCB (rLenA K) (tCons (tOp (rIxA K) (tVar 22) (tVar 20)) (tNil))))) (tOp (rIxA K) (tVar 22) (tVar 20)))) (tVar 20) [20, 22]) (tLst (tNil)))) (tRet (tC (.bl false))) (tNext))) (tNext)))))))))))))))))))))))
    (tRet (tC (.bl true))))
end K61

set_option Elab.async false
set_option linter.all false
set_option maxRecDepth 100000
namespace K61
open PySem PySem.Spec L2 DL
/-! ### what the defs promise -/
abbrev endP (post : List D → D → Prop) (ds : List D) : Post := { nx := fun _ => post ds .non, rt := fun z ρ => ∃ x ρ', fzT z ρ = some (x, ρ') ∧ post ds x }
theorem ifT {c : Bool} {A B : Prop} (h : c = true) (a : A) : if c = true then A else B := by rw [if_pos h]; exact a
theorem ifF {c : Bool} {A B : Prop} (h : c = false) (b : B) : if c = true then A else B := by rw [h, if_neg Bool.false_ne_true]; exact b
def sD (l : List Str) : List D := l.map D.str
def seqD (b : Bool) (l : List Str) : D := if b = true then .lst (sD l) else .tup (sD l)
def crD (cr : Crw) : D := .dK (cr.map fun p => (Sum.inr p.1, .tup (sD p.2)))
def crL (cr : Crw) : D := .dK (cr.map fun p => (Sum.inr p.1, .lst (sD p.2)))
def teamF (cr : Crw) : List (Str × D) := [("touched", crD cr), ("every", .tup (sD (every cr)))]
def teamD (A : Ad) (cr : Crw) : D := .ins A.CCrew (teamF cr)
def Sub (cr : Crw) (l : List Str) : Prop := ∀ x ∈ l, x ∈ keysOf cr
def logsD (cr : Crw) (f : Str → List Str) : D := .dK ((every cr).map fun h => (Sum.inr h, .lst (sD (f h))))
def logsT (cr : Crw) (f : Str → List Str) : D := .dK ((every cr).map fun h => (Sum.inr h, .tup (sD (f h))))
def optT : Option (List Str) → D
  | some l => .tup (sD l)
  | none => .non
def optL : Option (List Str) → D
  | some l => .lst (sD l)
  | none => .non
structure CrewOk (K : PySem.W.Frag) (A : Ad) : Prop where
  cls : Cls K A.CCrew
  nT : NoAttr K A.CCrew "touched"
  nE : NoAttr K A.CCrew "every"
  ins : C8.InsC K A.CCrew
def postTrue : List D → D → Prop := fun _ d => d = .bl true
def NM : List Str := DN ++ HN
def preName : List D → Prop := fun ds => ∃ s, ds = [.str s] ∧ s ∈ NM
section
variable (K : PySem.W.Frag) (A : Ad)
abbrev sp_is_word : Sp := spP K preName postTrue
abbrev sp_is_name : Sp := spP K preName postTrue
def preHands : List D → Prop := fun ds => ∃ l : List Str, ds = [.lst (sD l)] ∧ l ≠ [] ∧ l.Nodup ∧ ∀ h ∈ l, h ∈ HN
abbrev sp_are_hands : Sp := spP K preHands postTrue
def preDeeds : List D → Prop := fun ds => ∃ cr, Good cr ∧ ds = [crL cr]
abbrev sp_are_deeds : Sp := spP K preDeeds postTrue
def preInit : Addr × List (Str × D) → List D → Prop := fun st ds => st.2 = [] ∧ ∃ cr, Good cr ∧ ds = [crL cr]
def postInit : Addr × List (Str × D) → List D → Addr × List (Str × D) → D → Prop := fun st ds st' d => d = .non ∧ st'.1 = st.1 ∧ ∀ cr, Good cr → ds = [crL cr] → st'.2 = teamF cr
abbrev sp_Crew_init : Sp := spS K (fun s : Addr × List (Str × D) => ownI A.CCrew s.1 s.2) preInit postInit
def preApart : List D → Prop := fun ds => ∃ cr a b, Good cr ∧ ds = [teamD A cr, .str a, .str b] ∧ a ∈ keysOf cr ∧ b ∈ keysOf cr
def postApart : List D → D → Prop := fun ds d => ∀ cr a b, Good cr → ds = [teamD A cr, .str a, .str b] → d = .bl (!decide (a = b) && dis cr a b)
abbrev sp_apart : Sp := spP K (preApart A) (postApart A)
def preTeam : List D → Prop := fun ds => ∃ cr, Good cr ∧ ds = [teamD A cr]
abbrev sp_need_crew : Sp := spP K (preTeam A) (fun ds d => ds = [d])
def preRow : List D → Prop := fun ds => ∃ cr b l, Good cr ∧ ds = [teamD A cr, seqD b l] ∧ Sub cr l ∧ l.length ≤ 200
abbrev sp_is_row : Sp := spP K (preRow A) postTrue
def postRow : List D → D → Prop := fun ds d => ∀ t b l, ds = [t, seqD b l] → d = .tup (sD l)
abbrev sp_need_row : Sp := spP K (preRow A) postRow
abbrev sp_need_second : Sp := spP K (preRow A) postRow
def preSeen : List D → Prop := fun ds => ∃ cr b l h, Good cr ∧ ds = [teamD A cr, seqD b l, .str h] ∧ Sub cr l ∧ l.length ≤ 200
def postSeen : List D → D → Prop := fun ds d => ∀ cr b l h, Good cr → ds = [teamD A cr, seqD b l, .str h] → d = .lst (sD (saw cr l h))
abbrev sp_seen_by : Sp := spP K (preSeen A) (postSeen A)
end
end K61

set_option Elab.async false
set_option linter.all false
set_option maxRecDepth 100000
namespace K61
open PySem PySem.Spec L2 DL
local macro_rules | `(tactic| walk_at "s") => `(tactic| first
  | with_reducible refine we_op ?_
  | with_reducible refine we_c ?_
  | with_reducible refine wa_nil ?_
  | with_reducible refine wa_cons ?_
  | with_reducible refine we_cb ?_
  | with_reducible refine we_un ?_
  | with_reducible refine we_if ?_
  | with_reducible refine wt_and ?_
  | with_reducible refine wt_or ?_
  | with_reducible refine wt_not ?_
  | with_reducible refine wt_test ?_
  | with_reducible refine wt_B ?_
  | with_reducible refine wt_yes ?_
  | with_reducible refine we_andV ?_
  | with_reducible refine we_orV ?_
  | with_reducible refine we_notV ?_
  | with_reducible refine we_isN ?_
  | with_reducible refine we_notN ?_
  | with_reducible refine we_sl ?_
  | with_reducible refine wo_no ?_
  | with_reducible refine wo_some ?_
  | with_reducible refine we_lst ?_
  | with_reducible refine we_tup ?_
  | with_reducible refine we_call ?_
  | with_reducible refine ws_seq ?_
  | with_reducible refine ws_ret ?_
  | with_reducible refine ws_drop ?_
  | with_reducible refine ws_if ?_
  | with_reducible refine ws_next ?_
  | with_reducible refine ws_break ?_
  | with_reducible refine ws_set ?_
  | with_reducible refine ws_multi ?_
  | with_reducible refine ws_asg ?_
  | with_reducible refine we_lc ?_
  | with_reducible refine we_dc ?_
  | with_reducible refine ws_for ?_
  | with_reducible refine wi_seq ?_
  | with_reducible refine wi_enum ?_
  | with_reducible refine wi_zip ?_
  | with_reducible refine wi_range1 ?_
  | with_reducible refine wi_str ?_
  | with_reducible refine we_dnewK ?_
  | ((with_reducible show WE _ (tVar _) _ _); first | refine we_var rfl ?_ | refine we_varO rfl ?_)
  | ((with_reducible show WE _ (tFld _ _ _) _ _); first | refine we_touched (by assumption) ?_ | refine we_every (by assumption) ?_)
  | ((with_reducible show W2 _ (rIxA _) _ _ _ _); first | refine w2_ixCr rfl rfl (by assumption) (by assumption) ?_ | refine w2_ixLog rfl rfl (by assumption) (by assumption) ?_ | refine w2_ixLogT rfl rfl (by assumption) (by assumption) ?_)
  | ((with_reducible show W2 _ (rInA _ _) _ _ _ _); first | refine w2_inCr rfl rfl ?_ | refine w2_inS rfl (.inl rfl) ?_ | refine w2_inS rfl (.inr rfl) ?_ | refine w2_ninS rfl (.inl rfl) ?_ | refine w2_ninS rfl (.inr rfl) ?_)
  | ((with_reducible show W2 _ (rI0 _) _ _ _ _); refine w2_I0 rfl rfl ?_)
  | ((with_reducible show W2 _ (rEqA _) _ _ _ _); first | refine w2_eqStr rfl rfl ?_ | refine w2_eqInt rfl rfl ?_ | refine w2_eqBl rfl rfl ?_)
  | ((with_reducible show W2 _ (rNeA _) _ _ _ _); first | refine w2_neStr rfl rfl ?_ | refine w2_neInt rfl rfl ?_ | refine w2_neBl rfl rfl ?_)
  | ((with_reducible show W2 _ (rAddA _) _ _ _ _); refine w2_addI rfl rfl ?_)
  | ((with_reducible show WR _ (rLenA _) _ _ _); first | refine wr_len (.inl rfl) ?_ | refine wr_len (.inr rfl) ?_ | refine wr_lenD rfl ?_)
  | ((with_reducible show WR _ (rListA _) _ _ _); first | refine wr_list (.inl rfl) ?_ | refine wr_list (.inr rfl) ?_ | refine wr_listK rfl ?_ | refine wr_listD rfl ?_)
  | ((with_reducible show WR _ (rTupA _) _ _ _); first | refine wr_tup (.inl rfl) ?_ | refine wr_tup (.inr rfl) ?_)
  | ((with_reducible show WR _ (rIsiA _) _ _ _); first | refine wr_isi rfl rfl (by decide) ?_ | refine wr_isiT ["list", "tuple"] rfl rfl (by decide) rfl ?_)
  | ((with_reducible show W3 _ (rSlLT _) _ _ _ _ _); first | refine w3_L rfl ?_ | refine w3_T rfl ?_)
  | with_reducible refine wg_name (by first | exact True.intro | decide) ?_
  | ((with_reducible show WGs _ _ gNil _ _ _); refine wgs_nil ?_)
  | ((with_reducible show WGs _ _ (gCons _ _) _ _ _); refine wgs_cons rfl ?_)
  | ((with_reducible show WG _ _ (gTup _ _ _) _ _ _); refine wg_tup rfl rfl ?_)
  | refine ⟨_, (rfl : asg _ _ _ = _), ?_⟩
  | refine ⟨_, _, (rfl : fzA _ _ _ = _), le_lineB rfl, ?_⟩
  | refine ⟨_, (rfl : SV.d _ = _), ?_⟩
  | refine ⟨_, (rfl : vw _ _ = _), ?_⟩
  | refine ⟨(rfl : nraw _ = true), ?_⟩
  | refine ⟨(rfl : List.length _ = _), le_lineB rfl, rfl, ?_⟩)
local macro_rules | `(tactic| walk_at "S") => `(tactic| repeat walk_at "s")
/-- what is walked -/
local macro_rules | `(tactic| walk_at "w") => `(tactic| first | refine ⟨_, _, .inl rfl, ?_⟩ | refine ⟨_, _, .inr rfl, ?_⟩ | refine ⟨_, _, _, rfl, .inl rfl, ?_⟩ | refine ⟨_, _, _, rfl, .inr rfl, ?_⟩)
theorem nm_ok : ∀ s ∈ NM, PyData.strOk s = true := by decide +kernel
theorem dn_nm {s : Str} (h : s ∈ DN) : s ∈ NM := List.mem_append_left _ h
theorem hn_nm {s : Str} (h : s ∈ HN) : s ∈ NM := List.mem_append_right _ h
theorem Good.key_nm {cr : Crw} (G : Good cr) {d : Str} (h : d ∈ keysOf cr) : d ∈ NM := dn_nm (G.dn d h)
def wordOk (s : Str) : Bool := decide (s ≠ "") && (match s.cps.toList with
  | c :: _ => !(Builtin.Str.occurrences "abcdefghijklmnopqrstuvwxyz" ⟨#[c]⟩ 0 26 1).isEmpty
  | [] => false) && s.cps.toList.all fun c => !(Builtin.Str.occurrences ("abcdefghijklmnopqrstuvwxyz" ++ "0123456789") ⟨#[c]⟩ 0 36 1).isEmpty
theorem nm_words : ∀ s ∈ NM, wordOk s = true ∧ s.length ≤ 8 := by decide +kernel
section
variable {K : PySem.W.Frag} {A : Ad}
theorem w_is_word {ds : List D} (hp : preName ds) : WS K (t_is_word K A) (slots ["thing", "sign"] (ds.map SV.d)) (endP postTrue ds) := by
  obtain ⟨s, rfl, hs⟩ := hp
  obtain ⟨h1, h2⟩ := nm_words s hs
  unfold wordOk at h1
  rw [Bool.and_eq_true, Bool.and_eq_true] at h1
  obtain ⟨⟨h3, h4⟩, h5⟩ := h1
  have h3 := of_decide_eq_true h3
  have hz : s.length ≤ sizeLine := le_line (by omega)
  show WS K _ [.d (.str s), .any] _
  unfold t_is_word
  walk_at "S"
  refine ifF rfl ?_
  walk_at "S"
  rw [decide_eq_false h3]
  refine ifF rfl ?_
  walk_at "S"
  cases e : s.cps.toList with
  | nil => rw [e] at h4; cases h4
  | cons c r =>
    rw [e] at h4
    refine w2_ixS (c := c) rfl rfl hz (by rw [e]; exact atI_nat (j := 0) rfl) ?_
    walk_at "S"
    refine w2_inStr rfl rfl ?_
    walk_at "S"
    rw [if_pos rfl]
    have h4 : (!(Builtin.Str.occurrences "abcdefghijklmnopqrstuvwxyz" ⟨#[c]⟩ 0 26 1).isEmpty) = true := h4
    show if (!(!(Builtin.Str.occurrences "abcdefghijklmnopqrstuvwxyz" ⟨#[c]⟩ 0 26 1).isEmpty)) = true then _ else _
    rw [h4]
    refine ifF rfl ?_
    walk_at "S"
    refine lcP s.cps.toList (fun c => .str ⟨#[c]⟩) (fun _ => false) (fun c => .str ⟨#[c]⟩) rfl (by rw [Array.length_toList]; exact hz) (fun c hc => ?_) ?_
    · walk_at "S"
      refine w2_addS rfl rfl (by decide) ?_
      refine w2_inStr rfl rfl ?_
      walk_at "S"
      refine ⟨?_, ?_, ?_⟩
      · have := List.all_eq_true.mp h5 c hc
        rw [if_pos rfl]
        show (!(!(Builtin.Str.occurrences ("abcdefghijklmnopqrstuvwxyz" ++ "0123456789") ⟨#[c]⟩ 0 36 1).isEmpty)) = false
        rw [this]; rfl
      · intro z; cases z
      · intro _; rfl
    · rw [show s.cps.toList.filter (fun _ => false) = [] by simp]
      walk_at "S"
      refine w2_eqLS (l := []) (m := []) rfl ?_ (fun _ h => nomatch h) (fun _ h => nomatch h) ⟨_, _, rfl, rfl⟩
      rfl
theorem w_is_name {ds : List D} (hp : preName ds) : WS K (t_is_name K A (sp_is_word K)) (slots ["thing"] (ds.map SV.d)) (endP postTrue ds) := by
  obtain ⟨s, rfl, hs⟩ := hp
  have hl : s.length ≤ 8 := (nm_words s hs).2
  show WS K _ [.d (.str s)] _
  unfold t_is_name
  walk_at "S"
  refine ⟨_, _, rfl, ⟨s, rfl, hs⟩, fun d hd => ⟨true, congrArg SV.d hd, ifT rfl ?_⟩⟩
  walk_at "S"
  refine wr_lenS rfl (le_line (by omega)) ?_
  walk_at "S"
  refine ⟨_, _, rfl, ?_⟩
  show D.bl _ = D.bl true
  rw [decide_eq_true]
  omega
theorem w_need_crew (Q : CrewOk K A) {ds : List D} (hp : preTeam A ds) : WS K (t_need_crew K A) (slots ["crew"] (ds.map SV.d)) (endP (fun ds d => ds = [d]) ds) := by
  obtain ⟨cr, Gd, rfl⟩ := hp
  show WS K _ [.d (teamD A cr)] _
  unfold t_need_crew
  walk_at "S"
  refine wr_isC Q.ins rfl ?_
  walk_at "S"
  refine ifF rfl ?_
  walk_at "S"
  exact ⟨_, _, rfl, rfl⟩
end
end K61

set_option Elab.async false
set_option linter.all false
set_option maxRecDepth 100000
namespace K61
open PySem PySem.Spec L2 DL
local macro_rules | `(tactic| walk_at "s") => `(tactic| first
  | with_reducible refine we_op ?_
  | with_reducible refine we_c ?_
  | with_reducible refine wa_nil ?_
  | with_reducible refine wa_cons ?_
  | with_reducible refine we_cb ?_
  | with_reducible refine we_un ?_
  | with_reducible refine we_if ?_
  | with_reducible refine wt_and ?_
  | with_reducible refine wt_or ?_
  | with_reducible refine wt_not ?_
  | with_reducible refine wt_test ?_
  | with_reducible refine wt_B ?_
  | with_reducible refine wt_yes ?_
  | with_reducible refine we_andV ?_
  | with_reducible refine we_orV ?_
  | with_reducible refine we_notV ?_
  | with_reducible refine we_isN ?_
  | with_reducible refine we_notN ?_
  | with_reducible refine we_sl ?_
  | with_reducible refine wo_no ?_
  | with_reducible refine wo_some ?_
  | with_reducible refine we_lst ?_
  | with_reducible refine we_tup ?_
  | with_reducible refine we_call ?_
  | with_reducible refine ws_seq ?_
  | with_reducible refine ws_ret ?_
  | with_reducible refine ws_drop ?_
  | with_reducible refine ws_if ?_
  | with_reducible refine ws_next ?_
  | with_reducible refine ws_break ?_
  | with_reducible refine ws_set ?_
  | with_reducible refine ws_multi ?_
  | with_reducible refine ws_asg ?_
  | with_reducible refine we_lc ?_
  | with_reducible refine we_dc ?_
  | with_reducible refine ws_for ?_
  | with_reducible refine wi_seq ?_
  | with_reducible refine wi_enum ?_
  | with_reducible refine wi_zip ?_
  | with_reducible refine wi_range1 ?_
  | with_reducible refine wi_str ?_
  | with_reducible refine we_dnewK ?_
  | ((with_reducible show WE _ (tVar _) _ _); first | refine we_var rfl ?_ | refine we_varO rfl ?_)
  | ((with_reducible show WE _ (tFld _ _ _) _ _); first | refine we_touched (by assumption) ?_ | refine we_every (by assumption) ?_)
  | ((with_reducible show W2 _ (rIxA _) _ _ _ _); first | refine w2_ixCr rfl rfl (by assumption) (by assumption) ?_ | refine w2_ixLog rfl rfl (by assumption) (by assumption) ?_ | refine w2_ixLogT rfl rfl (by assumption) (by assumption) ?_)
  | ((with_reducible show W2 _ (rInA _ _) _ _ _ _); first | refine w2_inCr rfl rfl ?_ | refine w2_inS rfl (.inl rfl) ?_ | refine w2_inS rfl (.inr rfl) ?_ | refine w2_ninS rfl (.inl rfl) ?_ | refine w2_ninS rfl (.inr rfl) ?_)
  | ((with_reducible show W2 _ (rI0 _) _ _ _ _); refine w2_I0 rfl rfl ?_)
  | ((with_reducible show W2 _ (rEqA _) _ _ _ _); first | refine w2_eqStr rfl rfl ?_ | refine w2_eqInt rfl rfl ?_ | refine w2_eqBl rfl rfl ?_)
  | ((with_reducible show W2 _ (rNeA _) _ _ _ _); first | refine w2_neStr rfl rfl ?_ | refine w2_neInt rfl rfl ?_ | refine w2_neBl rfl rfl ?_)
  | ((with_reducible show W2 _ (rAddA _) _ _ _ _); refine w2_addI rfl rfl ?_)
  | ((with_reducible show WR _ (rLenA _) _ _ _); first | refine wr_len (.inl rfl) ?_ | refine wr_len (.inr rfl) ?_ | refine wr_lenD rfl ?_)
  | ((with_reducible show WR _ (rListA _) _ _ _); first | refine wr_list (.inl rfl) ?_ | refine wr_list (.inr rfl) ?_ | refine wr_listK rfl ?_ | refine wr_listD rfl ?_)
  | ((with_reducible show WR _ (rTupA _) _ _ _); first | refine wr_tup (.inl rfl) ?_ | refine wr_tup (.inr rfl) ?_)
  | ((with_reducible show WR _ (rIsiA _) _ _ _); first | refine wr_isi rfl rfl (by decide) ?_ | refine wr_isiT ["list", "tuple"] rfl rfl (by decide) rfl ?_)
  | ((with_reducible show W3 _ (rSlLT _) _ _ _ _ _); first | refine w3_L rfl ?_ | refine w3_T rfl ?_)
  | with_reducible refine wg_name (by first | exact True.intro | decide) ?_
  | ((with_reducible show WGs _ _ gNil _ _ _); refine wgs_nil ?_)
  | ((with_reducible show WGs _ _ (gCons _ _) _ _ _); refine wgs_cons rfl ?_)
  | ((with_reducible show WG _ _ (gTup _ _ _) _ _ _); refine wg_tup rfl rfl ?_)
  | refine ⟨_, (rfl : asg _ _ _ = _), ?_⟩
  | refine ⟨_, _, (rfl : fzA _ _ _ = _), le_lineB rfl, ?_⟩
  | refine ⟨_, (rfl : SV.d _ = _), ?_⟩
  | refine ⟨_, (rfl : vw _ _ = _), ?_⟩
  | refine ⟨(rfl : nraw _ = true), ?_⟩
  | refine ⟨(rfl : List.length _ = _), le_lineB rfl, rfl, ?_⟩)
local macro_rules | `(tactic| walk_at "S") => `(tactic| repeat walk_at "s")
/-- what is walked -/
local macro_rules | `(tactic| walk_at "w") => `(tactic| first | refine ⟨_, _, .inl rfl, ?_⟩ | refine ⟨_, _, .inr rfl, ?_⟩ | refine ⟨_, _, _, rfl, .inl rfl, ?_⟩ | refine ⟨_, _, _, rfl, .inr rfl, ?_⟩)
/-! helpers -/
theorem look_map {α : Type} {kf : α → Str} {f : α → D} : ∀ {l : List α} {a : α}, (l.map kf).Nodup → a ∈ l → lookD (l.map fun a => ((Sum.inr (kf a) : Key), f a)) (Sum.inr (kf a)) = some (f a)
  | [], _, _, h => by simp at h
  | b :: l, a, nd, h => by
    obtain ⟨n1, n2⟩ := List.nodup_cons.mp (show (kf b :: l.map kf).Nodup from nd)
    rcases List.mem_cons.mp h with e | h
    · subst e; simp [lookD]
    · have ne : ¬ kf b = kf a := fun z => n1 (by rw [z]; exact List.mem_map.mpr ⟨a, h, rfl⟩)
      have := look_map n2 h (f := f)
      simpa [lookD, List.find?_cons, ne] using this
theorem look_none {α : Type} {kf : α → Str} {f : α → D} {k : Str} : ∀ {l : List α}, k ∉ l.map kf → lookD (l.map fun a => ((Sum.inr (kf a) : Key), f a)) (Sum.inr k) = none
  | [], _ => rfl
  | b :: l, h => by
    have h1 : ¬ kf b = k := fun z => h (by simp [z])
    have := look_none (f := f) (l := l) (k := k) fun z => h (by simp at z ⊢; exact .inr z)
    simpa [lookD, List.find?_cons, h1] using this
theorem enum_map {α : Type} (f : α → D) (l : List α) : enumD (l.map f) = l.zipIdx.map fun p => .tup [.int (p.2 : Nat), f p.1] := by
  refine List.ext_getElem? fun i => ?_
  unfold enumD
  rw [List.getElem?_zipWith, List.getElem?_map, List.getElem?_map, List.getElem?_zipIdx, List.length_map]
  cases e : l[i]? with
  | none =>
    cases c : (List.range l.length)[i]? <;> rfl
  | some y =>
    have hi : i < l.length := (List.getElem?_eq_some_iff.mp e).1
    rw [List.getElem?_range hi]
    simp
theorem enum_mem {α : Type} {l : List α} {p : α × Nat} (h : p ∈ l.zipIdx) : l[p.2]? = some p.1 := List.mem_zipIdx_iff_getElem?.mp h
theorem cut_to (l : List Str) (i : Nat) : cutL (sD l) none (some (i : Int)) = sD (l.take i) := by rw [cutL_to]; unfold sD; rw [List.map_take]
theorem cut_from (l : List Str) (i : Nat) : cutL (sD l) (some (i : Int)) none = sD (l.drop i) := by rw [cutL_from]; unfold sD; rw [List.map_drop]
theorem sD_len (l : List Str) : (sD l).length = l.length := List.length_map _
theorem sD_app (l m : List Str) : sD (l ++ m) = sD l ++ sD m := List.map_append
theorem ok_of {l : List Str} (h : ∀ s ∈ l, s ∈ NM) : okS l := fun s hs => nm_ok s (h s hs)
def fndD (f : List Str) : List (Key × D) := f.map fun h => (Sum.inr h, .bl true)
theorem put_fnd (f : List Str) (h : Str) : putD (fndD f) (Sum.inr h) (.bl true) = fndD (if h ∈ f then f else f ++ [h]) := by
  unfold putD
  have e : ((fndD f).any fun kv => decide (kv.1 = Sum.inr h)) = decide (h ∈ f) := by
    rw [Bool.eq_iff_iff, List.any_eq_true, decide_eq_true_iff]
    constructor
    · rintro ⟨p, hp, q⟩
      obtain ⟨g, hg, rfl⟩ := List.mem_map.mp hp
      have := of_decide_eq_true q
      rw [← Sum.inr.inj this]; exact hg
    · intro q
      exact ⟨(Sum.inr h, .bl true), List.mem_map.mpr ⟨h, q, rfl⟩, by simp⟩
  rw [e]
  by_cases q : h ∈ f
  · rw [if_pos (decide_eq_true q), if_pos q]
    unfold fndD
    rw [List.map_map]
    refine List.map_congr_left fun g _ => ?_
    show (if (Sum.inr g : Key) = Sum.inr h then (Sum.inr g, D.bl true) else (Sum.inr g, D.bl true)) = _
    rw [ite_self]
  · rw [if_neg (by simpa using q), if_neg q]
    unfold fndD
    rw [List.map_append]; rfl
def insH (f : List Str) (h : Str) : List Str := if h ∈ f then f else f ++ [h]
theorem merge_fnd : ∀ (l f : List Str), mergeD (fndD f) (fndD l) = fndD (l.foldl insH f)
  | [], f => rfl
  | h :: l, f => by
    show mergeD (putD (fndD f) (Sum.inr h) (.bl true)) (fndD l) = _
    rw [put_fnd, merge_fnd l]; rfl
theorem ins_add : ∀ {l f : List Str}, l.Nodup → l.foldl insH f = addH f l
  | [], f, _ => by simp [addH]
  | h :: l, f, nd => by
    obtain ⟨n1, n2⟩ := List.nodup_cons.mp nd
    rw [List.foldl_cons, ins_add n2]
    unfold insH addH
    by_cases q : h ∈ f
    · rw [if_pos q, List.filter_cons_of_neg (by simpa using q)]
    · rw [if_neg q, List.filter_cons_of_pos (by simpa using q), List.append_assoc]
      congr 1
      show [h] ++ _ = h :: _
      rw [List.singleton_append]
      congr 1
      refine List.filter_congr fun g hg => ?_
      have : g ≠ h := fun z => n1 (z ▸ hg)
      simp [this]
theorem merge_add {l f : List Str} (hl : l.Nodup) : mergeD (fndD f) (mergeD [] (fndD l)) = fndD (addH f l) := by
  have e : mergeD [] (fndD l) = fndD l := by
    have := merge_fnd l []
    rw [show fndD [] = [] from rfl] at this
    rw [this, ins_add hl]
    unfold addH
    rw [List.nil_append, List.filter_eq_self.mpr (by simp)]
  rw [e, merge_fnd, ins_add hl]
theorem fold_take {cr : Crw} {i : Nat} {p : Str × List Str} (h : cr[i]? = some p) : (cr.take (i + 1)).foldl (fun f p => addH f p.2) [] = addH ((cr.take i).foldl (fun f p => addH f p.2) []) p.2 := by
  rw [List.take_add_one, h, List.foldl_append]; rfl
theorem fold_len {cr : Crw} (G : Good cr) (i : Nat) : ((cr.take i).foldl (fun f p => addH f p.2) []).length ≤ 5 := by
  refine sub_len (m := HN) (fold_nd List.nodup_nil fun p hp => (G.hs p (List.mem_of_mem_take hp)).2.1) fun x hx => ?_
  rcases fold_mem.mp hx with q | ⟨p, hp, q⟩
  · simp at q
  · exact (G.hs p (List.mem_of_mem_take hp)).2.2.2 x q
theorem Good.key_nd' {cr : Crw} (G : Good cr) : (cr.map fun p => p.1).Nodup := G.nd
theorem Good.hl {cr : Crw} (G : Good cr) {p : Str × List Str} (hp : p ∈ cr) : p.2.length ≤ 5 := sub_len (m := HN) (G.hs p hp).2.1 (G.hs p hp).2.2.2
section
variable {K : PySem.W.Frag} {A : Ad}
theorem w_are_hands {ds : List D} (hp : preHands ds) : WS K (t_are_hands K A (sp_is_name K)) (slots ["thing", "part", "at"] (ds.map SV.d)) (endP postTrue ds) := by
  obtain ⟨l, rfl, hn, nd, hh⟩ := hp
  have hl : l.length ≤ 5 := sub_len (m := HN) nd hh
  show WS K _ [.d (.lst (sD l)), .any, .any] _
  unfold t_are_hands
  walk_at "S"
  refine ifF rfl ?_
  walk_at "S"
  refine ifF (decide_eq_false fun z => hn ?_) ?_
  · rw [sD_len] at z
    exact List.length_eq_zero_iff.mp (by omega)
  walk_at "S"
  walk_at "w"
  refine lcM l D.str (fun _ => .bl true) rfl (le_line (by omega)) (fun a ha => ?_) ?_
  · walk_at "S"
    refine ⟨_, _, rfl, ⟨a, rfl, hn_nm (hh a ha)⟩, fun d hd => ?_⟩
    cases hd
    exact ⟨_, rfl, rfl⟩
  walk_at "S"
  refine wr_allF (l := l) (f := fun _ => true) rfl ?_
  walk_at "S"
  refine ifF (by simp) ?_
  walk_at "S"
  walk_at "w"
  refine lcM l.zipIdx (fun p => .tup [.int (p.2 : Nat), .str p.1]) (fun _ => .bl true) (enum_map D.str l) (le_line (by rw [List.length_zipIdx]; omega)) (fun p hp => ?_) ?_
  · have hx := enum_mem hp
    walk_at "S"
    rw [cut_to]
    refine w2_inSeq (.inl rfl) rfl ?_
    have : ¬ p.1 ∈ l.take p.2 := fun z => by
      obtain ⟨j, hj, e⟩ := List.getElem_of_mem z
      rw [List.getElem_take] at e
      rw [List.length_take] at hj
      have h2 := (List.getElem?_eq_some_iff.mp hx)
      obtain ⟨h3, h4⟩ := h2
      have := (List.getElem_inj nd).mp (e.trans h4.symm)
      omega
    rw [if_pos rfl, decide_eq_false this]
    exact ⟨_, rfl, rfl⟩
  walk_at "S"
  refine wr_allF (l := l.zipIdx) (f := fun _ => true) rfl ?_
  exact ⟨_, _, rfl, by show D.bl _ = D.bl true; simp⟩
end
end K61

set_option Elab.async false
set_option linter.all false
set_option maxRecDepth 100000
namespace K61
open PySem PySem.Spec L2 DL
local macro_rules | `(tactic| walk_at "s") => `(tactic| first
  | with_reducible refine we_op ?_
  | with_reducible refine we_c ?_
  | with_reducible refine wa_nil ?_
  | with_reducible refine wa_cons ?_
  | with_reducible refine we_cb ?_
  | with_reducible refine we_un ?_
  | with_reducible refine we_if ?_
  | with_reducible refine wt_and ?_
  | with_reducible refine wt_or ?_
  | with_reducible refine wt_not ?_
  | with_reducible refine wt_test ?_
  | with_reducible refine wt_B ?_
  | with_reducible refine wt_yes ?_
  | with_reducible refine we_andV ?_
  | with_reducible refine we_orV ?_
  | with_reducible refine we_notV ?_
  | with_reducible refine we_isN ?_
  | with_reducible refine we_notN ?_
  | with_reducible refine we_sl ?_
  | with_reducible refine wo_no ?_
  | with_reducible refine wo_some ?_
  | with_reducible refine we_lst ?_
  | with_reducible refine we_tup ?_
  | with_reducible refine we_call ?_
  | with_reducible refine ws_seq ?_
  | with_reducible refine ws_ret ?_
  | with_reducible refine ws_drop ?_
  | with_reducible refine ws_if ?_
  | with_reducible refine ws_next ?_
  | with_reducible refine ws_break ?_
  | with_reducible refine ws_set ?_
  | with_reducible refine ws_multi ?_
  | with_reducible refine ws_asg ?_
  | with_reducible refine we_lc ?_
  | with_reducible refine we_dc ?_
  | with_reducible refine ws_for ?_
  | with_reducible refine wi_seq ?_
  | with_reducible refine wi_enum ?_
  | with_reducible refine wi_zip ?_
  | with_reducible refine wi_range1 ?_
  | with_reducible refine wi_str ?_
  | with_reducible refine we_dnewK ?_
  | ((with_reducible show WE _ (tVar _) _ _); first | refine we_var rfl ?_ | refine we_varO rfl ?_)
  | ((with_reducible show WE _ (tFld _ _ _) _ _); first | refine we_touched (by assumption) ?_ | refine we_every (by assumption) ?_)
  | ((with_reducible show W2 _ (rIxA _) _ _ _ _); first | refine w2_ixCr rfl rfl (by assumption) (by assumption) ?_ | refine w2_ixLog rfl rfl (by assumption) (by assumption) ?_ | refine w2_ixLogT rfl rfl (by assumption) (by assumption) ?_)
  | ((with_reducible show W2 _ (rInA _ _) _ _ _ _); first | refine w2_inCr rfl rfl ?_ | refine w2_inS rfl (.inl rfl) ?_ | refine w2_inS rfl (.inr rfl) ?_ | refine w2_ninS rfl (.inl rfl) ?_ | refine w2_ninS rfl (.inr rfl) ?_)
  | ((with_reducible show W2 _ (rI0 _) _ _ _ _); refine w2_I0 rfl rfl ?_)
  | ((with_reducible show W2 _ (rEqA _) _ _ _ _); first | refine w2_eqStr rfl rfl ?_ | refine w2_eqInt rfl rfl ?_ | refine w2_eqBl rfl rfl ?_)
  | ((with_reducible show W2 _ (rNeA _) _ _ _ _); first | refine w2_neStr rfl rfl ?_ | refine w2_neInt rfl rfl ?_ | refine w2_neBl rfl rfl ?_)
  | ((with_reducible show W2 _ (rAddA _) _ _ _ _); refine w2_addI rfl rfl ?_)
  | ((with_reducible show WR _ (rLenA _) _ _ _); first | refine wr_len (.inl rfl) ?_ | refine wr_len (.inr rfl) ?_ | refine wr_lenD rfl ?_)
  | ((with_reducible show WR _ (rListA _) _ _ _); first | refine wr_list (.inl rfl) ?_ | refine wr_list (.inr rfl) ?_ | refine wr_listK rfl ?_ | refine wr_listD rfl ?_)
  | ((with_reducible show WR _ (rTupA _) _ _ _); first | refine wr_tup (.inl rfl) ?_ | refine wr_tup (.inr rfl) ?_)
  | ((with_reducible show WR _ (rIsiA _) _ _ _); first | refine wr_isi rfl rfl (by decide) ?_ | refine wr_isiT ["list", "tuple"] rfl rfl (by decide) rfl ?_)
  | ((with_reducible show W3 _ (rSlLT _) _ _ _ _ _); first | refine w3_L rfl ?_ | refine w3_T rfl ?_)
  | with_reducible refine wg_name (by first | exact True.intro | decide) ?_
  | ((with_reducible show WGs _ _ gNil _ _ _); refine wgs_nil ?_)
  | ((with_reducible show WGs _ _ (gCons _ _) _ _ _); refine wgs_cons rfl ?_)
  | ((with_reducible show WG _ _ (gTup _ _ _) _ _ _); refine wg_tup rfl rfl ?_)
  | refine ⟨_, (rfl : asg _ _ _ = _), ?_⟩
  | refine ⟨_, _, (rfl : fzA _ _ _ = _), le_lineB rfl, ?_⟩
  | refine ⟨_, (rfl : SV.d _ = _), ?_⟩
  | refine ⟨_, (rfl : vw _ _ = _), ?_⟩
  | refine ⟨(rfl : nraw _ = true), ?_⟩
  | refine ⟨(rfl : List.length _ = _), le_lineB rfl, rfl, ?_⟩)
local macro_rules | `(tactic| walk_at "S") => `(tactic| repeat walk_at "s")
/-- what is walked -/
local macro_rules | `(tactic| walk_at "w") => `(tactic| first | refine ⟨_, _, .inl rfl, ?_⟩ | refine ⟨_, _, .inr rfl, ?_⟩ | refine ⟨_, _, _, rfl, .inl rfl, ?_⟩ | refine ⟨_, _, _, rfl, .inr rfl, ?_⟩)
section
variable {K : PySem.W.Frag} {A : Ad}
theorem cr_keys (cr : Crw) : (cr.map fun p => ((Sum.inr p.1 : Key), D.lst (sD p.2))).map (fun p => keyD p.1) = cr.map fun p => .str p.1 := by rw [List.map_map]; rfl
theorem upd_fnd {l f : List Str} (hl : l.Nodup) : mergeD (fndD f) (mergeD [] (l.map fun h => ((Sum.inr h : Key), D.bl true))) = fndD (addH f l) := merge_add hl
theorem merge_len (l : List Str) : (mergeD [] (l.map fun h => ((Sum.inr h : Key), D.bl true))).length ≤ l.length := by
  have : ∀ (l f : List Str), (l.foldl insH f).length ≤ f.length + l.length := by
    intro l
    induction l with
    | nil => intro f; simp
    | cons h l ih =>
      intro f
      rw [List.foldl_cons]
      have := ih (insH f h)
      have h2 : (insH f h).length ≤ f.length + 1 := by
        unfold insH; split <;> simp
      simp; omega
  have h1 := merge_fnd l []
  rw [show mergeD [] (l.map fun h => ((Sum.inr h : Key), D.bl true)) = mergeD (fndD []) (fndD l) from rfl, h1]
  have := this l []
  unfold fndD; simpa using this
theorem w_are_deeds {ds : List D} (hp : preDeeds ds) : WS K (t_are_deeds K A (sp_is_name K) (sp_are_hands K)) (slots ["thing", "found", "deed", "hand"] (ds.map SV.d)) (endP postTrue ds) := by
  obtain ⟨cr, G, rfl⟩ := hp
  have hc : cr.length ≤ 8 := G.n8
  show WS K _ [.d (crL cr), .any, .any, .any] _
  unfold t_are_deeds
  walk_at "S"
  refine ifF rfl ?_
  walk_at "S"
  refine we_chainI ?_
  walk_at "S"
  refine ⟨_, _, true, rfl, rfl, congrArg V.bl (decide_eq_true ?_), ifT rfl ?_⟩
  · have := G.n1; rw [List.length_map]; omega
  walk_at "S"
  refine ifF (by rw [List.length_map]; simp; omega) ?_
  walk_at "S"
  refine we_lklc dwalk_keys (path_var rfl) ?_
  refine lcM cr (fun p => .str p.1) (fun _ => .bl true) (cr_keys cr) (le_line (by omega)) (fun p hp => ?_) ?_
  · have hk : p.1 ∈ keysOf cr := List.mem_map.mpr ⟨p, hp, rfl⟩
    walk_at "S"
    refine ⟨_, _, rfl, ⟨p.1, rfl, G.key_nm hk⟩, fun d hd => ⟨true, congrArg SV.d hd, ifT rfl ?_⟩⟩
    walk_at "S"
    refine w2_ixK rfl rfl rfl (look_map G.nd hp) ?_
    walk_at "S"
    refine ⟨_, _, rfl, ⟨p.2, rfl, (G.hs p hp).1, (G.hs p hp).2.1, (G.hs p hp).2.2.2⟩, fun d hd => ?_⟩
    cases hd
    exact ⟨_, rfl, rfl⟩
  walk_at "S"
  refine wr_allF (l := cr) (f := fun _ => true) rfl ?_
  walk_at "S"
  refine ifF (by simp) ?_
  walk_at "S"
  refine ws_lkfor dwalk_keys (path_var rfl) ⟨fun i ρ2 => ∃ s, ρ2 = [.d (crL cr), .own (ownK (fndD ((cr.take i).foldl (fun f p => addH f p.2) []))), s, .any], ⟨_, rfl⟩, ?_, ?_⟩
  · rintro i x ρ2 hx ⟨s, rfl⟩
    rw [cr_keys] at hx
    obtain ⟨p, hp, rfl⟩ := get_map hx
    have hm : p ∈ cr := List.mem_of_getElem? hp
    walk_at "S"
    refine we_bmD ?_
    walk_at "S"
    refine ⟨⟨_, _, rfl, rfl, rfl⟩, ?_⟩
    walk_at "S"
    refine w2_ixK rfl rfl rfl (look_map G.nd hm) ?_
    walk_at "w"
    refine dcM p.2 D.str Sum.inr (fun _ => .bl true) rfl (le_line (by have := G.hl hm; omega)) (fun a ha => ?_) ?_
    · walk_at "S"
      refine ⟨rfl, ?_⟩
      walk_at "S"
      exact ⟨_, rfl, rfl⟩
    walk_at "S"
    refine wm_update rfl rfl (le_line ?_) ?_
    · have h1 := merge_len p.2
      have h2 := fold_len G i
      have h3 := G.hl hm
      unfold fndD
      rw [List.length_map]
      omega
    rw [upd_fnd (G.hs p hm).2.1, ← fold_take hp]
    exact ⟨_, rfl⟩
  · rintro ρ2 ⟨s, rfl⟩
    rw [show ((cr.map fun p => ((Sum.inr p.1 : Key), D.lst (sD p.2))).map (fun p => keyD p.1)).length = cr.length by simp, List.take_length]
    walk_at "S"
    refine ⟨_, _, rfl, ?_⟩
    show D.bl _ = D.bl true
    have h2 := fold_len G cr.length
    rw [List.take_length] at h2
    unfold fndD
    rw [List.length_map, decide_eq_true]
    omega
end
end K61

set_option Elab.async false
set_option linter.all false
set_option maxRecDepth 100000
namespace K61
open PySem PySem.Spec L2 DL
local macro_rules | `(tactic| walk_at "s") => `(tactic| first
  | with_reducible refine we_op ?_
  | with_reducible refine we_c ?_
  | with_reducible refine wa_nil ?_
  | with_reducible refine wa_cons ?_
  | with_reducible refine we_cb ?_
  | with_reducible refine we_un ?_
  | with_reducible refine we_if ?_
  | with_reducible refine wt_and ?_
  | with_reducible refine wt_or ?_
  | with_reducible refine wt_not ?_
  | with_reducible refine wt_test ?_
  | with_reducible refine wt_B ?_
  | with_reducible refine wt_yes ?_
  | with_reducible refine we_andV ?_
  | with_reducible refine we_orV ?_
  | with_reducible refine we_notV ?_
  | with_reducible refine we_isN ?_
  | with_reducible refine we_notN ?_
  | with_reducible refine we_sl ?_
  | with_reducible refine wo_no ?_
  | with_reducible refine wo_some ?_
  | with_reducible refine we_lst ?_
  | with_reducible refine we_tup ?_
  | with_reducible refine we_call ?_
  | with_reducible refine ws_seq ?_
  | with_reducible refine ws_ret ?_
  | with_reducible refine ws_drop ?_
  | with_reducible refine ws_if ?_
  | with_reducible refine ws_next ?_
  | with_reducible refine ws_break ?_
  | with_reducible refine ws_set ?_
  | with_reducible refine ws_multi ?_
  | with_reducible refine ws_asg ?_
  | with_reducible refine we_lc ?_
  | with_reducible refine we_dc ?_
  | with_reducible refine ws_for ?_
  | with_reducible refine wi_seq ?_
  | with_reducible refine wi_enum ?_
  | with_reducible refine wi_zip ?_
  | with_reducible refine wi_range1 ?_
  | with_reducible refine wi_str ?_
  | with_reducible refine we_dnewK ?_
  | ((with_reducible show WE _ (tVar _) _ _); first | refine we_var rfl ?_ | refine we_varO rfl ?_)
  | ((with_reducible show WE _ (tFld _ _ _) _ _); first | refine we_touched (by assumption) ?_ | refine we_every (by assumption) ?_)
  | ((with_reducible show W2 _ (rIxA _) _ _ _ _); first | refine w2_ixCr rfl rfl (by assumption) (by assumption) ?_ | refine w2_ixLog rfl rfl (by assumption) (by assumption) ?_ | refine w2_ixLogT rfl rfl (by assumption) (by assumption) ?_)
  | ((with_reducible show W2 _ (rInA _ _) _ _ _ _); first | refine w2_inCr rfl rfl ?_ | refine w2_inS rfl (.inl rfl) ?_ | refine w2_inS rfl (.inr rfl) ?_ | refine w2_ninS rfl (.inl rfl) ?_ | refine w2_ninS rfl (.inr rfl) ?_)
  | ((with_reducible show W2 _ (rI0 _) _ _ _ _); refine w2_I0 rfl rfl ?_)
  | ((with_reducible show W2 _ (rEqA _) _ _ _ _); first | refine w2_eqStr rfl rfl ?_ | refine w2_eqInt rfl rfl ?_ | refine w2_eqBl rfl rfl ?_)
  | ((with_reducible show W2 _ (rNeA _) _ _ _ _); first | refine w2_neStr rfl rfl ?_ | refine w2_neInt rfl rfl ?_ | refine w2_neBl rfl rfl ?_)
  | ((with_reducible show W2 _ (rAddA _) _ _ _ _); refine w2_addI rfl rfl ?_)
  | ((with_reducible show WR _ (rLenA _) _ _ _); first | refine wr_len (.inl rfl) ?_ | refine wr_len (.inr rfl) ?_ | refine wr_lenD rfl ?_)
  | ((with_reducible show WR _ (rListA _) _ _ _); first | refine wr_list (.inl rfl) ?_ | refine wr_list (.inr rfl) ?_ | refine wr_listK rfl ?_ | refine wr_listD rfl ?_)
  | ((with_reducible show WR _ (rTupA _) _ _ _); first | refine wr_tup (.inl rfl) ?_ | refine wr_tup (.inr rfl) ?_)
  | ((with_reducible show WR _ (rIsiA _) _ _ _); first | refine wr_isi rfl rfl (by decide) ?_ | refine wr_isiT ["list", "tuple"] rfl rfl (by decide) rfl ?_)
  | ((with_reducible show W3 _ (rSlLT _) _ _ _ _ _); first | refine w3_L rfl ?_ | refine w3_T rfl ?_)
  | with_reducible refine wg_name (by first | exact True.intro | decide) ?_
  | ((with_reducible show WGs _ _ gNil _ _ _); refine wgs_nil ?_)
  | ((with_reducible show WGs _ _ (gCons _ _) _ _ _); refine wgs_cons rfl ?_)
  | ((with_reducible show WG _ _ (gTup _ _ _) _ _ _); refine wg_tup rfl rfl ?_)
  | refine ⟨_, (rfl : asg _ _ _ = _), ?_⟩
  | refine ⟨_, _, (rfl : fzA _ _ _ = _), le_lineB rfl, ?_⟩
  | refine ⟨_, (rfl : SV.d _ = _), ?_⟩
  | refine ⟨_, (rfl : vw _ _ = _), ?_⟩
  | refine ⟨(rfl : nraw _ = true), ?_⟩
  | refine ⟨(rfl : List.length _ = _), le_lineB rfl, rfl, ?_⟩)
local macro_rules | `(tactic| walk_at "S") => `(tactic| repeat walk_at "s")
/-- what is walked -/
local macro_rules | `(tactic| walk_at "w") => `(tactic| first | refine ⟨_, _, .inl rfl, ?_⟩ | refine ⟨_, _, .inr rfl, ?_⟩ | refine ⟨_, _, _, rfl, .inl rfl, ?_⟩ | refine ⟨_, _, _, rfl, .inr rfl, ?_⟩)
theorem sD_inj : ∀ {l m : List Str}, sD l = sD m → l = m
  | [], [], _ => rfl
  | [], _ :: _, e => by cases e
  | _ :: _, [], e => by cases e
  | a :: l, b :: m, e => by
    unfold sD at e
    simp only [List.map_cons, List.cons.injEq, D.str.injEq] at e
    rw [e.1, sD_inj (l := l) (m := m) e.2]
theorem crw_inj {g : List Str → D} (hg : ∀ a b, g a = g b → a = b) : ∀ {c c' : Crw}, (c.map fun p => ((Sum.inr p.1 : Key), g p.2)) = (c'.map fun p => ((Sum.inr p.1 : Key), g p.2)) → c = c'
  | [], [], _ => rfl
  | [], _ :: _, e => by cases e
  | _ :: _, [], e => by cases e
  | p :: c, q :: c', e => by
    simp only [List.map_cons, List.cons.injEq, Prod.mk.injEq, Sum.inr.injEq] at e
    obtain ⟨⟨e1, e2⟩, e3⟩ := e
    rw [crw_inj hg e3, Prod.ext e1 (hg _ _ e2)]
theorem crL_inj {c c' : Crw} (e : crL c = crL c') : c = c' := crw_inj (g := fun l => .lst (sD l)) (fun _ _ h => sD_inj (D.lst.inj h)) (D.dK.inj e)
theorem crD_inj {c c' : Crw} (e : crD c = crD c') : c = c' := crw_inj (g := fun l => .tup (sD l)) (fun _ _ h => sD_inj (D.tup.inj h)) (D.dK.inj e)
theorem team_inj {A : Ad} {c c' : Crw} (e : teamD A c = teamD A c') : c = c' := by
  have h := (D.ins.inj e).2
  unfold teamF at h
  simp only [List.cons.injEq, Prod.mk.injEq] at h
  exact crD_inj h.1.2
theorem seq_inj {b b' : Bool} {l m : List Str} (e : seqD b l = seqD b' m) : l = m := by
  unfold seqD at e
  cases b <;> cases b' <;> simp at e <;> exact sD_inj e
section
variable {K : PySem.W.Frag} {A : Ad}
theorem keys_inr (cr : Crw) (f : Str × List Str → D) : (cr.map fun p => ((Sum.inr p.1 : Key), f p)).map (·.1) = (keysOf cr).map Sum.inr := by
  unfold keysOf; rw [List.map_map, List.map_map]; rfl
theorem fnd_keys (f : List Str) : (fndD f).map (·.1) = f.map Sum.inr := by unfold fndD; rw [List.map_map]; rfl
theorem cr_strs (cr : Crw) : sD (keysOf cr) = cr.map fun p => .str p.1 := by unfold sD keysOf; rw [List.map_map]; rfl
theorem cr_nd {cr : Crw} (G : Good cr) (f : Str × List Str → D) : mergeD [] (cr.map fun p => ((Sum.inr p.1 : Key), f p)) = cr.map fun p => ((Sum.inr p.1 : Key), f p) := mergeD_nd (by
  rw [keys_inr]
  exact G.nd.map _ fun a b h e => h (Sum.inr.inj e))
theorem w_Crew_init (Q : CrewOk K A) {st : Addr × List (Str × D)} {ds : List D} (hp : preInit st ds) : WS K (t_Crew_init K A (sp_are_deeds K)) (slots ["self", "deeds", "found", "hands", "deed", "hand"] (.own (ownI A.CCrew st.1 st.2) :: ds.map SV.d))
    { nx := fun ρ => ∃ st1 : Addr × List (Str × D), ρ[0]? = some (.own (ownI A.CCrew st1.1 st1.2)) ∧ postInit st ds st1 .non, rt := fun z ρ => ∃ x ρ', ∃ st1 : Addr × List (Str × D), fzT z ρ = some (x, ρ') ∧ ρ'[0]? = some (.own (ownI A.CCrew st1.1 st1.2)) ∧ postInit st ds st1 x } := by
  obtain ⟨a, fs⟩ := st
  obtain ⟨he, cr, G, rfl⟩ := hp
  have he : fs = [] := he
  subst he
  have hc : cr.length ≤ 8 := G.n8
  show WS K _ [.own (ownI A.CCrew a []), .d (crL cr), .any, .any, .any, .any] _
  unfold t_Crew_init
  walk_at "S"
  refine ⟨_, _, rfl, ⟨cr, G, rfl⟩, fun d hd => ⟨true, congrArg SV.d hd, ifF rfl ?_⟩⟩
  walk_at "S"
  refine ws_setfld ?_
  walk_at "S"
  refine wr_sortedD (l := keysOf cr) rfl (keys_inr cr _) (by unfold keysOf; rw [List.length_map]; omega) ?_
  rw [sortS_of_asc G.asc]
  walk_at "w"
  refine dcM cr (fun p => .str p.1) (fun p => Sum.inr p.1) (fun p => .tup (sD p.2)) (cr_strs cr) (le_line (by omega)) (fun p hp => ?_) ?_
  · walk_at "S"
    refine ⟨rfl, ?_⟩
    walk_at "S"
    refine w2_ixK rfl rfl rfl (look_map G.nd hp) ?_
    walk_at "S"
    refine wr_sortedS (l := p.2) rfl (by have := G.hl hp; omega) ?_
    rw [sortS_of_asc (G.hs p hp).2.2.1]
    walk_at "S"
    exact ⟨_, rfl, rfl⟩
  rw [cr_nd G]
  walk_at "S"
  refine ⟨0, A.CCrew, a, [], crD cr, _, rfl, rfl, rfl, Q.cls, Q.nT, by decide, rfl, ?_⟩
  walk_at "S"
  refine ws_lkfor dwalk_vals (path_fldO (kvs := cr.map fun p => (Sum.inr p.1, .tup (sD p.2))) rfl Q.cls Q.nT rfl) ⟨fun i ρ2 => ∃ s, ρ2 = [.own (ownI A.CCrew a [("touched", crD cr)]), .d (crL cr), .own (ownK (fndD ((cr.take i).foldl (fun f p => addH f p.2) []))), s, .any, .any], ⟨_, rfl⟩, ?_, ?_⟩
  · rintro i x ρ2 hx ⟨s, rfl⟩
    rw [List.map_map] at hx
    obtain ⟨p, hp, rfl⟩ := get_map hx
    have hm : p ∈ cr := List.mem_of_getElem? hp
    walk_at "S"
    refine we_bmD ?_
    walk_at "S"
    refine ⟨⟨_, _, rfl, rfl, rfl⟩, ?_⟩
    walk_at "S"
    walk_at "w"
    refine dcM p.2 D.str Sum.inr (fun _ => .bl true) rfl (le_line (by have := G.hl hm; omega)) (fun a ha => ?_) ?_
    · walk_at "S"
      refine ⟨rfl, ?_⟩
      walk_at "S"
      exact ⟨_, rfl, rfl⟩
    walk_at "S"
    refine wm_update rfl rfl (le_line ?_) ?_
    · have h1 := merge_len p.2
      have h2 := fold_len G i
      have h3 := G.hl hm
      unfold fndD
      rw [List.length_map]
      omega
    rw [upd_fnd (G.hs p hm).2.1, ← fold_take hp]
    exact ⟨_, rfl⟩
  · rintro ρ2 ⟨s, rfl⟩
    rw [show ((cr.map fun p => ((Sum.inr p.1 : Key), D.tup (sD p.2))).map (fun p => p.2)).length = cr.length by simp, List.take_length]
    refine ws_setfld ?_
    walk_at "S"
    refine wr_sortedD (l := allH cr) rfl (fnd_keys _) ?_ ?_
    · have := G.every_len
      unfold every at this; rw [sortS_len] at this; omega
    walk_at "S"
    refine ⟨0, A.CCrew, a, [("touched", crD cr)], .tup (sD (every cr)), _, rfl, rfl, rfl, Q.cls, Q.nE, by show 1 < 1000; decide, rfl, ?_⟩
    refine ⟨(a, teamF cr), rfl, rfl, rfl, fun cr' G' e => ?_⟩
    have : cr' = cr := (crL_inj (by simpa using e)).symm
    subst this
    rfl
end
end K61

set_option Elab.async false
set_option linter.all false
set_option maxRecDepth 100000
namespace K61
open PySem PySem.Spec L2 DL
/-! ### the stream of the script's numbers -/
structure Sq where
  p : Addr
  q : Addr
  n : Nat
def ownS (s : Sq) : Own where
  R := fun K G H v fp => ∃ (ns : List Int) (a c m : Int), v = .ref s.p ∧ fp = [s.p, s.q] ∧ s.p ≠ s.q ∧ H s.p = some (.lst [.ref s.q, .int a, .int c, .int m]) ∧ H s.q = some (.lst (ns.map V.int)) ∧ 0 ≤ a ∧ 0 ≤ c ∧ c ≤ s.n ∧ 0 ≤ m ∧ m < 2147483648
  dat := none
  see := none
  mono := fun e h => h
  loc := fun {K G H H' v fp} e ⟨ns, a, c, m, e1, e2, e0, e3, e4, e5⟩ => ⟨ns, a, c, m, e1, e2, e0, (e s.p (by rw [e2]; simp)).trans e3, (e s.q (by rw [e2]; simp)).trans e4, e5⟩
  liv := fun ⟨ns, a, c, m, e1, e2, e0, e3, e4, e5⟩ x hx => by
    rw [e2] at hx
    rcases List.mem_cons.mp hx with z | z
    · rw [z]; exact ⟨_, e3, rfl⟩
    · rw [List.mem_singleton.mp z]; exact ⟨_, e4, rfl⟩
  fz := fun h _ _ _ => by cases h
  sh := fun h _ => by cases h
/-- what is drawn -/
def Sq.up (s : Sq) (k : Nat) : Sq := { s with n := s.n + k }
def sameOk : Nat → D → Prop
  | 0, x => (∃ s, x = .str s) ∨ (∃ i, x = .int i) ∨ x = .non
  | n + 1, x => ((∃ s, x = .str s) ∨ (∃ i, x = .int i) ∨ x = .non) ∨ (∃ xs, (x = .lst xs ∨ x = .tup xs) ∧ xs.length ≤ 1000000 ∧ ∀ y ∈ xs, sameOk n y) ∨ ∃ kvs, x = .dK kvs ∧ sameOk n (.lst (kvs.map fun q => .tup [keyD q.1, q.2]))
section
variable (K : PySem.W.Frag) (A : Ad)
def postLeast : List D → D → Prop := fun ds d => ∀ cr b l, Good cr → ds = [teamD A cr, seqD b l] → d = .tup (sD (least cr l))
abbrev sp_least_of : Sp := spP K (preRow A) (postLeast A)
def preTaken : List D → Prop := fun ds => ∃ cr l d, Good cr ∧ ds = [teamD A cr, .tup (sD l), .str d] ∧ Sub cr l ∧ d ∈ keysOf cr ∧ l.length ≤ 200
def postTaken : List D → D → Prop := fun ds x => ∀ cr l d, Good cr → ds = [teamD A cr, .tup (sD l), .str d] → x = optT (takeF cr l d)
abbrev sp_taken : Sp := spP K (preTaken A) (postTaken A)
def preTwo : List D → Prop := fun ds => ∃ cr l m, Good cr ∧ ds = [teamD A cr, .tup (sD l), .tup (sD m)] ∧ Sub cr l ∧ Sub cr m ∧ l.length ≤ 200 ∧ m.length ≤ 200
def postRest : List D → D → Prop := fun ds x => ∀ cr l m, Good cr → ds = [teamD A cr, .tup (sD l), .tup (sD m)] → x = optT (restF cr l m)
abbrev sp_rest_by : Sp := spP K (preTwo A) (postRest A)
def postBegun : List D → D → Prop := fun ds x => ∀ cr l m, Good cr → ds = [teamD A cr, .tup (sD l), .tup (sD m)] → ∃ f n r, Beg cr l m f n r ∧ x = .tup [.tup (sD f), .tup (sD n), .tup (sD r)]
abbrev sp_begun : Sp := spP K (preTwo A) (postBegun A)
def preTold : List D → Prop := fun ds => ∃ cr o, Good cr ∧ ds = [teamD A cr, optT o] ∧ ∀ l, o = some l → Sub cr l ∧ l.length ≤ 200
def postTold : List D → D → Prop := fun ds x => ∀ cr o, Good cr → ds = [teamD A cr, optT o] → x = optL (o.map (least cr))
abbrev sp_told : Sp := spP K (preTold A) (postTold A)
def preTwoL : List D → Prop := fun ds => ∃ cr l m, Good cr ∧ ds = [teamD A cr, .lst (sD l), .lst (sD m)] ∧ Sub cr l ∧ Sub cr m ∧ l.length ≤ 50 ∧ m.length ≤ 50
def postRestOf : List D → D → Prop := fun ds x => ∀ cr l m, Good cr → ds = [teamD A cr, .lst (sD l), .lst (sD m)] → x = optL ((restF cr l m).map (least cr))
abbrev sp_rest_of : Sp := spP K (preTwoL A) (postRestOf A)
def postCommon : List D → D → Prop := fun ds x => ∀ cr l m, Good cr → ds = [teamD A cr, .lst (sD l), .lst (sD m)] → ∃ f n r, Beg cr l m f n r ∧ x = .lst (sD (least cr f))
abbrev sp_common_begin : Sp := spP K (preTwoL A) (postCommon A)
def postCont : List D → D → Prop := fun ds x => ∀ cr l m, Good cr → ds = [teamD A cr, .lst (sD l), .lst (sD m)] → (∃ a b, x = .tup [.str "barred", .str a, .str b]) ∨
  ∃ c, Sub cr c ∧ c.length ≤ 100 ∧ (∀ h, (saw cr c h).take (saw cr l h).length = saw cr l h ∧ (saw cr c h).take (saw cr m h).length = saw cr m h) ∧ x = .tup [.str "row", .lst (sD c)]
abbrev sp_continued : Sp := spP K (preTwoL A) (postCont A)
def postLogs : List D → D → Prop := fun ds x => ∀ cr b l, Good cr → ds = [teamD A cr, seqD b l] → x = logsD cr (saw cr l)
abbrev sp_logs_of : Sp := spP K (preRow A) (postLogs A)
def preLog : List D → Prop := fun ds => ∃ cr h l, Good cr ∧ ds = [teamD A cr, .str h, .lst (sD l)] ∧ l.length ≤ 200 ∧ ∀ x ∈ l, x ∈ keysOf cr ∧ h ∈ hsOf cr x
abbrev sp_is_log : Sp := spP K (preLog A) postTrue
def LogsOk (cr : Crw) (f : Str → List Str) : Prop := ∀ h ∈ every cr, (f h).length ≤ 200 ∧ ∀ x ∈ f h, x ∈ keysOf cr ∧ h ∈ hsOf cr x
def preLogs : List D → Prop := fun ds => ∃ cr f, Good cr ∧ ds = [teamD A cr, logsD cr f] ∧ LogsOk cr f
abbrev sp_are_logs : Sp := spP K (preLogs A) postTrue
def postNeedLogs : List D → D → Prop := fun ds x => ∀ cr f, Good cr → ds = [teamD A cr, logsD cr f] → x = logsT cr f
abbrev sp_need_logs : Sp := spP K (preLogs A) (postNeedLogs A)
def preReady : List D → Prop := fun ds => ∃ cr f d, Good cr ∧ ds = [teamD A cr, logsD cr f, .str d] ∧ LogsOk cr f ∧ d ∈ keysOf cr
def postReady : List D → D → Prop := fun ds x => ∀ cr f d, Good cr → ds = [teamD A cr, logsD cr f, .str d] → x = .bl ((hsOf cr d).all fun h => decide ((f h).take 1 = [d]))
abbrev sp_is_ready : Sp := spP K (preReady A) (postReady A)
def preDone : List D → Prop := fun ds => ∃ cr r, Good cr ∧ ds = [teamD A cr, logsT cr (saw cr r)] ∧ Sub cr r ∧ r.length ≤ 200
def postDone : List D → D → Prop := fun ds x => ∀ cr r, Good cr → Sub cr r → ds = [teamD A cr, logsT cr (saw cr r)] → ∃ g, (∀ h, saw cr g h = saw cr r h) ∧ Sub cr g ∧ x = .tup [.lst (sD g), logsD cr fun _ => []]
abbrev sp_done_by : Sp := spP K (preDone A) (postDone A)
def preJoined : List D → Prop := fun ds => ∃ cr r, Good cr ∧ ds = [teamD A cr, logsD cr (saw cr r)] ∧ Sub cr r ∧ r.length ≤ 200
def postJoined : List D → D → Prop := fun ds x => ∀ cr r, Good cr → Sub cr r → ds = [teamD A cr, logsD cr (saw cr r)] → x = .tup [.str "row", .lst (sD (least cr r))]
abbrev sp_joined : Sp := spP K (preJoined A) (postJoined A)
/-! the law's own -/
def preBelow : Sq → List D → Prop := fun s ds => s.n < 1000000 ∧ ∃ m : Nat, ds = [.int m] ∧ 1 ≤ m ∧ m < 1000000
def postBelow : Sq → List D → Sq → D → Prop := fun s ds s' x => s' = s.up 1 ∧ ∀ m : Nat, ds = [.int m] → ∃ i : Nat, x = .int i ∧ i < m
abbrev sp_law_below : Sp := spS K ownS preBelow postBelow
def prePick : Sq → List D → Prop := fun s ds => s.n < 1000000 ∧ ∃ xs, ds = [.lst xs] ∧ xs ≠ [] ∧ xs.length < 1000000
def postPick : Sq → List D → Sq → D → Prop := fun s ds s' x => s' = s.up 1 ∧ ∀ xs, ds = [.lst xs] → x ∈ xs
abbrev sp_law_pick : Sp := spS K ownS prePick postPick
def preMixed : Sq → List D → Prop := fun s ds => s.n < 100000 ∧ ∃ xs, ds = [.lst xs] ∧ xs.length ≤ 100
def postMixed : Sq → List D → Sq → D → Prop := fun s ds s' x => ∀ xs, ds = [.lst xs] → s' = s.up xs.length ∧ ∃ ys : List D, ys.Perm xs ∧ x = .lst ys
abbrev sp_law_mixed : Sp := spS K ownS preMixed postMixed
def preMcrew : Sq → List D → Prop := fun s ds => s.n < 50000 ∧ ds = [.int 5]
def postMcrew : Sq → List D → Sq → D → Prop := fun s ds s' x => (∃ k, k ≤ 200 ∧ s' = s.up k) ∧ ∃ cr, Good cr ∧ x = crD cr
abbrev sp_law_mcrew : Sp := spS K ownS preMcrew postMcrew
def preMade : List D → Prop := fun ds => ∃ cr, Good cr ∧ ds = [crD cr]
def postMade : List D → D → Prop := fun ds x => ∀ cr, Good cr → ds = [crD cr] → x = teamD A cr
abbrev sp_law_mmade_crew : Sp := spP K preMade (postMade A)
def preMap : List D → Prop := fun ds => ∃ cr a b, Good cr ∧ ds = [crD cr, .str a, .str b] ∧ a ∈ keysOf cr ∧ b ∈ keysOf cr
def postMap : List D → D → Prop := fun ds x => ∀ cr a b, Good cr → ds = [crD cr, .str a, .str b] → x = .bl (dis cr a b)
abbrev sp_law_mis_apart : Sp := spP K preMap postMap
def preMrow : Sq → List D → Prop := fun s ds => s.n < 100000 ∧ ∃ cr, ∃ m : Nat, Good cr ∧ ds = [crD cr, .int m] ∧ m ≤ 7
def postMrow : Sq → List D → Sq → D → Prop := fun s ds s' x => ∀ cr, ∀ m : Nat, Good cr → ds = [crD cr, .int m] → ∃ l, Sub cr l ∧ l.length ≤ m ∧ x = .lst (sD l) ∧ s' = s.up (1 + l.length)
abbrev sp_law_mrow : Sp := spS K ownS preMrow postMrow
def preMfr : List D → Prop := fun ds => ∃ cr b l, Good cr ∧ ds = [crD cr, seqD b l] ∧ Sub cr l ∧ l.length ≤ 200
def postMfr : List D → D → Prop := fun ds x => ∀ cr b l, Good cr → ds = [crD cr, seqD b l] → x = .lst ((frontsF cr l).map fun (i : Nat) => .int i)
abbrev sp_law_mfronts : Sp := spP K preMfr postMfr
def postMleast : List D → D → Prop := fun ds x => ∀ cr b l, Good cr → ds = [crD cr, seqD b l] → x = .lst (sD (least cr l))
abbrev sp_law_mleast : Sp := spP K preMfr postMleast
def preMsh : Sq → List D → Prop := fun s ds => s.n < 100000 ∧ ∃ cr l, Good cr ∧ ds = [crD cr, .lst (sD l)] ∧ Sub cr l ∧ l.length ≤ 50
def postMsh : Sq → List D → Sq → D → Prop := fun s ds s' x => ∀ cr l, Good cr → ds = [crD cr, .lst (sD l)] → s' = s.up l.length ∧ ∃ m : List Str, m.Perm l ∧ x = .lst (sD m)
abbrev sp_law_mshuffled : Sp := spS K ownS preMsh postMsh
def preMtk : List D → Prop := fun ds => ∃ cr l d, Good cr ∧ ds = [crD cr, .lst (sD l), .str d] ∧ Sub cr l ∧ l.length ≤ 200 ∧ d ∈ keysOf cr
def postMtk : List D → D → Prop := fun ds x => ∀ cr l d, Good cr → ds = [crD cr, .lst (sD l), .str d] → x = optL (takeF cr l d)
abbrev sp_law_mtaken : Sp := spP K preMtk postMtk
def preMrest : List D → Prop := fun ds => ∃ cr l m, Good cr ∧ ds = [crD cr, .lst (sD l), .lst (sD m)] ∧ Sub cr l ∧ Sub cr m ∧ l.length ≤ 200 ∧ m.length ≤ 200
def postMrest : List D → D → Prop := fun ds x => ∀ cr l m, Good cr → ds = [crD cr, .lst (sD l), .lst (sD m)] → x = optL (restF cr l m)
abbrev sp_law_mrest : Sp := spP K preMrest postMrest
def preMbeg : List D → Prop := fun ds => ∃ cr l, Good cr ∧ ds = [crD cr, .lst (sD l)] ∧ Sub cr l ∧ l.length ≤ 7
def postMbeg : List D → D → Prop := fun ds x => ∀ cr l, Good cr → ds = [crD cr, .lst (sD l)] → ∃ xs : List (List Str), x = .lst (xs.map fun y => .lst (sD y)) ∧ xs ≠ [] ∧ xs.length < 1000000 ∧ ∀ y ∈ xs, Sub cr y ∧ y.length ≤ l.length
abbrev sp_law_mbeginnings : Sp := spP K preMbeg postMbeg
def preMtwo : List D → Prop := fun ds => ∃ xs ys, ds = [.lst xs, .lst ys] ∧ xs.length ≤ 10 ∧ ys.length ≤ 10
def postMtwo : List D → D → Prop := fun ds x => ∀ xs ys, ds = [.lst xs, .lst ys] → x = .lst (xs.flatMap fun a => ys.map fun b => .tup [a, b])
abbrev sp_law_mtwo : Sp := spP K preMtwo postMtwo
def postMhands : List D → D → Prop := fun ds x => ∀ cr, Good cr → ds = [crD cr] → x = .lst (sD (every cr))
abbrev sp_law_mhands : Sp := spP K preMade postMhands
abbrev sp_law_same (n : Nat) : Sp := spP K (fun ds => ∃ x, ds = [x, x] ∧ sameOk n x) postTrue
end
end K61

set_option Elab.async false
set_option linter.all false
set_option maxRecDepth 100000
namespace K61
open PySem PySem.Spec L2 DL
local macro_rules | `(tactic| walk_at "s") => `(tactic| first
  | with_reducible refine we_op ?_
  | with_reducible refine we_c ?_
  | with_reducible refine wa_nil ?_
  | with_reducible refine wa_cons ?_
  | with_reducible refine we_cb ?_
  | with_reducible refine we_un ?_
  | with_reducible refine we_if ?_
  | with_reducible refine wt_and ?_
  | with_reducible refine wt_or ?_
  | with_reducible refine wt_not ?_
  | with_reducible refine wt_test ?_
  | with_reducible refine wt_B ?_
  | with_reducible refine wt_yes ?_
  | with_reducible refine we_andV ?_
  | with_reducible refine we_orV ?_
  | with_reducible refine we_notV ?_
  | with_reducible refine we_isN ?_
  | with_reducible refine we_notN ?_
  | with_reducible refine we_sl ?_
  | with_reducible refine wo_no ?_
  | with_reducible refine wo_some ?_
  | with_reducible refine we_lst ?_
  | with_reducible refine we_tup ?_
  | with_reducible refine we_call ?_
  | with_reducible refine ws_seq ?_
  | with_reducible refine ws_ret ?_
  | with_reducible refine ws_drop ?_
  | with_reducible refine ws_if ?_
  | with_reducible refine ws_next ?_
  | with_reducible refine ws_break ?_
  | with_reducible refine ws_set ?_
  | with_reducible refine ws_multi ?_
  | with_reducible refine ws_asg ?_
  | with_reducible refine we_lc ?_
  | with_reducible refine we_dc ?_
  | with_reducible refine ws_for ?_
  | with_reducible refine wi_seq ?_
  | with_reducible refine wi_enum ?_
  | with_reducible refine wi_zip ?_
  | with_reducible refine wi_range1 ?_
  | with_reducible refine wi_str ?_
  | with_reducible refine we_dnewK ?_
  | ((with_reducible show WE _ (tVar _) _ _); first | refine we_var rfl ?_ | refine we_varO rfl ?_)
  | ((with_reducible show WE _ (tFld _ _ _) _ _); first | refine we_touched (by assumption) ?_ | refine we_every (by assumption) ?_)
  | ((with_reducible show W2 _ (rIxA _) _ _ _ _); first | refine w2_ixCr rfl rfl (by assumption) (by assumption) ?_ | refine w2_ixLog rfl rfl (by assumption) (by assumption) ?_ | refine w2_ixLogT rfl rfl (by assumption) (by assumption) ?_)
  | ((with_reducible show W2 _ (rInA _ _) _ _ _ _); first | refine w2_inCr rfl rfl ?_ | refine w2_inS rfl (.inl rfl) ?_ | refine w2_inS rfl (.inr rfl) ?_ | refine w2_ninS rfl (.inl rfl) ?_ | refine w2_ninS rfl (.inr rfl) ?_)
  | ((with_reducible show W2 _ (rI0 _) _ _ _ _); refine w2_I0 rfl rfl ?_)
  | ((with_reducible show W2 _ (rEqA _) _ _ _ _); first | refine w2_eqStr rfl rfl ?_ | refine w2_eqInt rfl rfl ?_ | refine w2_eqBl rfl rfl ?_)
  | ((with_reducible show W2 _ (rNeA _) _ _ _ _); first | refine w2_neStr rfl rfl ?_ | refine w2_neInt rfl rfl ?_ | refine w2_neBl rfl rfl ?_)
  | ((with_reducible show W2 _ (rAddA _) _ _ _ _); refine w2_addI rfl rfl ?_)
  | ((with_reducible show WR _ (rLenA _) _ _ _); first | refine wr_len (.inl rfl) ?_ | refine wr_len (.inr rfl) ?_ | refine wr_lenD rfl ?_)
  | ((with_reducible show WR _ (rListA _) _ _ _); first | refine wr_list (.inl rfl) ?_ | refine wr_list (.inr rfl) ?_ | refine wr_listK rfl ?_ | refine wr_listD rfl ?_)
  | ((with_reducible show WR _ (rTupA _) _ _ _); first | refine wr_tup (.inl rfl) ?_ | refine wr_tup (.inr rfl) ?_)
  | ((with_reducible show WR _ (rIsiA _) _ _ _); first | refine wr_isi rfl rfl (by decide) ?_ | refine wr_isiT ["list", "tuple"] rfl rfl (by decide) rfl ?_)
  | ((with_reducible show W3 _ (rSlLT _) _ _ _ _ _); first | refine w3_L rfl ?_ | refine w3_T rfl ?_)
  | with_reducible refine wg_name (by first | exact True.intro | decide) ?_
  | ((with_reducible show WGs _ _ gNil _ _ _); refine wgs_nil ?_)
  | ((with_reducible show WGs _ _ (gCons _ _) _ _ _); refine wgs_cons rfl ?_)
  | ((with_reducible show WG _ _ (gTup _ _ _) _ _ _); refine wg_tup rfl rfl ?_)
  | refine ⟨_, (rfl : asg _ _ _ = _), ?_⟩
  | refine ⟨_, _, (rfl : fzA _ _ _ = _), le_lineB rfl, ?_⟩
  | refine ⟨_, (rfl : SV.d _ = _), ?_⟩
  | refine ⟨_, (rfl : vw _ _ = _), ?_⟩
  | refine ⟨(rfl : nraw _ = true), ?_⟩
  | refine ⟨(rfl : List.length _ = _), le_lineB rfl, rfl, ?_⟩)
local macro_rules | `(tactic| walk_at "S") => `(tactic| repeat walk_at "s")
/-- what is walked -/
local macro_rules | `(tactic| walk_at "w") => `(tactic| first | refine ⟨_, _, .inl rfl, ?_⟩ | refine ⟨_, _, .inr rfl, ?_⟩ | refine ⟨_, _, _, rfl, .inl rfl, ?_⟩ | refine ⟨_, _, _, rfl, .inr rfl, ?_⟩)
section
variable {K : PySem.W.Frag} {A : Ad} {te : TE} {ρ : List SV} {C : SV → List SV → Prop} {x y : SV} {cr : Crw}
theorem team_t (cr : Crw) : List.lookup ("touched" : Str) (teamF cr) = some (crD cr) := rfl
theorem team_e (cr : Crw) : List.lookup ("every" : Str) (teamF cr) = some (.tup (sD (every cr))) := rfl
theorem we_touched (Q : CrewOk K A) (h : WE K te ρ fun z ρ1 => ∃ cr, vw z ρ1 = some (teamD A cr) ∧ C (.d (crD cr)) ρ1) : WE K (tFld K te "touched") ρ C :=
  we_fld fun b σ H θ τ Q' S q => h b σ H θ τ Q' S fun z ρ1 v H1 ⟨cr, h1, h2⟩ S1 => q z ρ1 v H1 ⟨_, _, _, h1, Q.cls, Q.nT, team_t cr, h2⟩ S1
theorem we_every (Q : CrewOk K A) (h : WE K te ρ fun z ρ1 => ∃ cr, vw z ρ1 = some (teamD A cr) ∧ C (.d (.tup (sD (every cr)))) ρ1) : WE K (tFld K te "every") ρ C :=
  we_fld fun b σ H θ τ Q' S q => h b σ H θ τ Q' S fun z ρ1 v H1 ⟨cr, h1, h2⟩ S1 => q z ρ1 v H1 ⟨_, _, _, h1, Q.cls, Q.nE, team_e cr, h2⟩ S1
theorem path_touched (Q : CrewOk K A) {i : Nat} (h : ρ[i]? = some (.d (teamD A cr))) : PathK K (tFld K (tVar i) "touched") ρ (cr.map fun p => (Sum.inr p.1, .tup (sD p.2))) := path_fld h Q.cls Q.nT (team_t cr)
theorem w2_ixCr {d : Str} (hx : vw x ρ = some (crD cr)) (hy : vw y ρ = some (.str d)) (G : Good cr) (hd : d ∈ keysOf cr) (k : C (.d (.tup (sD (hsOf cr d)))) ρ) : W2 K (rIxA K) x y ρ C := by
  obtain ⟨p, hp, e1, e2, e3⟩ := G.at hd
  subst e1
  rw [e2] at k
  exact w2_ixK hx hy rfl (look_map (f := fun p => D.tup (sD p.2)) G.nd hp) k
theorem isSome_look {α : Type} {kf : α → Str} {f : α → D} {l : List α} {k : Str} : (lookD (l.map fun a => ((Sum.inr (kf a) : Key), f a)) (Sum.inr k)).isSome = decide (k ∈ l.map kf) := by
  induction l with
  | nil => rfl
  | cons a l ih =>
    by_cases e : kf a = k
    · subst e; simp [lookD]
    · have e2 : ¬ k = kf a := fun z => e z.symm
      have : lookD (((a :: l)).map fun a => ((Sum.inr (kf a) : Key), f a)) (Sum.inr k) = lookD (l.map fun a => ((Sum.inr (kf a) : Key), f a)) (Sum.inr k) := by simp [lookD, List.find?_cons, e]
      rw [this, ih]
      simp [e2]
theorem w2_inCr {d : Str} (hx : vw x ρ = some (.str d)) (hy : vw y ρ = some (crD cr)) (k : C (.d (.bl (decide (d ∈ keysOf cr)))) ρ) : W2 K (rInA K false) x y ρ C :=
  w2_inK hy hx rfl (by rw [if_neg (by decide), isSome_look (kf := fun p => p.1) (f := fun p : Str × List Str => D.tup (sD p.2))]; exact k)
theorem w2_inS {s : Str} {l : List Str} (hx : vw x ρ = some (.str s)) (hy : vw y ρ = some (.lst (sD l)) ∨ vw y ρ = some (.tup (sD l))) (k : C (.d (.bl (decide (s ∈ l)))) ρ) : W2 K (rInA K false) x y ρ C :=
  w2_inSeq hy hx (by rw [if_neg (by decide)]; exact k)
theorem w2_ninS {s : Str} {l : List Str} (hx : vw x ρ = some (.str s)) (hy : vw y ρ = some (.lst (sD l)) ∨ vw y ρ = some (.tup (sD l))) (k : C (.d (.bl (!decide (s ∈ l)))) ρ) : W2 K (rInA K true) x y ρ C :=
  w2_inSeq hy hx (by rw [if_pos rfl]; exact k)
theorem w2_ixLog {f : Str → List Str} {h : Str} (hx : vw x ρ = some (logsD cr f)) (hy : vw y ρ = some (.str h)) (G : Good cr) (hh : h ∈ every cr) (k : C (.d (.lst (sD (f h)))) ρ) : W2 K (rIxA K) x y ρ C :=
  w2_ixK hx hy rfl (look_map (kf := fun h => h) (f := fun h => D.lst (sD (f h))) (by rw [List.map_id']; exact G.every_nd) hh) k
theorem w2_ixLogT {f : Str → List Str} {h : Str} (hx : vw x ρ = some (logsT cr f)) (hy : vw y ρ = some (.str h)) (G : Good cr) (hh : h ∈ every cr) (k : C (.d (.tup (sD (f h)))) ρ) : W2 K (rIxA K) x y ρ C :=
  w2_ixK hx hy rfl (look_map (kf := fun h => h) (f := fun h => D.tup (sD (f h))) (by rw [List.map_id']; exact G.every_nd) hh) k
theorem w2_eqS {l m : List Str} (hx : vw x ρ = some (.lst (sD l))) (hy : vw y ρ = some (.lst (sD m))) (sl : okS l) (sm : okS m) (k : C (.d (.bl (decide (l = m)))) ρ) : W2 K (rEqA K) x y ρ C := w2_eqLS hx hy sl sm k
theorem w2_neS {l m : List Str} (hx : vw x ρ = some (.lst (sD l))) (hy : vw y ρ = some (.lst (sD m))) (sl : okS l) (sm : okS m) (k : C (.d (.bl (!decide (l = m)))) ρ) : W2 K (rNeA K) x y ρ C := w2_neLS hx hy sl sm k
theorem okS_nil : okS [] := fun _ h => nomatch h
theorem Sub.ok {l : List Str} (G : Good cr) (h : Sub cr l) : okS l := ok_of fun s hs => G.key_nm (h s hs)
theorem ok_hn {l : List Str} (h : ∀ s ∈ l, s ∈ HN) : okS l := ok_of fun s hs => hn_nm (h s hs)
theorem seq_vw {b : Bool} {l : List Str} {ρ : List SV} : vw (.d (seqD b l)) ρ = some (.lst (sD l)) ∨ vw (.d (seqD b l)) ρ = some (.tup (sD l)) := by
  cases b
  · exact .inr rfl
  · exact .inl rfl
theorem seq_fz {b : Bool} {l : List Str} {ρ : List SV} : fzT (.d (seqD b l)) ρ = some (.lst (sD l), ρ) ∨ fzT (.d (seqD b l)) ρ = some (.tup (sD l), ρ) := by
  cases b
  · exact .inr rfl
  · exact .inl rfl
theorem filter_nil {α : Type} [DecidableEq α] {p : α → Bool} {l : List α} : (decide (l.filter p = ([] : List α)) : Bool) = true ↔ ∀ a ∈ l, p a = false := by
  rw [decide_eq_true_iff, List.filter_eq_nil_iff]
  exact ⟨fun h a ha => by simpa using h a ha, fun h a ha => by simp [h a ha]⟩
end
end K61

set_option Elab.async false
set_option linter.all false
set_option maxRecDepth 100000
namespace K61
open PySem PySem.Spec L2 DL
local macro_rules | `(tactic| walk_at "s") => `(tactic| first
  | with_reducible refine we_op ?_
  | with_reducible refine we_c ?_
  | with_reducible refine wa_nil ?_
  | with_reducible refine wa_cons ?_
  | with_reducible refine we_cb ?_
  | with_reducible refine we_un ?_
  | with_reducible refine we_if ?_
  | with_reducible refine wt_and ?_
  | with_reducible refine wt_or ?_
  | with_reducible refine wt_not ?_
  | with_reducible refine wt_test ?_
  | with_reducible refine wt_B ?_
  | with_reducible refine wt_yes ?_
  | with_reducible refine we_andV ?_
  | with_reducible refine we_orV ?_
  | with_reducible refine we_notV ?_
  | with_reducible refine we_isN ?_
  | with_reducible refine we_notN ?_
  | with_reducible refine we_sl ?_
  | with_reducible refine wo_no ?_
  | with_reducible refine wo_some ?_
  | with_reducible refine we_lst ?_
  | with_reducible refine we_tup ?_
  | with_reducible refine we_call ?_
  | with_reducible refine ws_seq ?_
  | with_reducible refine ws_ret ?_
  | with_reducible refine ws_drop ?_
  | with_reducible refine ws_if ?_
  | with_reducible refine ws_next ?_
  | with_reducible refine ws_break ?_
  | with_reducible refine ws_set ?_
  | with_reducible refine ws_multi ?_
  | with_reducible refine ws_asg ?_
  | with_reducible refine we_lc ?_
  | with_reducible refine we_dc ?_
  | with_reducible refine ws_for ?_
  | with_reducible refine wi_seq ?_
  | with_reducible refine wi_enum ?_
  | with_reducible refine wi_zip ?_
  | with_reducible refine wi_range1 ?_
  | with_reducible refine wi_str ?_
  | with_reducible refine we_dnewK ?_
  | ((with_reducible show WE _ (tVar _) _ _); first | refine we_var rfl ?_ | refine we_varO rfl ?_)
  | ((with_reducible show WE _ (tFld _ _ _) _ _); first | refine we_touched (by assumption) ?_ | refine we_every (by assumption) ?_)
  | ((with_reducible show W2 _ (rIxA _) _ _ _ _); first | refine w2_ixCr rfl rfl (by assumption) (by assumption) ?_ | refine w2_ixLog rfl rfl (by assumption) (by assumption) ?_ | refine w2_ixLogT rfl rfl (by assumption) (by assumption) ?_)
  | ((with_reducible show W2 _ (rInA _ _) _ _ _ _); first | refine w2_inCr rfl rfl ?_ | refine w2_inS rfl (.inl rfl) ?_ | refine w2_inS rfl (.inr rfl) ?_ | refine w2_ninS rfl (.inl rfl) ?_ | refine w2_ninS rfl (.inr rfl) ?_)
  | ((with_reducible show W2 _ (rI0 _) _ _ _ _); refine w2_I0 rfl rfl ?_)
  | ((with_reducible show W2 _ (rEqA _) _ _ _ _); first | refine w2_eqStr rfl rfl ?_ | refine w2_eqInt rfl rfl ?_ | refine w2_eqBl rfl rfl ?_)
  | ((with_reducible show W2 _ (rNeA _) _ _ _ _); first | refine w2_neStr rfl rfl ?_ | refine w2_neInt rfl rfl ?_ | refine w2_neBl rfl rfl ?_)
  | ((with_reducible show W2 _ (rAddA _) _ _ _ _); refine w2_addI rfl rfl ?_)
  | ((with_reducible show WR _ (rLenA _) _ _ _); first | refine wr_len (.inl rfl) ?_ | refine wr_len (.inr rfl) ?_ | refine wr_lenD rfl ?_)
  | ((with_reducible show WR _ (rListA _) _ _ _); first | refine wr_list (.inl rfl) ?_ | refine wr_list (.inr rfl) ?_ | refine wr_listK rfl ?_ | refine wr_listD rfl ?_)
  | ((with_reducible show WR _ (rTupA _) _ _ _); first | refine wr_tup (.inl rfl) ?_ | refine wr_tup (.inr rfl) ?_)
  | ((with_reducible show WR _ (rIsiA _) _ _ _); first | refine wr_isi rfl rfl (by decide) ?_ | refine wr_isiT ["list", "tuple"] rfl rfl (by decide) rfl ?_)
  | ((with_reducible show W3 _ (rSlLT _) _ _ _ _ _); first | refine w3_L rfl ?_ | refine w3_T rfl ?_)
  | with_reducible refine wg_name (by first | exact True.intro | decide) ?_
  | ((with_reducible show WGs _ _ gNil _ _ _); refine wgs_nil ?_)
  | ((with_reducible show WGs _ _ (gCons _ _) _ _ _); refine wgs_cons rfl ?_)
  | ((with_reducible show WG _ _ (gTup _ _ _) _ _ _); refine wg_tup rfl rfl ?_)
  | refine ⟨_, (rfl : asg _ _ _ = _), ?_⟩
  | refine ⟨_, _, (rfl : fzA _ _ _ = _), le_lineB rfl, ?_⟩
  | refine ⟨_, (rfl : SV.d _ = _), ?_⟩
  | refine ⟨_, (rfl : vw _ _ = _), ?_⟩
  | refine ⟨(rfl : nraw _ = true), ?_⟩
  | refine ⟨(rfl : List.length _ = _), le_lineB rfl, rfl, ?_⟩)
local macro_rules | `(tactic| walk_at "S") => `(tactic| repeat walk_at "s")
/-- what is walked -/
local macro_rules | `(tactic| walk_at "w") => `(tactic| first | refine ⟨_, _, .inl rfl, ?_⟩ | refine ⟨_, _, .inr rfl, ?_⟩ | refine ⟨_, _, _, rfl, .inl rfl, ?_⟩ | refine ⟨_, _, _, rfl, .inr rfl, ?_⟩)
section
variable {K : PySem.W.Frag} {A : Ad}
theorem w_apart (Q : CrewOk K A) {ds : List D} (hp : preApart A ds) : WS K (t_apart K A) (slots ["crew", "deed", "other", "hand"] (ds.map SV.d)) (endP (postApart A) ds) := by
  obtain ⟨cr, a, b, G, rfl, ha, hb⟩ := hp
  have ha5 := G.hs_len ha
  show WS K _ [.d (teamD A cr), .d (.str a), .d (.str b), .any] _
  unfold t_apart
  have fin : ∀ ρ, (endP (postApart A) [teamD A cr, .str a, .str b]).rt (.d (.bl (!decide (a = b) && dis cr a b))) ρ := fun ρ => ⟨_, _, rfl, fun cr' a' b' G' e => by
    simp only [List.cons.injEq, D.str.injEq] at e
    obtain ⟨e1, e2, e3, _⟩ := e
    rw [team_inj e1, e2, e3]⟩
  walk_at "S"
  by_cases e : a = b
  · rw [decide_eq_true e]
    refine ifF rfl ?_
    have := fin [.d (teamD A cr), .d (.str a), .d (.str b), .any]
    rw [decide_eq_true e] at this
    exact this
  · rw [decide_eq_false e]
    refine ifT rfl ?_
    walk_at "S"
    walk_at "w"
    refine lcP (hsOf cr a) D.str (fun h => decide (h ∈ hsOf cr b)) D.str rfl (le_line (by omega)) (fun h hh => ?_) ?_
    · walk_at "S"
      refine ⟨rfl, ?_, ?_⟩
      · intro _
        walk_at "S"
        exact ⟨_, rfl, rfl⟩
      · intro _; rfl
    · walk_at "S"
      refine w2_eqS (l := (hsOf cr a).filter fun h => decide (h ∈ hsOf cr b)) (m := []) rfl rfl (ok_hn fun s hs => G.hn ha s ((List.mem_filter.mp hs).1)) okS_nil ?_
      have h2 := fin (wipeS [.d (teamD A cr), .d (.str a), .d (.str b), .any] [3])
      rw [decide_eq_false e] at h2
      have e2 : decide ((hsOf cr a).filter (fun h => decide (h ∈ hsOf cr b)) = []) = dis cr a b := by
        rw [Bool.eq_iff_iff, filter_nil, dis_iff]
        exact ⟨fun h x hx => of_decide_eq_false (h x hx), fun h x hx => decide_eq_false (h x hx)⟩
      rw [e2]
      exact h2
theorem w_is_row (Q : CrewOk K A) {ds : List D} (hp : preRow A ds) : WS K (t_is_row K A) (slots ["crew", "thing", "deed"] (ds.map SV.d)) (endP postTrue ds) := by
  obtain ⟨cr, b, l, G, rfl, hl, hz⟩ := hp
  unfold t_is_row
  have main : ∀ ρ : List SV, ρ = [.d (teamD A cr), .d (seqD b l), .any] → WS K (tRet (tCB (rAll K) (tCons (tLc (iSeq K (tVar 1)) (gName 2) (tYes) (tAndV (tCB (rIsiA K) (tCons (tVar 2) (tCons (tC (.ty "str")) (tNil)))) (tOp (rInA K false) (tVar 2) (tFld K (tVar 0) "touched"))) [2]) (tNil)))) ρ (endP postTrue [teamD A cr, seqD b l]) := by
    rintro ρ rfl
    walk_at "S"
    refine ⟨_, _, seq_fz, ?_⟩
    refine lcM l D.str (fun _ => .bl true) rfl (le_line (by omega)) (fun d hd => ?_) ?_
    · walk_at "S"
      refine ifT rfl ?_
      walk_at "S"
      rw [decide_eq_true (hl d hd)]
      exact ⟨_, rfl, rfl⟩
    · walk_at "S"
      refine wr_allF (l := l) (f := fun _ => true) rfl ?_
      exact ⟨_, _, rfl, by show D.bl _ = D.bl true; simp⟩
  cases b
  · show WS K _ [.d (teamD A cr), .d (.tup (sD l)), .any] _
    walk_at "S"
    refine ifF rfl ?_
    walk_at "S"
    refine ifF (decide_eq_false (by rw [sD_len]; omega)) ?_
    refine ws_next ?_
    exact main _ rfl
  · show WS K _ [.d (teamD A cr), .d (.lst (sD l)), .any] _
    walk_at "S"
    refine ifF rfl ?_
    walk_at "S"
    refine ifF (decide_eq_false (by rw [sD_len]; omega)) ?_
    refine ws_next ?_
    exact main _ rfl
theorem row_end {cr : Crw} {b : Bool} {l : List Str} {ρ : List SV} : (endP postRow [teamD A cr, seqD b l]).rt (.d (.tup (sD l))) ρ := ⟨_, _, rfl, fun t b' l' e => by
  simp only [List.cons.injEq] at e
  rw [seq_inj e.2.1]⟩
theorem w_need_row (Q : CrewOk K A) {ds : List D} (hp : preRow A ds) : WS K (t_need_row K A (sp_is_row K A) (sp_need_crew K A)) (slots ["crew", "row"] (ds.map SV.d)) (endP postRow ds) := by
  obtain ⟨cr, b, l, G, rfl, hl, hz⟩ := hp
  show WS K _ [.d (teamD A cr), .d (seqD b l)] _
  unfold t_need_row
  walk_at "S"
  refine ⟨_, _, rfl, ⟨cr, G, rfl⟩, fun d hd => ?_⟩
  have hd : d = teamD A cr := by simpa using hd.symm
  subst hd
  walk_at "S"
  refine ⟨_, _, rfl, ⟨cr, b, l, G, rfl, hl, hz⟩, fun d hd => ⟨true, congrArg SV.d hd, ifF rfl ?_⟩⟩
  walk_at "S"
  refine wr_tup seq_vw ?_
  exact row_end
theorem w_need_second (Q : CrewOk K A) {ds : List D} (hp : preRow A ds) : WS K (t_need_second K A (sp_is_row K A)) (slots ["crew", "second"] (ds.map SV.d)) (endP postRow ds) := by
  obtain ⟨cr, b, l, G, rfl, hl, hz⟩ := hp
  show WS K _ [.d (teamD A cr), .d (seqD b l)] _
  unfold t_need_second
  walk_at "S"
  refine ⟨_, _, rfl, ⟨cr, b, l, G, rfl, hl, hz⟩, fun d hd => ⟨true, congrArg SV.d hd, ifF rfl ?_⟩⟩
  walk_at "S"
  refine wr_tup seq_vw ?_
  exact row_end
theorem w_seen_by (Q : CrewOk K A) {ds : List D} (hp : preSeen A ds) : WS K (t_seen_by K A) (slots ["crew", "row", "hand", "deed"] (ds.map SV.d)) (endP (postSeen A) ds) := by
  obtain ⟨cr, b, l, h, G, rfl, hl, hz⟩ := hp
  show WS K _ [.d (teamD A cr), .d (seqD b l), .d (.str h), .any] _
  unfold t_seen_by
  walk_at "S"
  refine ⟨_, _, seq_fz, ?_⟩
  refine lcP l D.str (fun d => decide (h ∈ hsOf cr d)) D.str rfl (le_line (by omega)) (fun d hd => ?_) ?_
  · have hk := hl d hd
    walk_at "S"
    refine ⟨rfl, ?_, ?_⟩
    · intro _
      walk_at "S"
      exact ⟨_, rfl, rfl⟩
    · intro _; rfl
  · refine ⟨_, _, rfl, fun cr' b' l' h' G' e => ?_⟩
    simp only [List.cons.injEq, D.str.injEq] at e
    obtain ⟨e1, e2, e3, _⟩ := e
    have e1 := team_inj e1
    have e2 := seq_inj e2
    subst e1 e2 e3
    rfl
theorem w_logs_of (Q : CrewOk K A) {ds : List D} (hp : preRow A ds) : WS K (t_logs_of K A (sp_need_row K A) (sp_seen_by K A)) (slots ["crew", "row", "plain", "hand"] (ds.map SV.d)) (endP (postLogs A) ds) := by
  obtain ⟨cr, b, l, G, rfl, hl, hz⟩ := hp
  show WS K _ [.d (teamD A cr), .d (seqD b l), .any, .any] _
  unfold t_logs_of
  walk_at "S"
  refine ⟨_, _, rfl, ⟨cr, b, l, G, rfl, hl, hz⟩, fun d hd => ?_⟩
  have hd := hd _ _ _ rfl
  subst hd
  walk_at "S"
  walk_at "w"
  refine dcM (every cr) D.str Sum.inr (fun h => .lst (sD (saw cr l h))) rfl (le_line (by have := G.every_len; omega)) (fun h hh => ?_) ?_
  · walk_at "S"
    refine ⟨rfl, ?_⟩
    walk_at "S"
    refine ⟨_, _, rfl, ⟨cr, false, l, h, G, rfl, hl, hz⟩, fun d hd => ?_⟩
    have hd := hd cr false l h G rfl
    subst hd
    exact ⟨_, rfl, rfl⟩
  · refine ⟨_, _, rfl, fun cr' b' l' G' e => ?_⟩
    simp only [List.cons.injEq] at e
    obtain ⟨e1, e2, _⟩ := e
    have e1 := team_inj e1
    have e2 := seq_inj e2
    subst e1 e2
    show D.dK _ = logsD _ _
    rw [mergeD_nd]
    · rfl
    · rw [List.map_map]
      exact G.every_nd.map _ fun a b h e => h (Sum.inr.inj e)
end
end K61

set_option Elab.async false
set_option linter.all false
set_option maxRecDepth 100000
namespace K61
open PySem PySem.Spec L2 DL
local macro_rules | `(tactic| walk_at "s") => `(tactic| first
  | with_reducible refine we_op ?_
  | with_reducible refine we_c ?_
  | with_reducible refine wa_nil ?_
  | with_reducible refine wa_cons ?_
  | with_reducible refine we_cb ?_
  | with_reducible refine we_un ?_
  | with_reducible refine we_if ?_
  | with_reducible refine wt_and ?_
  | with_reducible refine wt_or ?_
  | with_reducible refine wt_not ?_
  | with_reducible refine wt_test ?_
  | with_reducible refine wt_B ?_
  | with_reducible refine wt_yes ?_
  | with_reducible refine we_andV ?_
  | with_reducible refine we_orV ?_
  | with_reducible refine we_notV ?_
  | with_reducible refine we_isN ?_
  | with_reducible refine we_notN ?_
  | with_reducible refine we_sl ?_
  | with_reducible refine wo_no ?_
  | with_reducible refine wo_some ?_
  | with_reducible refine we_lst ?_
  | with_reducible refine we_tup ?_
  | with_reducible refine we_call ?_
  | with_reducible refine ws_seq ?_
  | with_reducible refine ws_ret ?_
  | with_reducible refine ws_drop ?_
  | with_reducible refine ws_if ?_
  | with_reducible refine ws_next ?_
  | with_reducible refine ws_break ?_
  | with_reducible refine ws_set ?_
  | with_reducible refine ws_multi ?_
  | with_reducible refine ws_asg ?_
  | with_reducible refine we_lc ?_
  | with_reducible refine we_dc ?_
  | with_reducible refine ws_for ?_
  | with_reducible refine wi_seq ?_
  | with_reducible refine wi_enum ?_
  | with_reducible refine wi_zip ?_
  | with_reducible refine wi_range1 ?_
  | with_reducible refine wi_str ?_
  | with_reducible refine we_dnewK ?_
  | ((with_reducible show WE _ (tVar _) _ _); first | refine we_var rfl ?_ | refine we_varO rfl ?_)
  | ((with_reducible show WE _ (tFld _ _ _) _ _); first | refine we_touched (by assumption) ?_ | refine we_every (by assumption) ?_)
  | ((with_reducible show W2 _ (rIxA _) _ _ _ _); first | refine w2_ixCr rfl rfl (by assumption) (by assumption) ?_ | refine w2_ixLog rfl rfl (by assumption) (by assumption) ?_ | refine w2_ixLogT rfl rfl (by assumption) (by assumption) ?_)
  | ((with_reducible show W2 _ (rInA _ _) _ _ _ _); first | refine w2_inCr rfl rfl ?_ | refine w2_inS rfl (.inl rfl) ?_ | refine w2_inS rfl (.inr rfl) ?_ | refine w2_ninS rfl (.inl rfl) ?_ | refine w2_ninS rfl (.inr rfl) ?_)
  | ((with_reducible show W2 _ (rI0 _) _ _ _ _); refine w2_I0 rfl rfl ?_)
  | ((with_reducible show W2 _ (rEqA _) _ _ _ _); first | refine w2_eqStr rfl rfl ?_ | refine w2_eqInt rfl rfl ?_ | refine w2_eqBl rfl rfl ?_)
  | ((with_reducible show W2 _ (rNeA _) _ _ _ _); first | refine w2_neStr rfl rfl ?_ | refine w2_neInt rfl rfl ?_ | refine w2_neBl rfl rfl ?_)
  | ((with_reducible show W2 _ (rAddA _) _ _ _ _); refine w2_addI rfl rfl ?_)
  | ((with_reducible show WR _ (rLenA _) _ _ _); first | refine wr_len (.inl rfl) ?_ | refine wr_len (.inr rfl) ?_ | refine wr_lenD rfl ?_)
  | ((with_reducible show WR _ (rListA _) _ _ _); first | refine wr_list (.inl rfl) ?_ | refine wr_list (.inr rfl) ?_ | refine wr_listK rfl ?_ | refine wr_listD rfl ?_)
  | ((with_reducible show WR _ (rTupA _) _ _ _); first | refine wr_tup (.inl rfl) ?_ | refine wr_tup (.inr rfl) ?_)
  | ((with_reducible show WR _ (rIsiA _) _ _ _); first | refine wr_isi rfl rfl (by decide) ?_ | refine wr_isiT ["list", "tuple"] rfl rfl (by decide) rfl ?_)
  | ((with_reducible show W3 _ (rSlLT _) _ _ _ _ _); first | refine w3_L rfl ?_ | refine w3_T rfl ?_)
  | with_reducible refine wg_name (by first | exact True.intro | decide) ?_
  | ((with_reducible show WGs _ _ gNil _ _ _); refine wgs_nil ?_)
  | ((with_reducible show WGs _ _ (gCons _ _) _ _ _); refine wgs_cons rfl ?_)
  | ((with_reducible show WG _ _ (gTup _ _ _) _ _ _); refine wg_tup rfl rfl ?_)
  | refine ⟨_, (rfl : asg _ _ _ = _), ?_⟩
  | refine ⟨_, _, (rfl : fzA _ _ _ = _), le_lineB rfl, ?_⟩
  | refine ⟨_, (rfl : SV.d _ = _), ?_⟩
  | refine ⟨_, (rfl : vw _ _ = _), ?_⟩
  | refine ⟨(rfl : nraw _ = true), ?_⟩
  | refine ⟨(rfl : List.length _ = _), le_lineB rfl, rfl, ?_⟩)
local macro_rules | `(tactic| walk_at "S") => `(tactic| repeat walk_at "s")
/-- what is walked -/
local macro_rules | `(tactic| walk_at "w") => `(tactic| first | refine ⟨_, _, .inl rfl, ?_⟩ | refine ⟨_, _, .inr rfl, ?_⟩ | refine ⟨_, _, _, rfl, .inl rfl, ?_⟩ | refine ⟨_, _, _, rfl, .inr rfl, ?_⟩)
section
variable {cr : Crw} {l m : List Str} {d x : Str}
theorem cut_from1 (l : List Str) (i : Nat) : cutL (sD l) (some ((i : Int) + 1)) none = sD (l.drop (i + 1)) := cut_from l (i + 1)
theorem cut_one (l : List Str) (i : Nat) : cutL (sD l) (some (i : Int)) (some ((i : Int) + 1)) = sD ((l.drop i).take 1) := by
  have e : cutL (sD l) (some (i : Int)) (some ((i : Int) + 1)) = cutL (sD l) (some (i : Int)) (some ((i + 1 : Nat) : Int)) := rfl
  rw [e, cutL_mid]
  unfold sD
  rw [← List.map_drop, ← List.map_take, Nat.add_sub_cancel_left]
theorem take_no (h : ∀ o ∈ l, o ≠ d) : takeF cr l d = none := by
  induction l with
  | nil => rfl
  | cons a l ih =>
    unfold takeF
    rw [if_neg (h a (by simp)), ih fun o ho => h o (by simp [ho])]
    split <;> rfl
theorem take_stop : ∀ {l : List Str} {i : Nat}, (∀ o ∈ l.take i, o ≠ d) → l[i]? = some x → x ≠ d → dis cr d x = false → takeF cr l d = none
  | [], i, _, e, _, _ => by simp at e
  | a :: l, 0, _, e, h1, h2 => by
    simp only [List.getElem?_cons_zero, Option.some.injEq] at e
    subst e
    unfold takeF
    rw [if_neg h1, if_neg (by rw [h2]; exact Bool.false_ne_true)]
  | a :: l, i + 1, h, e, h1, h2 => by
    simp only [List.getElem?_cons_succ] at e
    unfold takeF
    rw [if_neg (h a (by simp)), take_stop (i := i) (fun o ho => h o (by simp [ho])) e h1 h2]
    split <;> rfl
theorem rest_snoc : ∀ {m l : List Str}, restF cr l (m ++ [d]) = (restF cr l m).bind fun x => takeF cr x d
  | [], l => by
    show restF cr l [d] = takeF cr l d
    unfold restF
    cases takeF cr l d <;> rfl
  | a :: m, l => by
    show restF cr l (a :: (m ++ [d])) = (restF cr l (a :: m)).bind fun x => takeF cr x d
    unfold restF
    cases takeF cr l a with
    | none => rfl
    | some l' => exact rest_snoc
theorem get_enum {i : Nat} {y : D} (h : (enumD (sD l))[i]? = some y) : ∃ x, l[i]? = some x ∧ y = .tup [.int (i : Nat), .str x] := by
  obtain ⟨a, h1, h2⟩ := enumD_get h
  unfold sD at h1
  obtain ⟨x, h3, rfl⟩ := get_map h1
  exact ⟨x, h3, h2⟩
theorem sD_line (h : l.length ≤ 1000000) : (sD l).length ≤ sizeLine := by rw [sD_len]; exact le_line h
end
section
variable {K : PySem.W.Frag} {A : Ad}
theorem w_taken (Q : CrewOk K A) {ds : List D} (hp : preTaken A ds) : WS K (t_taken K A (sp_apart K A)) (slots ["crew", "row", "deed", "at", "other"] (ds.map SV.d)) (endP (postTaken A) ds) := by
  obtain ⟨cr, l, d, G, rfl, hl, hd, hz⟩ := hp
  show WS K _ [.d (teamD A cr), .d (.tup (sD l)), .d (.str d), .any, .any] _
  have fin : ∀ z ρ ρ' x, fzT z ρ = some (x, ρ') → x = optT (takeF cr l d) → (endP (postTaken A) [teamD A cr, .tup (sD l), .str d]).rt z ρ := fun z ρ ρ' x h e => ⟨x, ρ', h, fun cr' l' d' G' q => by
    simp only [List.cons.injEq, D.tup.injEq, D.str.injEq] at q
    obtain ⟨e1, e2, e3, _⟩ := q
    rw [e, team_inj e1, sD_inj e2, e3]⟩
  unfold t_taken
  walk_at "S"
  walk_at "w"
  refine ⟨fun i ρ2 => (∃ s t, ρ2 = [.d (teamD A cr), .d (.tup (sD l)), .d (.str d), s, t]) ∧ ∀ o ∈ l.take i, o ≠ d ∧ dis cr d o = true, ⟨⟨_, _, rfl⟩, by simp⟩, ?_, ?_⟩
  · rintro i y ρ2 hy ⟨⟨s, t, rfl⟩, ha⟩
    obtain ⟨x, hx, rfl⟩ := get_enum hy
    have hxk := hl x (List.mem_of_getElem? hx)
    have hi : i < l.length := (List.getElem?_eq_some_iff.mp hx).1
    walk_at "S"
    by_cases e : x = d
    · subst e
      refine ifT (by simp) ?_
      walk_at "S"
      rw [cut_to, cut_from1]
      refine w2_addT rfl rfl (le_line (by rw [sD_len, sD_len, List.length_take, List.length_drop]; omega)) ?_
      rw [← sD_app, cut_erase]
      exact fin _ _ _ _ rfl (by rw [front_take G.hands hl hx fun o ho => (ha o ho).2]; rfl)
    · refine ifF (by simp [e]) ?_
      walk_at "S"
      refine ⟨_, _, rfl, ⟨cr, d, x, G, rfl, hd, hxk⟩, fun z hz => ?_⟩
      have hz := hz cr d x G rfl
      subst hz
      walk_at "S"
      have e' : ¬ d = x := fun z => e z.symm
      rw [decide_eq_false e']
      cases q : dis cr d x with
      | false =>
        refine ifT rfl ?_
        walk_at "S"
        exact fin _ _ _ _ rfl (by rw [take_stop (fun o ho => (ha o ho).1) hx e q]; rfl)
      | true =>
        refine ifF rfl ?_
        walk_at "S"
        refine ⟨⟨_, _, rfl⟩, fun o ho => ?_⟩
        rw [List.take_add_one, hx] at ho
        rcases List.mem_append.mp ho with z | z
        · exact ha o z
        · have : o = x := by simpa using z
          subst this
          exact ⟨e, q⟩
  · rintro ρ2 ⟨⟨s, t, rfl⟩, ha⟩
    rw [enumD_len, sD_len, List.take_length] at ha
    walk_at "S"
    exact fin _ _ _ _ rfl (by rw [take_no fun o ho => (ha o ho).1]; rfl)
theorem w_rest_by (Q : CrewOk K A) {ds : List D} (hp : preTwo A ds) : WS K (t_rest_by K A (sp_taken K A)) (slots ["crew", "row", "second", "deed"] (ds.map SV.d)) (endP (postRest A) ds) := by
  obtain ⟨cr, l, m, G, rfl, hl, hm, hz, hz2⟩ := hp
  show WS K _ [.d (teamD A cr), .d (.tup (sD l)), .d (.tup (sD m)), .any] _
  unfold t_rest_by
  walk_at "S"
  walk_at "w"
  refine ⟨fun i ρ2 => ∃ s, ρ2 = [.d (teamD A cr), .d (optT (restF cr l (m.take i))), .d (.tup (sD m)), s], ⟨_, rfl⟩, ?_, ?_⟩
  · rintro i y ρ2 hy ⟨s, rfl⟩
    obtain ⟨d, hd, rfl⟩ := get_map hy
    have e : restF cr l (m.take (i + 1)) = (restF cr l (m.take i)).bind fun x => takeF cr x d := by rw [List.take_add_one, hd]; exact rest_snoc
    cases q : restF cr l (m.take i) with
    | none =>
      show WG K _ _ _ [.d (teamD A cr), .d .non, .d (.tup (sD m)), s] _
      walk_at "S"
      refine ifT rfl ?_
      walk_at "S"
      exact ⟨_, by rw [e, q]; rfl⟩
    | some r =>
      obtain ⟨r1, r2, r3⟩ := rest_saw q
      show WG K _ _ _ [.d (teamD A cr), .d (.tup (sD r)), .d (.tup (sD m)), s] _
      walk_at "S"
      refine ifF rfl ?_
      walk_at "S"
      refine ⟨_, _, rfl, ⟨cr, r, d, G, rfl, fun x hx => hl x (r3 x hx), hm d (List.mem_of_getElem? hd), by omega⟩, fun z hz => ?_⟩
      have hz := hz cr r d G rfl
      subst hz
      walk_at "S"
      exact ⟨_, by rw [e, q]; rfl⟩
  · rintro ρ2 ⟨s, rfl⟩
    rw [sD_len, List.take_length]
    walk_at "S"
    refine ⟨_, _, rfl, fun cr' l' m' G' e => ?_⟩
    simp only [List.cons.injEq, D.tup.injEq] at e
    obtain ⟨e1, e2, e3, _⟩ := e
    rw [team_inj e1, sD_inj e2, sD_inj e3]
theorem optT_inj {o o' : Option (List Str)} (e : optT o = optT o') : o = o' := by
  cases o <;> cases o'
  · rfl
  · cases e
  · cases e
  · rw [sD_inj (D.tup.inj e)]
theorem w_told (Q : CrewOk K A) {ds : List D} (hp : preTold A ds) : WS K (t_told K A (sp_least_of K A)) (slots ["crew", "row"] (ds.map SV.d)) (endP (postTold A) ds) := by
  obtain ⟨cr, o, G, rfl, ho⟩ := hp
  have fin : ∀ z ρ ρ' x, fzT z ρ = some (x, ρ') → x = optL (o.map (least cr)) → (endP (postTold A) [teamD A cr, optT o]).rt z ρ := fun z ρ ρ' x h e => ⟨x, ρ', h, fun cr' o' G' q => by
    simp only [List.cons.injEq] at q
    obtain ⟨e1, e2, _⟩ := q
    rw [e, team_inj e1, optT_inj e2]⟩
  unfold t_told
  cases o with
  | none =>
    show WS K _ [.d (teamD A cr), .d .non] _
    walk_at "S"
    refine ifT rfl ?_
    walk_at "S"
    exact fin _ _ _ _ rfl rfl
  | some l =>
    obtain ⟨h1, h2⟩ := ho l rfl
    show WS K _ [.d (teamD A cr), .d (.tup (sD l))] _
    walk_at "S"
    refine ifF rfl ?_
    walk_at "S"
    refine ⟨_, _, rfl, ⟨cr, false, l, G, rfl, h1, h2⟩, fun z hz => ?_⟩
    have hz := hz cr false l G rfl
    subst hz
    walk_at "S"
    exact fin _ _ _ _ rfl rfl
end
end K61

set_option Elab.async false
set_option linter.all false
set_option maxRecDepth 100000
namespace K61
open PySem PySem.Spec L2 DL
local macro_rules | `(tactic| walk_at "s") => `(tactic| first
  | with_reducible refine we_op ?_
  | with_reducible refine we_c ?_
  | with_reducible refine wa_nil ?_
  | with_reducible refine wa_cons ?_
  | with_reducible refine we_cb ?_
  | with_reducible refine we_un ?_
  | with_reducible refine we_if ?_
  | with_reducible refine wt_and ?_
  | with_reducible refine wt_or ?_
  | with_reducible refine wt_not ?_
  | with_reducible refine wt_test ?_
  | with_reducible refine wt_B ?_
  | with_reducible refine wt_yes ?_
  | with_reducible refine we_andV ?_
  | with_reducible refine we_orV ?_
  | with_reducible refine we_notV ?_
  | with_reducible refine we_isN ?_
  | with_reducible refine we_notN ?_
  | with_reducible refine we_sl ?_
  | with_reducible refine wo_no ?_
  | with_reducible refine wo_some ?_
  | with_reducible refine we_lst ?_
  | with_reducible refine we_tup ?_
  | with_reducible refine we_call ?_
  | with_reducible refine ws_seq ?_
  | with_reducible refine ws_ret ?_
  | with_reducible refine ws_drop ?_
  | with_reducible refine ws_if ?_
  | with_reducible refine ws_next ?_
  | with_reducible refine ws_break ?_
  | with_reducible refine ws_set ?_
  | with_reducible refine ws_multi ?_
  | with_reducible refine ws_asg ?_
  | with_reducible refine we_lc ?_
  | with_reducible refine we_dc ?_
  | with_reducible refine ws_for ?_
  | with_reducible refine wi_seq ?_
  | with_reducible refine wi_enum ?_
  | with_reducible refine wi_zip ?_
  | with_reducible refine wi_range1 ?_
  | with_reducible refine wi_str ?_
  | with_reducible refine we_dnewK ?_
  | ((with_reducible show WE _ (tVar _) _ _); first | refine we_var rfl ?_ | refine we_varO rfl ?_)
  | ((with_reducible show WE _ (tFld _ _ _) _ _); first | refine we_touched (by assumption) ?_ | refine we_every (by assumption) ?_)
  | ((with_reducible show W2 _ (rIxA _) _ _ _ _); first | refine w2_ixCr rfl rfl (by assumption) (by assumption) ?_ | refine w2_ixLog rfl rfl (by assumption) (by assumption) ?_ | refine w2_ixLogT rfl rfl (by assumption) (by assumption) ?_)
  | ((with_reducible show W2 _ (rInA _ _) _ _ _ _); first | refine w2_inCr rfl rfl ?_ | refine w2_inS rfl (.inl rfl) ?_ | refine w2_inS rfl (.inr rfl) ?_ | refine w2_ninS rfl (.inl rfl) ?_ | refine w2_ninS rfl (.inr rfl) ?_)
  | ((with_reducible show W2 _ (rI0 _) _ _ _ _); refine w2_I0 rfl rfl ?_)
  | ((with_reducible show W2 _ (rEqA _) _ _ _ _); first | refine w2_eqStr rfl rfl ?_ | refine w2_eqInt rfl rfl ?_ | refine w2_eqBl rfl rfl ?_)
  | ((with_reducible show W2 _ (rNeA _) _ _ _ _); first | refine w2_neStr rfl rfl ?_ | refine w2_neInt rfl rfl ?_ | refine w2_neBl rfl rfl ?_)
  | ((with_reducible show W2 _ (rAddA _) _ _ _ _); refine w2_addI rfl rfl ?_)
  | ((with_reducible show WR _ (rLenA _) _ _ _); first | refine wr_len (.inl rfl) ?_ | refine wr_len (.inr rfl) ?_ | refine wr_lenD rfl ?_)
  | ((with_reducible show WR _ (rListA _) _ _ _); first | refine wr_list (.inl rfl) ?_ | refine wr_list (.inr rfl) ?_ | refine wr_listK rfl ?_ | refine wr_listD rfl ?_)
  | ((with_reducible show WR _ (rTupA _) _ _ _); first | refine wr_tup (.inl rfl) ?_ | refine wr_tup (.inr rfl) ?_)
  | ((with_reducible show WR _ (rIsiA _) _ _ _); first | refine wr_isi rfl rfl (by decide) ?_ | refine wr_isiT ["list", "tuple"] rfl rfl (by decide) rfl ?_)
  | ((with_reducible show W3 _ (rSlLT _) _ _ _ _ _); first | refine w3_L rfl ?_ | refine w3_T rfl ?_)
  | with_reducible refine wg_name (by first | exact True.intro | decide) ?_
  | ((with_reducible show WGs _ _ gNil _ _ _); refine wgs_nil ?_)
  | ((with_reducible show WGs _ _ (gCons _ _) _ _ _); refine wgs_cons rfl ?_)
  | ((with_reducible show WG _ _ (gTup _ _ _) _ _ _); refine wg_tup rfl rfl ?_)
  | refine ⟨_, (rfl : asg _ _ _ = _), ?_⟩
  | refine ⟨_, _, (rfl : fzA _ _ _ = _), le_lineB rfl, ?_⟩
  | refine ⟨_, (rfl : SV.d _ = _), ?_⟩
  | refine ⟨_, (rfl : vw _ _ = _), ?_⟩
  | refine ⟨(rfl : nraw _ = true), ?_⟩
  | refine ⟨(rfl : List.length _ = _), le_lineB rfl, rfl, ?_⟩)
local macro_rules | `(tactic| walk_at "S") => `(tactic| repeat walk_at "s")
/-- what is walked -/
local macro_rules | `(tactic| walk_at "w") => `(tactic| first | refine ⟨_, _, .inl rfl, ?_⟩ | refine ⟨_, _, .inr rfl, ?_⟩ | refine ⟨_, _, _, rfl, .inl rfl, ?_⟩ | refine ⟨_, _, _, rfl, .inr rfl, ?_⟩)
section
variable {cr : Crw} {l m : List Str} {d x : Str}
/-- a dict of counts by hands -/
def cntK (hs : List Str) (f : Str → Nat) : List (Key × D) := hs.map fun h => (Sum.inr h, .int (f h : Nat))
theorem putD_map {α : Type} [DecidableEq α] {hs : List α} {inj : α → Key} (hi : ∀ a b, inj a = inj b → a = b) {f : α → D} {k : α} {v : D} (hk : k ∈ hs) : putD (hs.map fun h => (inj h, f h)) (inj k) v = hs.map fun h => (inj h, if h = k then v else f h) := by
  unfold putD
  rw [if_pos]
  · rw [List.map_map]
    refine List.map_congr_left fun h _ => ?_
    by_cases e : h = k
    · subst e; simp
    · have : ¬ inj h = inj k := fun z => e (hi _ _ z)
      simp [e, this]
  · rw [List.any_eq_true]
    exact ⟨(inj k, f k), List.mem_map.mpr ⟨k, hk, rfl⟩, by simp⟩
theorem merge_cnt {hs : List Str} : ∀ (ks : List Str) (f g : Str → Nat), ks.Nodup → (∀ k ∈ ks, k ∈ hs) → mergeD (cntK hs f) (ks.map fun h => ((Sum.inr h : Key), D.int (g h : Nat))) = cntK hs fun h => if h ∈ ks then g h else f h
  | [], f, g, _, _ => by simp [cntK]; rfl
  | k :: ks, f, g, nd, hk => by
    obtain ⟨n1, n2⟩ := List.nodup_cons.mp nd
    show mergeD (putD (cntK hs f) (Sum.inr k) (.int (g k : Nat))) (ks.map fun h => ((Sum.inr h : Key), D.int (g h : Nat))) = _
    have e : putD (cntK hs f) (Sum.inr k) (.int (g k : Nat)) = cntK hs fun h => if h = k then g k else f h := by
      unfold cntK
      rw [putD_map (inj := Sum.inr) (fun _ _ h => Sum.inr.inj h) (hk k (by simp))]
      refine List.map_congr_left fun h _ => ?_
      by_cases e : h = k <;> simp [e]
    rw [e, merge_cnt ks _ _ n2 fun a ha => hk a (by simp [ha])]
    unfold cntK
    refine List.map_congr_left fun h _ => ?_
    by_cases e1 : h ∈ ks
    · simp [e1]
    · by_cases e2 : h = k
      · subst e2; simp [e1]
      · simp [e1, e2]
theorem str_pairs_nd {hs : List Str} {f : Str → D} (nd : hs.Nodup) : mergeD [] (hs.map fun h => ((Sum.inr h : Key), f h)) = hs.map fun h => ((Sum.inr h : Key), f h) := mergeD_nd (by
  rw [List.map_map]
  exact nd.map _ fun a b h e => h (Sum.inr.inj e))
theorem head_take {l : List Str} {d : Str} : l.take 1 = [d] ↔ l.head? = some d := by
  cases l with
  | nil => simp
  | cons a r => simp
end
section
variable {K : PySem.W.Frag} {A : Ad}
theorem w2_ixCnt {ρ : List SV} {C : SV → List SV → Prop} {x y : SV} {hs : List Str} {f : Str → Nat} {h : Str} (hx : vw x ρ = some (.dK (cntK hs f))) (hy : vw y ρ = some (.str h)) (nd : hs.Nodup) (hh : h ∈ hs) (k : C (.d (.int (f h : Nat))) ρ) : W2 K (rIxA K) x y ρ C :=
  w2_ixK hx hy rfl (look_map (kf := fun h => h) (f := fun h => D.int (f h : Nat)) (by rw [List.map_id']; exact nd) hh) k
theorem w_least_of (Q : CrewOk K A) {ds : List D} (hp : preRow A ds) : WS K (t_least_of K A (sp_seen_by K A)) (slots ["crew", "row", "logs", "spots", "found", "deed", "hands", "hand"] (ds.map SV.d)) (endP (postLeast A) ds) := by
  obtain ⟨cr, b, l, G, rfl, hl, hz⟩ := hp
  have h5 := G.every_len
  have H := G.hands
  show WS K _ [.d (teamD A cr), .d (seqD b l), .any, .any, .any, .any, .any, .any] _
  unfold t_least_of
  walk_at "S"
  walk_at "w"
  refine dcM (every cr) D.str Sum.inr (fun h => .lst (sD (saw cr l h))) rfl (le_line (by omega)) (fun h hh => ?_) ?_
  · walk_at "S"
    refine ⟨rfl, ?_⟩
    walk_at "S"
    refine ⟨_, _, rfl, ⟨cr, b, l, h, G, rfl, hl, hz⟩, fun d hd => ?_⟩
    have hd := hd cr b l h G rfl
    subst hd
    exact ⟨_, rfl, rfl⟩
  rw [str_pairs_nd G.every_nd]
  walk_at "S"
  walk_at "w"
  refine dcM (every cr) D.str Sum.inr (fun h => .int ((0 : Nat) : Int)) rfl (le_line (by omega)) (fun h hh => ?_) ?_
  · walk_at "S"
    refine ⟨rfl, ?_⟩
    walk_at "S"
    exact ⟨_, rfl, rfl⟩
  rw [str_pairs_nd G.every_nd]
  walk_at "S"
  refine ws_while (fun n ρ2 => ∃ (g left : List Str) (f : Str → Nat) (s5 s6 s7 : SV), ρ2 = [.d (teamD A cr), .d (seqD b l), .own (ownK ((every cr).map fun h => (Sum.inr h, .lst (sD (saw cr l h))))), .own (ownK (cntK (every cr) f)), .own (ownL (sD g)), s5, s6, s7]
      ∧ (∀ h, f h = (saw cr g h).length) ∧ (∀ h, saw cr l h = saw cr g h ++ saw cr left h) ∧ Sub cr left ∧ left.length = n ∧ g.length + n = l.length ∧ g ++ leastN cr n left = least cr l) l.length
    ⟨[], l, fun _ => 0, _, _, _, rfl, fun _ => rfl, fun _ => rfl, hl, rfl, by simp, rfl⟩ ?_
  rintro n ρ2 ⟨g, left, f, s5, s6, s7, rfl, hf, hs, hlt, hn, hgn, hgl⟩
  walk_at "S"
  refine wr_len seq_vw ?_
  walk_at "S"
  rw [sD_len, sD_len]
  by_cases h0 : n = 0
  · rw [decide_eq_false (by omega)]
    refine ifF rfl ?_
    walk_at "S"
    subst h0
    have : least cr l = g := by rw [← hgl]; simp [leastN]
    refine ⟨_, _, rfl, fun cr' b' l' G' e => ?_⟩
    simp only [List.cons.injEq] at e
    obtain ⟨e1, e2, _⟩ := e
    have e1 := team_inj e1
    have e2 := seq_inj e2
    subst e1 e2
    rw [this]
  · rw [decide_eq_true (by omega)]
    refine ifT rfl ?_
    obtain ⟨d0, m0, q0, e0⟩ := find_some (cr := cr) (l := left) hlt (by intro z; subst z; simp at hn; omega)
    walk_at "S"
    refine ws_lkfor dwalk_items (path_touched Q rfl) ⟨fun j ρ2 => (∃ t5 t6 t7, ρ2 = [.d (teamD A cr), .d (seqD b l), .own (ownK ((every cr).map fun h => (Sum.inr h, .lst (sD (saw cr l h))))), .own (ownK (cntK (every cr) f)), .own (ownL (sD g)), t5, t6, t7]) ∧ ∀ p ∈ cr.take j, (takeF cr left p.1).isSome = false, ⟨⟨_, _, _, rfl⟩, by simp⟩, ?_, ?_⟩
    · rintro j y ρ2 hy ⟨⟨t5, t6, t7, rfl⟩, hj⟩
      rw [List.map_map] at hy
      obtain ⟨p, hp, rfl⟩ := get_map hy
      have hm : p ∈ cr := List.mem_of_getElem? hp
      have hk : p.1 ∈ keysOf cr := List.mem_map.mpr ⟨p, hm, rfl⟩
      have hp2 := G.look hm
      have hhs : ∀ h ∈ p.2, h ∈ every cr := fun h hh => G.hs_every hk (by rw [hp2]; exact hh)
      walk_at "S"
      walk_at "w"
      refine lcM p.2 D.str (fun h => .bl (decide ((saw cr left h).take 1 = [p.1]))) rfl (le_line (by have := G.hl hm; omega)) (fun h hh => ?_) ?_
      · have hh2 := hhs h hh
        walk_at "S"
        refine w2_ixCnt rfl rfl G.every_nd hh2 ?_
        walk_at "S"
        refine w2_ixCnt rfl rfl G.every_nd hh2 ?_
        walk_at "S"
        rw [cut_one]
        refine w2_eqS (m := [p.1]) rfl rfl (ok_of fun s hs' => ?_) (ok_of fun s hs' => ?_) ?_
        · have : s ∈ saw cr l h := List.mem_of_mem_drop (List.mem_of_mem_take hs')
          exact G.key_nm (hl s (List.mem_filter.mp this).1)
        · rw [List.mem_singleton.mp hs']; exact G.key_nm hk
        rw [hf, hs h, List.drop_left]
        exact ⟨_, rfl, rfl⟩
      walk_at "S"
      refine wr_allF (l := p.2) (f := fun h => decide ((saw cr left h).take 1 = [p.1])) rfl ?_
      walk_at "S"
      have ev : (p.2.all fun h => decide ((saw cr left h).take 1 = [p.1])) = (takeF cr left p.1).isSome := by
        rw [Bool.eq_iff_iff, take_iff H hlt hk, List.all_eq_true, hp2]
        exact ⟨fun z h hh => head_take.mp (of_decide_eq_true (z h hh)), fun z h hh => decide_eq_true (head_take.mpr (z h hh))⟩
      rw [ev]
      cases q : (takeF cr left p.1).isSome with
      | true =>
        refine ifT rfl ?_
        obtain ⟨left', e1⟩ := Option.isSome_iff_exists.mp q
        have hd0 : p.1 = d0 := by
          obtain ⟨h1, as, bs, h2, h3⟩ := List.find?_eq_some_iff_append.mp q0
          have hi : (keysOf cr)[j]? = some p.1 := by unfold keysOf; rw [List.getElem?_map, hp]; rfl
          have hlen : as.length = j := by
            rcases Nat.lt_trichotomy as.length j with c | c | c
            · exfalso
              have : d0 ∈ (keysOf cr).take j := by
                rw [h2]
                refine List.mem_iff_getElem?.mpr ⟨as.length, ?_⟩
                rw [List.getElem?_take_of_lt c]; simp
              unfold keysOf at this
              rw [← List.map_take] at this
              obtain ⟨p', hp', e'⟩ := List.mem_map.mp this
              have := hj p' hp'
              rw [e'] at this
              rw [this] at h1; cases h1
            · exact c
            · exfalso
              have : p.1 ∈ as := by
                rw [h2, List.getElem?_append_left c] at hi
                exact List.mem_of_getElem? hi
              have := h3 _ this
              rw [q] at this; cases this
          rw [h2, ← hlen] at hi
          simp at hi
          exact hi.symm
        walk_at "S"
        refine we_bmD ?_
        walk_at "S"
        refine ⟨⟨_, _, rfl, rfl, rfl⟩, ?_⟩
        walk_at "S"
        walk_at "w"
        refine dcM p.2 D.str Sum.inr (fun h => .int ((f h + 1 : Nat) : Int)) rfl (le_line (by have := G.hl hm; omega)) (fun h hh => ?_) ?_
        · have hh2 := hhs h hh
          walk_at "S"
          refine ⟨rfl, ?_⟩
          walk_at "S"
          refine w2_ixCnt rfl rfl G.every_nd hh2 ?_
          walk_at "S"
          exact ⟨_, rfl, rfl⟩
        rw [str_pairs_nd (G.hs p hm).2.1]
        walk_at "S"
        refine wm_update rfl rfl (le_line ?_) ?_
        · unfold cntK
          rw [List.length_map, List.length_map]
          have := G.hl hm
          omega
        rw [merge_cnt p.2 f (fun h => f h + 1) (G.hs p hm).2.1 hhs]
        walk_at "S"
        refine we_bm ?_
        walk_at "S"
        refine ⟨⟨_, rfl, rfl⟩, ?_⟩
        walk_at "S"
        refine wm_append rfl rfl (lt_line (by rw [sD_len]; omega)) ?_
        have hlen' := take_len e1
        refine ⟨left'.length, by omega, g ++ [p.1], left', fun h => if h ∈ p.2 then f h + 1 else f h, .d (.str p.1), .d (.tup (sD p.2)), .any, ?_, fun h => ?_, fun h => ?_, take_sub e1 hlt, rfl, by rw [List.length_append]; simp; omega, ?_⟩
        · rw [sD_app]; rfl
        · rw [saw_app, saw_cons, saw_nil, hp2]
          show (if h ∈ p.2 then f h + 1 else f h) = _
          rw [hf]
          by_cases c : h ∈ p.2
          · simp [c]
          · simp [c]
        · rw [hs h, saw_app, saw_cons, saw_nil, take_saw e1 h]
          by_cases c : h ∈ hsOf cr p.1
          · simp [c]
          · simp [c]
        · rw [← hgl]
          obtain ⟨n', rfl⟩ : ∃ n', n = n' + 1 := ⟨n - 1, by omega⟩
          rw [leastN_step (d := p.1) (m := left') (by rw [q0, hd0]) e1, List.append_assoc]
          have : left'.length = n' := by omega
          rw [this]; rfl
      | false =>
        refine ifF rfl ?_
        walk_at "S"
        refine ⟨⟨_, _, _, rfl⟩, fun p' hp' => ?_⟩
        rw [List.take_add_one, hp] at hp'
        rcases List.mem_append.mp hp' with z | z
        · exact hj p' z
        · have : p' = p := by simpa using z
          subst this; exact q
    · rintro ρ2 ⟨_, hj⟩
      rw [show ((cr.map fun p => ((Sum.inr p.1 : Key), D.tup (sD p.2))).map (fun p => D.tup [keyD p.1, p.2])).length = cr.length by simp, List.take_length] at hj
      exfalso
      have hd := List.mem_of_find?_eq_some q0
      obtain ⟨p, hp, e⟩ := List.mem_map.mp hd
      have := hj p hp
      rw [e, e0] at this; cases this
end
end K61

set_option Elab.async false
set_option linter.all false
set_option maxRecDepth 100000
namespace K61
open PySem PySem.Spec L2 DL
local macro_rules | `(tactic| walk_at "s") => `(tactic| first
  | with_reducible refine we_op ?_
  | with_reducible refine we_c ?_
  | with_reducible refine wa_nil ?_
  | with_reducible refine wa_cons ?_
  | with_reducible refine we_cb ?_
  | with_reducible refine we_un ?_
  | with_reducible refine we_if ?_
  | with_reducible refine wt_and ?_
  | with_reducible refine wt_or ?_
  | with_reducible refine wt_not ?_
  | with_reducible refine wt_test ?_
  | with_reducible refine wt_B ?_
  | with_reducible refine wt_yes ?_
  | with_reducible refine we_andV ?_
  | with_reducible refine we_orV ?_
  | with_reducible refine we_notV ?_
  | with_reducible refine we_isN ?_
  | with_reducible refine we_notN ?_
  | with_reducible refine we_sl ?_
  | with_reducible refine wo_no ?_
  | with_reducible refine wo_some ?_
  | with_reducible refine we_lst ?_
  | with_reducible refine we_tup ?_
  | with_reducible refine we_call ?_
  | with_reducible refine ws_seq ?_
  | with_reducible refine ws_ret ?_
  | with_reducible refine ws_drop ?_
  | with_reducible refine ws_if ?_
  | with_reducible refine ws_next ?_
  | with_reducible refine ws_break ?_
  | with_reducible refine ws_set ?_
  | with_reducible refine ws_multi ?_
  | with_reducible refine ws_asg ?_
  | with_reducible refine we_lc ?_
  | with_reducible refine we_dc ?_
  | with_reducible refine ws_for ?_
  | with_reducible refine wi_seq ?_
  | with_reducible refine wi_enum ?_
  | with_reducible refine wi_zip ?_
  | with_reducible refine wi_range1 ?_
  | with_reducible refine wi_str ?_
  | with_reducible refine we_dnewK ?_
  | ((with_reducible show WE _ (tVar _) _ _); first | refine we_var rfl ?_ | refine we_varO rfl ?_)
  | ((with_reducible show WE _ (tFld _ _ _) _ _); first | refine we_touched (by assumption) ?_ | refine we_every (by assumption) ?_)
  | ((with_reducible show W2 _ (rIxA _) _ _ _ _); first | refine w2_ixCr rfl rfl (by assumption) (by assumption) ?_ | refine w2_ixLog rfl rfl (by assumption) (by assumption) ?_ | refine w2_ixLogT rfl rfl (by assumption) (by assumption) ?_)
  | ((with_reducible show W2 _ (rInA _ _) _ _ _ _); first | refine w2_inCr rfl rfl ?_ | refine w2_inS rfl (.inl rfl) ?_ | refine w2_inS rfl (.inr rfl) ?_ | refine w2_ninS rfl (.inl rfl) ?_ | refine w2_ninS rfl (.inr rfl) ?_)
  | ((with_reducible show W2 _ (rI0 _) _ _ _ _); refine w2_I0 rfl rfl ?_)
  | ((with_reducible show W2 _ (rEqA _) _ _ _ _); first | refine w2_eqStr rfl rfl ?_ | refine w2_eqInt rfl rfl ?_ | refine w2_eqBl rfl rfl ?_)
  | ((with_reducible show W2 _ (rNeA _) _ _ _ _); first | refine w2_neStr rfl rfl ?_ | refine w2_neInt rfl rfl ?_ | refine w2_neBl rfl rfl ?_)
  | ((with_reducible show W2 _ (rAddA _) _ _ _ _); refine w2_addI rfl rfl ?_)
  | ((with_reducible show WR _ (rLenA _) _ _ _); first | refine wr_len (.inl rfl) ?_ | refine wr_len (.inr rfl) ?_ | refine wr_lenD rfl ?_)
  | ((with_reducible show WR _ (rListA _) _ _ _); first | refine wr_list (.inl rfl) ?_ | refine wr_list (.inr rfl) ?_ | refine wr_listK rfl ?_ | refine wr_listD rfl ?_)
  | ((with_reducible show WR _ (rTupA _) _ _ _); first | refine wr_tup (.inl rfl) ?_ | refine wr_tup (.inr rfl) ?_)
  | ((with_reducible show WR _ (rIsiA _) _ _ _); first | refine wr_isi rfl rfl (by decide) ?_ | refine wr_isiT ["list", "tuple"] rfl rfl (by decide) rfl ?_)
  | ((with_reducible show W3 _ (rSlLT _) _ _ _ _ _); first | refine w3_L rfl ?_ | refine w3_T rfl ?_)
  | with_reducible refine wg_name (by first | exact True.intro | decide) ?_
  | ((with_reducible show WGs _ _ gNil _ _ _); refine wgs_nil ?_)
  | ((with_reducible show WGs _ _ (gCons _ _) _ _ _); refine wgs_cons rfl ?_)
  | ((with_reducible show WG _ _ (gTup _ _ _) _ _ _); refine wg_tup rfl rfl ?_)
  | refine ⟨_, (rfl : asg _ _ _ = _), ?_⟩
  | refine ⟨_, _, (rfl : fzA _ _ _ = _), le_lineB rfl, ?_⟩
  | refine ⟨_, (rfl : SV.d _ = _), ?_⟩
  | refine ⟨_, (rfl : vw _ _ = _), ?_⟩
  | refine ⟨(rfl : nraw _ = true), ?_⟩
  | refine ⟨(rfl : List.length _ = _), le_lineB rfl, rfl, ?_⟩)
local macro_rules | `(tactic| walk_at "S") => `(tactic| repeat walk_at "s")
/-- what is walked -/
local macro_rules | `(tactic| walk_at "w") => `(tactic| first | refine ⟨_, _, .inl rfl, ?_⟩ | refine ⟨_, _, .inr rfl, ?_⟩ | refine ⟨_, _, _, rfl, .inl rfl, ?_⟩ | refine ⟨_, _, _, rfl, .inr rfl, ?_⟩)
section
variable {K : PySem.W.Frag} {A : Ad} {cr : Crw} {l m : List Str}
def ddup (l : List Str) : List Str := l.foldl insH []
theorem ddup_mem {l : List Str} {x : Str} : x ∈ ddup l ↔ x ∈ l := by
  have : ∀ (l f : List Str), x ∈ l.foldl insH f ↔ x ∈ f ∨ x ∈ l := by
    intro l
    induction l with
    | nil => intro f; simp
    | cons a l ih =>
      intro f
      rw [List.foldl_cons, ih]
      unfold insH
      by_cases e : a ∈ f
      · rw [if_pos e]
        constructor
        · rintro (h | h)
          · exact .inl h
          · exact .inr (by simp [h])
        · rintro (h | h)
          · exact .inl h
          · rcases List.mem_cons.mp h with z | z
            · subst z; exact .inl e
            · exact .inr z
      · rw [if_neg e]
        simp [or_assoc]
  unfold ddup; rw [this]; simp
theorem ddup_nd (l : List Str) : (ddup l).Nodup := by
  have : ∀ (l f : List Str), f.Nodup → (l.foldl insH f).Nodup := by
    intro l
    induction l with
    | nil => intro f h; exact h
    | cons a l ih =>
      intro f h
      rw [List.foldl_cons]
      refine ih _ ?_
      unfold insH
      by_cases e : a ∈ f
      · rw [if_pos e]; exact h
      · rw [if_neg e, List.nodup_append]
        exact ⟨h, by simp, fun x hx y hy z => by
          have : y = a := by simpa using hy
          subst this; subst z; exact e hx⟩
  exact this l [] List.nodup_nil
theorem ddup_len (G : Good cr) (hl : Sub cr l) : (ddup l).length ≤ 8 := by
  have h8 := G.n8
  have := sub_len (l := ddup l) (m := keysOf cr) (ddup_nd l) fun x hx => hl x (ddup_mem.mp hx)
  unfold keysOf at this; rw [List.length_map] at this; omega
theorem merge_ddup (l : List Str) : mergeD [] (l.map fun h => ((Sum.inr h : Key), D.bl true)) = fndD (ddup l) := merge_fnd l []
theorem two_end {P : Crw → List Str → List Str → D → Prop} {x : D} (h : P cr l m x) : ∀ cr' l' m', Good cr' → [teamD A cr, .tup (sD l), .tup (sD m)] = [teamD A cr', .tup (sD l'), .tup (sD m')] → P cr' l' m' x := fun cr' l' m' _ e => by
  simp only [List.cons.injEq, D.tup.injEq] at e
  obtain ⟨e1, e2, e3, _⟩ := e
  have e1 := team_inj e1
  have e2 := sD_inj e2
  have e3 := sD_inj e3
  subst e1 e2 e3
  exact h
theorem twoL_end {P : Crw → List Str → List Str → D → Prop} {x : D} (h : P cr l m x) : ∀ cr' l' m', Good cr' → [teamD A cr, .lst (sD l), .lst (sD m)] = [teamD A cr', .lst (sD l'), .lst (sD m')] → P cr' l' m' x := fun cr' l' m' _ e => by
  simp only [List.cons.injEq, D.lst.injEq] at e
  obtain ⟨e1, e2, e3, _⟩ := e
  have e1 := team_inj e1
  have e2 := sD_inj e2
  have e3 := sD_inj e3
  subst e1 e2 e3
  exact h
theorem w_begun (Q : CrewOk K A) {ds : List D} (hp : preTwo A ds) : WS K (t_begun K A (sp_taken K A)) (slots ["crew", "row", "second", "found", "more", "deed", "near", "far"] (ds.map SV.d)) (endP (postBegun A) ds) := by
  obtain ⟨cr, l, m, G, rfl, hl, hm, hz, hz2⟩ := hp
  show WS K _ [.d (teamD A cr), .d (.tup (sD l)), .d (.tup (sD m)), .any, .any, .any, .any, .any] _
  unfold t_begun
  walk_at "S"
  refine ws_while (fun k ρ2 => ∃ (f n r : List Str) (more : Bool) (s5 s6 s7 : SV), ρ2 = [.d (teamD A cr), .d (.tup (sD n)), .d (.tup (sD r)), .d (.tup (sD f)), .d (.bl more), s5, s6, s7] ∧ Beg cr l m f n r ∧ k = n.length + (if more = true then 1 else 0)) (l.length + 1)
    ⟨[], l, m, true, _, _, _, rfl, Beg.start hl hm, rfl⟩ ?_
  rintro k ρ2 ⟨f, n, r, more, s5, s6, s7, rfl, B, hk⟩
  have b1 := B.l1
  have b2 := B.l2
  walk_at "S"
  cases more with
  | false =>
    refine ifF rfl ?_
    walk_at "S"
    refine ⟨_, _, rfl, two_end (P := fun cr l m x => ∃ f n r, Beg cr l m f n r ∧ x = .tup [.tup (sD f), .tup (sD n), .tup (sD r)]) ⟨f, n, r, B, rfl⟩⟩
  | true =>
    refine ifT rfl ?_
    simp only [if_true] at hk
    walk_at "S"
    walk_at "w"
    refine dcM n D.str Sum.inr (fun _ => .bl true) rfl (le_line (by omega)) (fun a ha => ?_) ?_
    · walk_at "S"
      refine ⟨rfl, ?_⟩
      walk_at "S"
      exact ⟨_, rfl, rfl⟩
    rw [merge_ddup]
    walk_at "S"
    refine wr_sortedD (l := ddup n) rfl (fnd_keys _) (by have := ddup_len G B.k1; omega) ?_
    walk_at "w"
    refine ⟨fun i ρ2 => ∃ s5 s6 s7, ρ2 = [.d (teamD A cr), .d (.tup (sD n)), .d (.tup (sD r)), .d (.tup (sD f)), .d (.bl false), s5, s6, s7], ⟨_, _, _, rfl⟩, ?_, ?_⟩
    · rintro i y ρ2 hy ⟨s5, s6, s7, rfl⟩
      obtain ⟨d, hd, rfl⟩ := get_map hy
      have hdk : d ∈ keysOf cr := B.k1 d (ddup_mem.mp (sortS_mem.mp (List.mem_of_getElem? hd)))
      walk_at "S"
      refine ws_par (by decide) ?_
      walk_at "S"
      refine ⟨_, _, rfl, ⟨cr, n, d, G, rfl, B.k1, hdk, by omega⟩, fun z hz => ?_⟩
      have hz := hz cr n d G rfl
      subst hz
      walk_at "S"
      refine ⟨_, _, rfl, ⟨cr, r, d, G, rfl, B.k2, hdk, by omega⟩, fun z hz => ?_⟩
      have hz := hz cr r d G rfl
      subst hz
      walk_at "S"
      refine ⟨_, _, _, _, rfl, rfl, rfl, rfl, ?_⟩
      cases q1 : takeF cr n d with
      | none =>
        show WS K _ [.d (teamD A cr), .d (.tup (sD n)), .d (.tup (sD r)), .d (.tup (sD f)), .d (.bl false), .d (.str d), .d .non, .d (optT (takeF cr r d))] _
        walk_at "S"
        refine ifF rfl ?_
        refine ifF rfl ?_
        walk_at "S"
        exact ⟨_, _, _, rfl⟩
      | some n' =>
        cases q2 : takeF cr r d with
        | none =>
          show WS K _ [.d (teamD A cr), .d (.tup (sD n)), .d (.tup (sD r)), .d (.tup (sD f)), .d (.bl false), .d (.str d), .d (.tup (sD n')), .d .non] _
          walk_at "S"
          refine ifT rfl ?_
          walk_at "S"
          refine ifF rfl ?_
          walk_at "S"
          exact ⟨_, _, _, rfl⟩
        | some r' =>
          show WS K _ [.d (teamD A cr), .d (.tup (sD n)), .d (.tup (sD r)), .d (.tup (sD f)), .d (.bl false), .d (.str d), .d (.tup (sD n')), .d (.tup (sD r'))] _
          walk_at "S"
          refine ifT rfl ?_
          walk_at "S"
          refine ifT rfl ?_
          walk_at "S"
          refine w2_addT (xs := sD f) (ys := [.str d]) rfl rfl (le_line (by rw [sD_len]; simp; omega)) ?_
          walk_at "S"
          have := take_len q1
          refine ⟨n'.length + 1, by omega, f ++ [d], n', r', true, .d (.str d), .d (.tup (sD n')), .d (.tup (sD r')), ?_, B.step q1 q2, by simp⟩
          rw [sD_app]; rfl
    · rintro ρ2 ⟨s5, s6, s7, rfl⟩
      exact ⟨n.length, by omega, f, n, r, false, _, _, _, rfl, B, by simp⟩
theorem w_rest_of (Q : CrewOk K A) {ds : List D} (hp : preTwoL A ds) : WS K (t_rest_of K A (sp_need_second K A) (sp_need_row K A) (sp_told K A) (sp_rest_by K A)) (slots ["crew", "row", "second", "one", "two"] (ds.map SV.d)) (endP (postRestOf A) ds) := by
  obtain ⟨cr, l, m, G, rfl, hl, hm, hz, hz2⟩ := hp
  show WS K _ [.d (teamD A cr), .d (.lst (sD l)), .d (.lst (sD m)), .any, .any] _
  unfold t_rest_of
  walk_at "S"
  refine ws_par (by decide) ?_
  walk_at "S"
  refine ⟨_, _, rfl, ⟨cr, true, l, G, rfl, hl, by omega⟩, fun z hz => ?_⟩
  have hz := hz _ true l rfl
  subst hz
  walk_at "S"
  refine ⟨_, _, rfl, ⟨cr, true, m, G, rfl, hm, by omega⟩, fun z hz => ?_⟩
  have hz := hz _ true m rfl
  subst hz
  walk_at "S"
  refine ⟨_, _, _, _, rfl, rfl, rfl, rfl, ?_⟩
  walk_at "S"
  refine ⟨_, _, rfl, ⟨cr, l, m, G, rfl, hl, hm, by omega, by omega⟩, fun z hz => ?_⟩
  have hz := hz cr l m G rfl
  subst hz
  walk_at "S"
  refine ⟨_, _, rfl, ⟨cr, restF cr l m, G, rfl, fun r hr => ?_⟩, fun z hz => ?_⟩
  · obtain ⟨r1, r2, r3⟩ := rest_saw hr
    exact ⟨fun x hx => hl x (r3 x hx), by omega⟩
  have hz := hz cr _ G rfl
  subst hz
  exact ⟨_, _, rfl, twoL_end (P := fun cr l m x => x = optL ((restF cr l m).map (least cr))) rfl⟩
theorem w_common_begin (Q : CrewOk K A) {ds : List D} (hp : preTwoL A ds) : WS K (t_common_begin K A (sp_need_second K A) (sp_need_row K A) (sp_told K A) (sp_begun K A)) (slots ["crew", "row", "second", "one", "two"] (ds.map SV.d)) (endP (postCommon A) ds) := by
  obtain ⟨cr, l, m, G, rfl, hl, hm, hz, hz2⟩ := hp
  show WS K _ [.d (teamD A cr), .d (.lst (sD l)), .d (.lst (sD m)), .any, .any] _
  unfold t_common_begin
  walk_at "S"
  refine ws_par (by decide) ?_
  walk_at "S"
  refine ⟨_, _, rfl, ⟨cr, true, l, G, rfl, hl, by omega⟩, fun z hz => ?_⟩
  have hz := hz _ true l rfl
  subst hz
  walk_at "S"
  refine ⟨_, _, rfl, ⟨cr, true, m, G, rfl, hm, by omega⟩, fun z hz => ?_⟩
  have hz := hz _ true m rfl
  subst hz
  walk_at "S"
  refine ⟨_, _, _, _, rfl, rfl, rfl, rfl, ?_⟩
  walk_at "S"
  refine ⟨_, _, rfl, ⟨cr, l, m, G, rfl, hl, hm, by omega, by omega⟩, fun z hz => ?_⟩
  obtain ⟨f, n, r, B, rfl⟩ := hz cr l m G rfl
  have b1 := B.l1
  walk_at "S"
  refine w2_ixT rfl rfl (atI_nat (j := 0) rfl) ?_
  walk_at "S"
  refine ⟨_, _, rfl, ⟨cr, some f, G, rfl, fun r hr => ?_⟩, fun z hz => ?_⟩
  · cases hr
    exact ⟨B.k0, by omega⟩
  have hz := hz cr (some f) G rfl
  subst hz
  exact ⟨_, _, rfl, twoL_end (P := fun cr l m x => ∃ f n r, Beg cr l m f n r ∧ x = .lst (sD (least cr f))) ⟨f, n, r, B, rfl⟩⟩
end
end K61

set_option Elab.async false
set_option linter.all false
set_option maxRecDepth 100000
namespace K61
open PySem PySem.Spec L2 DL
local macro_rules | `(tactic| walk_at "s") => `(tactic| first
  | with_reducible refine we_op ?_
  | with_reducible refine we_c ?_
  | with_reducible refine wa_nil ?_
  | with_reducible refine wa_cons ?_
  | with_reducible refine we_cb ?_
  | with_reducible refine we_un ?_
  | with_reducible refine we_if ?_
  | with_reducible refine wt_and ?_
  | with_reducible refine wt_or ?_
  | with_reducible refine wt_not ?_
  | with_reducible refine wt_test ?_
  | with_reducible refine wt_B ?_
  | with_reducible refine wt_yes ?_
  | with_reducible refine we_andV ?_
  | with_reducible refine we_orV ?_
  | with_reducible refine we_notV ?_
  | with_reducible refine we_isN ?_
  | with_reducible refine we_notN ?_
  | with_reducible refine we_sl ?_
  | with_reducible refine wo_no ?_
  | with_reducible refine wo_some ?_
  | with_reducible refine we_lst ?_
  | with_reducible refine we_tup ?_
  | with_reducible refine we_call ?_
  | with_reducible refine ws_seq ?_
  | with_reducible refine ws_ret ?_
  | with_reducible refine ws_drop ?_
  | with_reducible refine ws_if ?_
  | with_reducible refine ws_next ?_
  | with_reducible refine ws_break ?_
  | with_reducible refine ws_set ?_
  | with_reducible refine ws_multi ?_
  | with_reducible refine ws_asg ?_
  | with_reducible refine we_lc ?_
  | with_reducible refine we_dc ?_
  | with_reducible refine ws_for ?_
  | with_reducible refine wi_seq ?_
  | with_reducible refine wi_enum ?_
  | with_reducible refine wi_zip ?_
  | with_reducible refine wi_range1 ?_
  | with_reducible refine wi_str ?_
  | with_reducible refine we_dnewK ?_
  | ((with_reducible show WE _ (tVar _) _ _); first | refine we_var rfl ?_ | refine we_varO rfl ?_)
  | ((with_reducible show WE _ (tFld _ _ _) _ _); first | refine we_touched (by assumption) ?_ | refine we_every (by assumption) ?_)
  | ((with_reducible show W2 _ (rIxA _) _ _ _ _); first | refine w2_ixCr rfl rfl (by assumption) (by assumption) ?_ | refine w2_ixLog rfl rfl (by assumption) (by assumption) ?_ | refine w2_ixLogT rfl rfl (by assumption) (by assumption) ?_)
  | ((with_reducible show W2 _ (rInA _ _) _ _ _ _); first | refine w2_inCr rfl rfl ?_ | refine w2_inS rfl (.inl rfl) ?_ | refine w2_inS rfl (.inr rfl) ?_ | refine w2_ninS rfl (.inl rfl) ?_ | refine w2_ninS rfl (.inr rfl) ?_)
  | ((with_reducible show W2 _ (rI0 _) _ _ _ _); refine w2_I0 rfl rfl ?_)
  | ((with_reducible show W2 _ (rEqA _) _ _ _ _); first | refine w2_eqStr rfl rfl ?_ | refine w2_eqInt rfl rfl ?_ | refine w2_eqBl rfl rfl ?_)
  | ((with_reducible show W2 _ (rNeA _) _ _ _ _); first | refine w2_neStr rfl rfl ?_ | refine w2_neInt rfl rfl ?_ | refine w2_neBl rfl rfl ?_)
  | ((with_reducible show W2 _ (rAddA _) _ _ _ _); refine w2_addI rfl rfl ?_)
  | ((with_reducible show WR _ (rLenA _) _ _ _); first | refine wr_len (.inl rfl) ?_ | refine wr_len (.inr rfl) ?_ | refine wr_lenD rfl ?_)
  | ((with_reducible show WR _ (rListA _) _ _ _); first | refine wr_list (.inl rfl) ?_ | refine wr_list (.inr rfl) ?_ | refine wr_listK rfl ?_ | refine wr_listD rfl ?_)
  | ((with_reducible show WR _ (rTupA _) _ _ _); first | refine wr_tup (.inl rfl) ?_ | refine wr_tup (.inr rfl) ?_)
  | ((with_reducible show WR _ (rIsiA _) _ _ _); first | refine wr_isi rfl rfl (by decide) ?_ | refine wr_isiT ["list", "tuple"] rfl rfl (by decide) rfl ?_)
  | ((with_reducible show W3 _ (rSlLT _) _ _ _ _ _); first | refine w3_L rfl ?_ | refine w3_T rfl ?_)
  | with_reducible refine wg_name (by first | exact True.intro | decide) ?_
  | ((with_reducible show WGs _ _ gNil _ _ _); refine wgs_nil ?_)
  | ((with_reducible show WGs _ _ (gCons _ _) _ _ _); refine wgs_cons rfl ?_)
  | ((with_reducible show WG _ _ (gTup _ _ _) _ _ _); refine wg_tup rfl rfl ?_)
  | refine ⟨_, (rfl : asg _ _ _ = _), ?_⟩
  | refine ⟨_, _, (rfl : fzA _ _ _ = _), le_lineB rfl, ?_⟩
  | refine ⟨_, (rfl : SV.d _ = _), ?_⟩
  | refine ⟨_, (rfl : vw _ _ = _), ?_⟩
  | refine ⟨(rfl : nraw _ = true), ?_⟩
  | refine ⟨(rfl : List.length _ = _), le_lineB rfl, rfl, ?_⟩)
local macro_rules | `(tactic| walk_at "S") => `(tactic| repeat walk_at "s")
/-- what is walked -/
local macro_rules | `(tactic| walk_at "w") => `(tactic| first | refine ⟨_, _, .inl rfl, ?_⟩ | refine ⟨_, _, .inr rfl, ?_⟩ | refine ⟨_, _, _, rfl, .inl rfl, ?_⟩ | refine ⟨_, _, _, rfl, .inr rfl, ?_⟩)
section
variable {cr : Crw} {l m : List Str}
theorem look_mapG {α β : Type} {kf : α → Str} {f : α → β} : ∀ {l : List α} {a : α}, (l.map kf).Nodup → a ∈ l → lookD (l.map fun a => ((Sum.inr (kf a) : Key), f a)) (Sum.inr (kf a)) = some (f a)
  | [], _, _, h => by simp at h
  | b :: l, a, nd, h => by
    obtain ⟨n1, n2⟩ := List.nodup_cons.mp (show (kf b :: l.map kf).Nodup from nd)
    rcases List.mem_cons.mp h with e | h
    · subst e; simp [lookD]
    · have ne : ¬ kf b = kf a := fun z => n1 (by rw [z]; exact List.mem_map.mpr ⟨a, h, rfl⟩)
      have := look_mapG n2 h (f := f)
      simpa [lookD, List.find?_cons, ne] using this
theorem putD_mapG {β : Type} {hs : List Str} {f : Str → β} {k : Str} {v : β} (hk : k ∈ hs) : putD (hs.map fun h => ((Sum.inr h : Key), f h)) (Sum.inr k) v = hs.map fun h => ((Sum.inr h : Key), if h = k then v else f h) := by
  unfold putD
  rw [if_pos]
  · rw [List.map_map]
    refine List.map_congr_left fun h _ => ?_
    by_cases e : h = k
    · subst e; simp
    · simp [e]
  · rw [List.any_eq_true]
    exact ⟨(Sum.inr k, f k), List.mem_map.mpr ⟨k, hk, rfl⟩, by simp⟩
theorem cut_1 (l : List Str) : cutL (sD l) none (some 1) = sD (l.take 1) := cut_to l 1
theorem logs_inj {c c' : Crw} {f g : Str → List Str} (hc : c = c') {t : List Str → D} (ht : ∀ a b, t a = t b → a = b) (e : ((every c).map fun h => ((Sum.inr h : Key), t (f h))) = (every c').map fun h => ((Sum.inr h : Key), t (g h))) : ∀ h ∈ every c, f h = g h := by
  subst hc
  intro h hh
  have : ∀ l : List Str, (l.map fun h => ((Sum.inr h : Key), t (f h))) = (l.map fun h => ((Sum.inr h : Key), t (g h))) → ∀ h ∈ l, f h = g h := by
    intro l
    induction l with
    | nil => intro _ h hh; simp at hh
    | cons a l ih =>
      intro e h hh
      simp only [List.map_cons, List.cons.injEq, Prod.mk.injEq, true_and] at e
      rcases List.mem_cons.mp hh with z | z
      · subst z; exact ht _ _ e.1
      · exact ih e.2 h z
  exact this _ e h hh
theorem logsD_inj {c c' : Crw} {f g : Str → List Str} (hc : c = c') (e : logsD c f = logsD c' g) : ∀ h ∈ every c, f h = g h := logs_inj hc (t := fun l => .lst (sD l)) (fun _ _ h => sD_inj (D.lst.inj h)) (D.dK.inj e)
theorem logsT_inj {c c' : Crw} {f g : Str → List Str} (hc : c = c') (e : logsT c f = logsT c' g) : ∀ h ∈ every c, f h = g h := logs_inj hc (t := fun l => .tup (sD l)) (fun _ _ h => sD_inj (D.tup.inj h)) (D.dK.inj e)
theorem saw_ok (G : Good cr) (hl : Sub cr l) (hz : l.length ≤ 200) : LogsOk cr (saw cr l) := fun h _ => ⟨Nat.le_trans (saw_len l h) hz, fun x hx => by
  obtain ⟨h1, h2⟩ := List.mem_filter.mp hx
  exact ⟨hl x h1, of_decide_eq_true h2⟩⟩
end
section
variable {K : PySem.W.Frag} {A : Ad}
theorem w2_inLog {ρ : List SV} {C : SV → List SV → Prop} {x y : SV} {cr : Crw} {f : Str → List Str} {h : Str} (hx : vw x ρ = some (.str h)) (hy : vw y ρ = some (logsD cr f)) (k : C (.d (.bl (decide (h ∈ every cr)))) ρ) : W2 K (rInA K false) x y ρ C :=
  w2_inK hy hx rfl (by rw [if_neg (by decide), isSome_look (kf := fun h => h) (f := fun h : Str => D.lst (sD (f h))), List.map_id']; exact k)
theorem w_is_log (Q : CrewOk K A) {ds : List D} (hp : preLog A ds) : WS K (t_is_log K A) (slots ["crew", "hand", "thing", "deed"] (ds.map SV.d)) (endP postTrue ds) := by
  obtain ⟨cr, h, l, G, rfl, hz, hl⟩ := hp
  show WS K _ [.d (teamD A cr), .d (.str h), .d (.lst (sD l)), .any] _
  unfold t_is_log
  walk_at "S"
  refine ifF rfl ?_
  walk_at "S"
  refine ifF (decide_eq_false (by rw [sD_len]; omega)) ?_
  walk_at "S"
  walk_at "w"
  refine lcM l D.str (fun _ => .bl true) rfl (le_line (by omega)) (fun d hd => ?_) ?_
  · obtain ⟨h1, h2⟩ := hl d hd
    walk_at "S"
    refine ifT rfl ?_
    walk_at "S"
    refine ifT (decide_eq_true h1) ?_
    walk_at "S"
    rw [decide_eq_true h2]
    exact ⟨_, rfl, rfl⟩
  · walk_at "S"
    refine wr_allF (l := l) (f := fun _ => true) rfl ?_
    exact ⟨_, _, rfl, by show D.bl _ = D.bl true; simp⟩
theorem w_are_logs (Q : CrewOk K A) {ds : List D} (hp : preLogs A ds) : WS K (t_are_logs K A (sp_is_log K A)) (slots ["crew", "logs", "hand"] (ds.map SV.d)) (endP postTrue ds) := by
  obtain ⟨cr, f, G, rfl, ho⟩ := hp
  have h5 := G.every_len
  show WS K _ [.d (teamD A cr), .d (logsD cr f), .any] _
  unfold t_are_logs
  walk_at "S"
  refine ifF rfl ?_
  walk_at "S"
  refine ifF (by rw [List.length_map, sD_len]; simp) ?_
  walk_at "S"
  walk_at "w"
  refine lcM (every cr) D.str (fun _ => .bl true) rfl (le_line (by omega)) (fun h hh => ?_) ?_
  · walk_at "S"
    refine w2_inLog rfl rfl ?_
    walk_at "S"
    refine ifT (decide_eq_true hh) ?_
    walk_at "S"
    obtain ⟨o1, o2⟩ := ho h hh
    refine ⟨_, _, rfl, ⟨cr, h, f h, G, rfl, o1, o2⟩, fun z hz => ?_⟩
    cases hz
    exact ⟨_, rfl, rfl⟩
  · walk_at "S"
    refine wr_allF (l := every cr) (f := fun _ => true) rfl ?_
    exact ⟨_, _, rfl, by show D.bl _ = D.bl true; simp⟩
theorem w_need_logs (Q : CrewOk K A) {ds : List D} (hp : preLogs A ds) : WS K (t_need_logs K A (sp_are_logs K A) (sp_need_crew K A)) (slots ["crew", "logs", "hand"] (ds.map SV.d)) (endP (postNeedLogs A) ds) := by
  obtain ⟨cr, f, G, rfl, ho⟩ := hp
  have h5 := G.every_len
  show WS K _ [.d (teamD A cr), .d (logsD cr f), .any] _
  unfold t_need_logs
  walk_at "S"
  refine ⟨_, _, rfl, ⟨cr, G, rfl⟩, fun d hd => ?_⟩
  have hd : d = teamD A cr := by simpa using hd.symm
  subst hd
  walk_at "S"
  refine ⟨_, _, rfl, ⟨cr, f, G, rfl, ho⟩, fun d hd => ⟨true, congrArg SV.d hd, ifF rfl ?_⟩⟩
  walk_at "S"
  walk_at "w"
  refine dcM (every cr) D.str Sum.inr (fun h => .tup (sD (f h))) rfl (le_line (by omega)) (fun h hh => ?_) ?_
  · walk_at "S"
    refine ⟨rfl, ?_⟩
    walk_at "S"
    exact ⟨_, rfl, rfl⟩
  rw [str_pairs_nd G.every_nd]
  refine ⟨_, _, rfl, fun cr' f' G' e => ?_⟩
  simp only [List.cons.injEq] at e
  obtain ⟨e1, e2, _⟩ := e
  have e0 := team_inj e1
  have e4 := logsD_inj e0 e2
  subst e0
  show D.dK _ = D.dK _
  exact congrArg D.dK (List.map_congr_left fun h hh => by rw [e4 h hh])
theorem w_is_ready (Q : CrewOk K A) {ds : List D} (hp : preReady A ds) : WS K (t_is_ready K A) (slots ["crew", "logs", "deed", "hand"] (ds.map SV.d)) (endP (postReady A) ds) := by
  obtain ⟨cr, f, d, G, rfl, ho, hd⟩ := hp
  have h5 := G.hs_len hd
  show WS K _ [.d (teamD A cr), .d (logsD cr f), .d (.str d), .any] _
  unfold t_is_ready
  walk_at "S"
  walk_at "w"
  refine lcM (hsOf cr d) D.str (fun h => .bl (decide ((f h).take 1 = [d]))) rfl (le_line (by omega)) (fun h hh => ?_) ?_
  · have hh2 := G.hs_every hd hh
    walk_at "S"
    rw [cut_1]
    refine w2_eqS (m := [d]) rfl rfl (ok_of fun s hs' => G.key_nm ((ho h hh2).2 s (List.mem_of_mem_take hs')).1) (ok_of fun s hs' => ?_) ⟨_, rfl, rfl⟩
    rw [List.mem_singleton.mp hs']; exact G.key_nm hd
  · walk_at "S"
    refine wr_allF (l := hsOf cr d) (f := fun h => decide ((f h).take 1 = [d])) rfl ?_
    refine ⟨_, _, rfl, fun cr' f' d' G' e => ?_⟩
    simp only [List.cons.injEq, D.str.injEq] at e
    obtain ⟨e1, e2, e3, _⟩ := e
    have e0 := team_inj e1
    have e4 := logsD_inj e0 e2
    subst e0 e3
    show D.bl _ = D.bl _
    congr 1
    rw [Bool.eq_iff_iff, List.all_eq_true, List.all_eq_true]
    exact ⟨fun z h hh => by rw [← e4 h (G.hs_every hd hh)]; exact z h hh, fun z h hh => by rw [e4 h (G.hs_every hd hh)]; exact z h hh⟩
theorem w_continued (Q : CrewOk K A) {ds : List D} (hp : preTwoL A ds) : WS K (t_continued K A (sp_need_second K A) (sp_need_row K A) (sp_begun K A) (sp_least_of K A) (sp_apart K A) (sp_told K A)) (slots ["crew", "row", "second", "one", "two", "found", "near", "far", "deed", "other"] (ds.map SV.d)) (endP (postCont A) ds) := by
  obtain ⟨cr, l, m, G, rfl, hl, hm, hz, hz2⟩ := hp
  show WS K _ [.d (teamD A cr), .d (.lst (sD l)), .d (.lst (sD m)), .any, .any, .any, .any, .any, .any, .any] _
  unfold t_continued
  walk_at "S"
  refine ws_par (by decide) ?_
  walk_at "S"
  refine ⟨_, _, rfl, ⟨cr, true, l, G, rfl, hl, by omega⟩, fun z hz => ?_⟩
  have hz := hz _ true l rfl
  subst hz
  walk_at "S"
  refine ⟨_, _, rfl, ⟨cr, true, m, G, rfl, hm, by omega⟩, fun z hz => ?_⟩
  have hz := hz _ true m rfl
  subst hz
  walk_at "S"
  refine ⟨_, _, _, _, rfl, rfl, rfl, rfl, ?_⟩
  walk_at "S"
  refine ⟨_, _, rfl, ⟨cr, l, m, G, rfl, hl, hm, by omega, by omega⟩, fun z hz => ?_⟩
  obtain ⟨f, n, r, B, rfl⟩ := hz cr l m G rfl
  have b1 := B.l1
  have b2 := B.l2
  walk_at "S"
  refine ws_par (by decide) ?_
  walk_at "S"
  refine ⟨_, _, rfl, ⟨cr, false, n, G, rfl, B.k1, by omega⟩, fun z hz => ?_⟩
  have hz := hz cr false n G rfl
  subst hz
  walk_at "S"
  refine ⟨_, _, rfl, ⟨cr, false, r, G, rfl, B.k2, by omega⟩, fun z hz => ?_⟩
  have hz := hz cr false r G rfl
  subst hz
  walk_at "S"
  refine ⟨_, _, _, _, rfl, rfl, rfl, rfl, ?_⟩
  have n1 := least_len B.k1
  have n2 := least_len B.k2
  have B' : Beg cr l m f (least cr n) (least cr r) := ⟨fun h => by rw [least_saw B.k1]; exact B.one h, fun h => by rw [least_saw B.k2]; exact B.two h, by omega, by omega, B.k0, least_sub B.k1, least_sub B.k2⟩
  generalize least cr n = n' at *
  generalize least cr r = r' at *
  show WS K _ [.d (teamD A cr), .d (.lst (sD l)), .d (.lst (sD m)), .d (.tup (sD l)), .d (.tup (sD m)), .d (.tup (sD f)), .d (.tup (sD n')), .d (.tup (sD r')), .any, .any] _
  walk_at "S"
  walk_at "w"
  refine ⟨fun i ρ2 => (∃ s8 s9, ρ2 = [.d (teamD A cr), .d (.lst (sD l)), .d (.lst (sD m)), .d (.tup (sD l)), .d (.tup (sD m)), .d (.tup (sD f)), .d (.tup (sD n')), .d (.tup (sD r')), s8, s9]) ∧ ∀ a ∈ n'.take i, ∀ b ∈ r', dis cr a b = true, ⟨⟨_, _, rfl⟩, by simp⟩, ?_, ?_⟩
  · rintro i y ρ2 hy ⟨⟨s8, s9, rfl⟩, ha⟩
    obtain ⟨a, hai, rfl⟩ := get_map hy
    have hak := B'.k1 a (List.mem_of_getElem? hai)
    walk_at "S"
    walk_at "w"
    refine ⟨fun j ρ2 => (∃ s9, ρ2 = [.d (teamD A cr), .d (.lst (sD l)), .d (.lst (sD m)), .d (.tup (sD l)), .d (.tup (sD m)), .d (.tup (sD f)), .d (.tup (sD n')), .d (.tup (sD r')), .d (.str a), s9]) ∧ ∀ b ∈ r'.take j, dis cr a b = true, ⟨⟨_, rfl⟩, by simp⟩, ?_, ?_⟩
    · rintro j y ρ2 hy ⟨⟨s9, rfl⟩, hb⟩
      obtain ⟨b, hbj, rfl⟩ := get_map hy
      have hbk := B'.k2 b (List.mem_of_getElem? hbj)
      walk_at "S"
      refine ⟨_, _, rfl, ⟨cr, a, b, G, rfl, hak, hbk⟩, fun z hz => ?_⟩
      have hz := hz cr a b G rfl
      subst hz
      walk_at "S"
      cases q : (!decide (a = b) && dis cr a b) with
      | false =>
        refine ifT rfl ?_
        walk_at "S"
        exact ⟨_, _, rfl, fun _ _ _ _ _ => .inl ⟨a, b, rfl⟩⟩
      | true =>
        refine ifF rfl ?_
        walk_at "S"
        refine ⟨⟨_, rfl⟩, fun o ho => ?_⟩
        rw [List.take_add_one, hbj] at ho
        rcases List.mem_append.mp ho with z | z
        · exact hb o z
        · have : o = b := by simpa using z
          subst this
          rw [Bool.and_eq_true] at q
          exact q.2
    · rintro ρ2 ⟨⟨s9, rfl⟩, hb⟩
      rw [sD_len, List.take_length] at hb
      refine ⟨⟨_, _, rfl⟩, fun o ho => ?_⟩
      rw [List.take_add_one, hai] at ho
      rcases List.mem_append.mp ho with z | z
      · exact ha o z
      · have : o = a := by simpa using z
        subst this
        exact hb
  · rintro ρ2 ⟨⟨s8, s9, rfl⟩, ha⟩
    rw [sD_len, List.take_length] at ha
    have b1 := B'.l1
    have b2 := B'.l2
    have hk : Sub cr (f ++ n' ++ r') := fun x hx => by
      rcases List.mem_append.mp hx with z | z
      · rcases List.mem_append.mp z with z | z
        · exact B'.k0 x z
        · exact B'.k1 x z
      · exact B'.k2 x z
    have hlen : (f ++ n' ++ r').length ≤ 100 := by simp; omega
    walk_at "S"
    refine w2_addT rfl rfl (le_line (by rw [sD_len, sD_len]; omega)) ?_
    walk_at "S"
    refine w2_addT rfl rfl (le_line (by rw [← sD_app, sD_len, sD_len]; simp; omega)) ?_
    rw [← sD_app, ← sD_app]
    walk_at "S"
    refine ⟨_, _, rfl, ⟨cr, some (f ++ n' ++ r'), G, rfl, fun r hr => ?_⟩, fun z hz => ?_⟩
    · cases hr
      exact ⟨hk, by omega⟩
    have hz := hz cr (some (f ++ n' ++ r')) G rfl
    subst hz
    walk_at "S"
    refine ⟨_, _, rfl, twoL_end (P := fun cr l m x => (∃ a b, x = .tup [.str "barred", .str a, .str b]) ∨ ∃ c, Sub cr c ∧ c.length ≤ 100 ∧ (∀ h, (saw cr c h).take (saw cr l h).length = saw cr l h ∧ (saw cr c h).take (saw cr m h).length = saw cr m h) ∧ x = .tup [.str "row", .lst (sD c)]) (.inr ⟨least cr (f ++ n' ++ r'), least_sub hk, by rw [least_len hk]; exact hlen, fun h => ?_, rfl⟩)⟩
    rw [least_saw hk]
    exact B'.both ha h
end
end K61

set_option Elab.async false
set_option linter.all false
set_option maxRecDepth 100000
namespace K61
open PySem PySem.Spec L2 DL
local macro_rules | `(tactic| walk_at "s") => `(tactic| first
  | with_reducible refine we_op ?_
  | with_reducible refine we_c ?_
  | with_reducible refine wa_nil ?_
  | with_reducible refine wa_cons ?_
  | with_reducible refine we_cb ?_
  | with_reducible refine we_un ?_
  | with_reducible refine we_if ?_
  | with_reducible refine wt_and ?_
  | with_reducible refine wt_or ?_
  | with_reducible refine wt_not ?_
  | with_reducible refine wt_test ?_
  | with_reducible refine wt_B ?_
  | with_reducible refine wt_yes ?_
  | with_reducible refine we_andV ?_
  | with_reducible refine we_orV ?_
  | with_reducible refine we_notV ?_
  | with_reducible refine we_isN ?_
  | with_reducible refine we_notN ?_
  | with_reducible refine we_sl ?_
  | with_reducible refine wo_no ?_
  | with_reducible refine wo_some ?_
  | with_reducible refine we_lst ?_
  | with_reducible refine we_tup ?_
  | with_reducible refine we_call ?_
  | with_reducible refine ws_seq ?_
  | with_reducible refine ws_ret ?_
  | with_reducible refine ws_drop ?_
  | with_reducible refine ws_if ?_
  | with_reducible refine ws_next ?_
  | with_reducible refine ws_break ?_
  | with_reducible refine ws_set ?_
  | with_reducible refine ws_multi ?_
  | with_reducible refine ws_asg ?_
  | with_reducible refine we_lc ?_
  | with_reducible refine we_dc ?_
  | with_reducible refine ws_for ?_
  | with_reducible refine wi_seq ?_
  | with_reducible refine wi_enum ?_
  | with_reducible refine wi_zip ?_
  | with_reducible refine wi_range1 ?_
  | with_reducible refine wi_str ?_
  | with_reducible refine we_dnewK ?_
  | ((with_reducible show WE _ (tVar _) _ _); first | refine we_var rfl ?_ | refine we_varO rfl ?_)
  | ((with_reducible show WE _ (tFld _ _ _) _ _); first | refine we_touched (by assumption) ?_ | refine we_every (by assumption) ?_)
  | ((with_reducible show W2 _ (rIxA _) _ _ _ _); first | refine w2_ixCr rfl rfl (by assumption) (by assumption) ?_ | refine w2_ixLog rfl rfl (by assumption) (by assumption) ?_ | refine w2_ixLogT rfl rfl (by assumption) (by assumption) ?_)
  | ((with_reducible show W2 _ (rInA _ _) _ _ _ _); first | refine w2_inCr rfl rfl ?_ | refine w2_inS rfl (.inl rfl) ?_ | refine w2_inS rfl (.inr rfl) ?_ | refine w2_ninS rfl (.inl rfl) ?_ | refine w2_ninS rfl (.inr rfl) ?_)
  | ((with_reducible show W2 _ (rI0 _) _ _ _ _); refine w2_I0 rfl rfl ?_)
  | ((with_reducible show W2 _ (rEqA _) _ _ _ _); first | refine w2_eqStr rfl rfl ?_ | refine w2_eqInt rfl rfl ?_ | refine w2_eqBl rfl rfl ?_)
  | ((with_reducible show W2 _ (rNeA _) _ _ _ _); first | refine w2_neStr rfl rfl ?_ | refine w2_neInt rfl rfl ?_ | refine w2_neBl rfl rfl ?_)
  | ((with_reducible show W2 _ (rAddA _) _ _ _ _); refine w2_addI rfl rfl ?_)
  | ((with_reducible show WR _ (rLenA _) _ _ _); first | refine wr_len (.inl rfl) ?_ | refine wr_len (.inr rfl) ?_ | refine wr_lenD rfl ?_)
  | ((with_reducible show WR _ (rListA _) _ _ _); first | refine wr_list (.inl rfl) ?_ | refine wr_list (.inr rfl) ?_ | refine wr_listK rfl ?_ | refine wr_listD rfl ?_)
  | ((with_reducible show WR _ (rTupA _) _ _ _); first | refine wr_tup (.inl rfl) ?_ | refine wr_tup (.inr rfl) ?_)
  | ((with_reducible show WR _ (rIsiA _) _ _ _); first | refine wr_isi rfl rfl (by decide) ?_ | refine wr_isiT ["list", "tuple"] rfl rfl (by decide) rfl ?_)
  | ((with_reducible show W3 _ (rSlLT _) _ _ _ _ _); first | refine w3_L rfl ?_ | refine w3_T rfl ?_)
  | with_reducible refine wg_name (by first | exact True.intro | decide) ?_
  | ((with_reducible show WGs _ _ gNil _ _ _); refine wgs_nil ?_)
  | ((with_reducible show WGs _ _ (gCons _ _) _ _ _); refine wgs_cons rfl ?_)
  | ((with_reducible show WG _ _ (gTup _ _ _) _ _ _); refine wg_tup rfl rfl ?_)
  | refine ⟨_, (rfl : asg _ _ _ = _), ?_⟩
  | refine ⟨_, _, (rfl : fzA _ _ _ = _), le_lineB rfl, ?_⟩
  | refine ⟨_, (rfl : SV.d _ = _), ?_⟩
  | refine ⟨_, (rfl : vw _ _ = _), ?_⟩
  | refine ⟨(rfl : nraw _ = true), ?_⟩
  | refine ⟨(rfl : List.length _ = _), le_lineB rfl, rfl, ?_⟩)
local macro_rules | `(tactic| walk_at "S") => `(tactic| repeat walk_at "s")
/-- what is walked -/
local macro_rules | `(tactic| walk_at "w") => `(tactic| first | refine ⟨_, _, .inl rfl, ?_⟩ | refine ⟨_, _, .inr rfl, ?_⟩ | refine ⟨_, _, _, rfl, .inl rfl, ?_⟩ | refine ⟨_, _, _, rfl, .inr rfl, ?_⟩)
section
variable {cr : Crw} {l m : List Str}
def logK (cr : Crw) (f : Str → List Str) : List (Key × List D) := (every cr).map fun h => (Sum.inr h, sD (f h))
theorem logK_D (f : Str → List Str) : D.dK ((logK cr f).map fun q => (q.1, .lst q.2)) = logsD cr f := by
  unfold logK logsD; rw [List.map_map]; rfl
theorem logK_nd (G : Good cr) (f : Str → List Str) : ((logK cr f).map (·.1)).Nodup := by
  unfold logK; rw [List.map_map]
  exact G.every_nd.map _ fun a b h e => h (Sum.inr.inj e)
theorem logK_put (G : Good cr) {f : Str → List Str} {h : Str} {l : List Str} (hh : h ∈ every cr) : putD (logK cr f) (Sum.inr h) (sD l) = logK cr fun k => if k = h then l else f k := by
  unfold logK
  rw [putD_mapG hh]
  refine List.map_congr_left fun k _ => ?_
  by_cases e : k = h <;> simp [e]
theorem logK_congr {f g : Str → List Str} (h : ∀ k ∈ every cr, f k = g k) : logK cr f = logK cr g := by
  unfold logK
  exact List.map_congr_left fun k hk => by rw [h k hk]
theorem logs_congr {f g : Str → List Str} (h : ∀ k ∈ every cr, f k = g k) : logsD cr f = logsD cr g := by
  unfold logsD
  exact congrArg D.dK (List.map_congr_left fun k hk => by rw [h k hk])
end
section
variable {K : PySem.W.Frag} {A : Ad}
theorem ready_take {cr : Crw} {left : List Str} {d : Str} (G : Good cr) (hl : Sub cr left) (hd : d ∈ keysOf cr) : ((hsOf cr d).all fun h => decide ((saw cr left h).take 1 = [d])) = (takeF cr left d).isSome := by
  rw [Bool.eq_iff_iff, take_iff G.hands hl hd, List.all_eq_true]
  exact ⟨fun z h hh => head_take.mp (of_decide_eq_true (z h hh)), fun z h hh => decide_eq_true (head_take.mpr (z h hh))⟩
theorem w_done_by (Q : CrewOk K A) {ds : List D} (hp : preDone A ds) : WS K (t_done_by K A (sp_is_ready K A)) (slots ["crew", "told", "logs", "found", "grown", "deed", "hand"] (ds.map SV.d)) (endP (postDone A) ds) := by
  obtain ⟨cr, r, G, rfl, hr, hz⟩ := hp
  have h5 := G.every_len
  have h8 := G.n8
  show WS K _ [.d (teamD A cr), .d (logsT cr (saw cr r)), .any, .any, .any, .any, .any] _
  unfold t_done_by
  walk_at "S"
  refine ws_par3 (by decide) (by decide) (by decide) ?_
  refine wa_cons ?_
  refine we_lkdcL dwalk_keys (path_var (kvs := (every cr).map fun h => (Sum.inr h, .tup (sD (saw cr r h)))) rfl) ?_
  rw [show ((every cr).map fun h => ((Sum.inr h : Key), D.tup (sD (saw cr r h)))).map (fun p => keyD p.1) = sD (every cr) by rw [List.map_map]; rfl]
  refine ⟨le_line (by rw [sD_len]; omega), fun i ρ2 ds => ρ2 = [.d (teamD A cr), .d (logsT cr (saw cr r)), .any, .any, .any, .any, .any] ∧ ds = ((every cr).take i).map fun h => (Sum.inr h, sD (saw cr r h)), ⟨rfl, rfl⟩, ?_, ?_⟩
  · rintro i y ρ2 ds hy ⟨rfl, rfl⟩
    obtain ⟨h, hi, rfl⟩ := get_map hy
    have hh : h ∈ every cr := List.mem_of_getElem? hi
    walk_at "S"
    refine ⟨_, _, rfl, rfl, ?_⟩
    walk_at "S"
    refine ⟨_, rfl, ?_, rfl, ?_⟩
    · rw [List.map_map]
      intro z
      obtain ⟨k, hk, e⟩ := List.mem_map.mp z
      have e : k = h := Sum.inr.inj e
      subst e
      obtain ⟨j, hj, ej⟩ := List.getElem_of_mem hk
      rw [List.getElem_take] at ej
      rw [List.length_take] at hj
      obtain ⟨h3, h4⟩ := List.getElem?_eq_some_iff.mp hi
      have := (List.getElem_inj G.every_nd).mp (ej.trans h4.symm)
      omega
    · rw [List.take_add_one, hi, List.map_append]; rfl
  rintro ρ2 ds ⟨rfl, rfl⟩
  rw [sD_len, List.take_length]
  walk_at "S"
  refine ⟨_, _, _, _, _, _, rfl, rfl, rfl, rfl, rfl, rfl, ?_⟩
  refine ws_seq ?_
  refine ws_while (fun k ρ2 => ∃ (g left : List Str) (more : Bool) (s5 s6 : SV), ρ2 = [.d (teamD A cr), .d (logsT cr (saw cr r)), .own (ownKL (logK cr (saw cr left))), .own (ownL (sD g)), .d (.bl more), s5, s6] ∧ (∀ h, saw cr r h = saw cr g h ++ saw cr left h) ∧ Sub cr g ∧ Sub cr left ∧ g.length + left.length = r.length
      ∧ (more = false → left = []) ∧ k = left.length + (if more = true then 1 else 0)) (r.length + 1)
    ⟨[], r, true, _, _, rfl, fun _ => rfl, (fun _ h => nomatch h), hr, by simp, (fun z => nomatch z), rfl⟩ ?_
  rintro k ρ2 ⟨g, left, more, s5, s6, rfl, hs, hg, hlt, hlen, hmore, hk⟩
  walk_at "S"
  cases more with
  | false =>
    refine ifF rfl ?_
    have := hmore rfl
    subst this
    walk_at "S"
    refine ⟨_, _, rfl, fun cr' r' G' hr' e => ?_⟩
    simp only [List.cons.injEq] at e
    obtain ⟨e1, e2, _⟩ := e
    have e0 := team_inj e1
    have e4 := logsT_inj e0 e2
    subst e0
    refine ⟨g, fun h => ?_, hg, ?_⟩
    · by_cases hh : h ∈ every cr
      · rw [← e4 h hh, hs h]; simp [saw]
      · rw [saw_out G hg hh, saw_out G hr' hh]
    · show D.tup [.lst (sD g), D.dK ((logK cr (saw cr [])).map fun q => (q.1, .lst q.2))] = _
      rw [logK_D]
      rfl
  | true =>
    refine ifT rfl ?_
    simp only [if_true] at hk
    walk_at "S"
    refine ws_lkfor dwalk_keys (path_touched Q rfl) ⟨fun j ρ2 => ∃ (g' left' : List Str) (more' : Bool) (s5 s6 : SV), ρ2 = [.d (teamD A cr), .d (logsT cr (saw cr r)), .own (ownKL (logK cr (saw cr left'))), .own (ownL (sD g')), .d (.bl more'), s5, s6] ∧ (∀ h, saw cr r h = saw cr g' h ++ saw cr left' h) ∧ Sub cr g' ∧ Sub cr left' ∧ g'.length + left'.length = r.length
        ∧ (more' = true → left'.length < left.length) ∧ left'.length ≤ left.length ∧ (more' = false → ∀ p ∈ cr.take j, (takeF cr left' p.1).isSome = false), ⟨g, left, false, _, _, rfl, hs, hg, hlt, hlen, (fun z => nomatch z), Nat.le_refl _, (fun _ p hp => by simp at hp)⟩, ?_, ?_⟩
    · rintro j y ρ2 hy ⟨g1, left1, more1, t5, t6, rfl, hs1, hg1, hlt1, hlen1, hm1, hle1, hn1⟩
      rw [List.map_map] at hy
      obtain ⟨p, hp, rfl⟩ := get_map hy
      have hm : p ∈ cr := List.mem_of_getElem? hp
      have hkp : p.1 ∈ keysOf cr := List.mem_map.mpr ⟨p, hm, rfl⟩
      walk_at "S"
      refine ws_while (fun k ρ2 => ∃ (g' left' : List Str) (more' : Bool) (s6 : SV), ρ2 = [.d (teamD A cr), .d (logsT cr (saw cr r)), .own (ownKL (logK cr (saw cr left'))), .own (ownL (sD g')), .d (.bl more'), .d (.str p.1), s6] ∧ (∀ h, saw cr r h = saw cr g' h ++ saw cr left' h) ∧ Sub cr g' ∧ Sub cr left' ∧ g'.length + left'.length = r.length
        ∧ (more' = true → left'.length < left.length) ∧ left'.length ≤ left.length ∧ (more' = false → ∀ p ∈ cr.take j, (takeF cr left' p.1).isSome = false) ∧ k = left'.length) left1.length
        ⟨g1, left1, more1, _, rfl, hs1, hg1, hlt1, hlen1, hm1, hle1, hn1, rfl⟩ ?_
      rintro k2 ρ2 ⟨g2, left2, more2, u6, rfl, hs2, hg2, hlt2, hlen2, hm2, hle2, hn2, hk2⟩
      refine wt_B ?_
      refine we_callB ?_
      walk_at "S"
      refine ⟨_, _, rfl, ⟨cr, saw cr left2, p.1, G, by rw [logK_D], saw_ok G hlt2 (by omega), hkp⟩, fun z hz => ?_⟩
      have hz := hz cr (saw cr left2) p.1 G (by rw [logK_D])
      rw [ready_take G hlt2 hkp] at hz
      subst hz
      refine ⟨rfl, _, rfl, ?_⟩
      cases q : (takeF cr left2 p.1).isSome with
      | false =>
        refine ifF rfl ?_
        refine ⟨g2, left2, more2, _, _, rfl, hs2, hg2, hlt2, hlen2, hm2, hle2, fun hf p' hp' => ?_⟩
        rw [List.take_add_one, hp] at hp'
        rcases List.mem_append.mp hp' with z | z
        · exact hn2 hf p' z
        · have : p' = p := by simpa using z
          subst this; exact q
      | true =>
        refine ifT rfl ?_
        obtain ⟨left3, e3⟩ := Option.isSome_iff_exists.mp q
        have hl3 := take_len e3
        have hs5 := G.hs_len hkp
        walk_at "S"
        walk_at "w"
        refine ⟨fun i ρ2 => ∃ s6, ρ2 = [.d (teamD A cr), .d (logsT cr (saw cr r)), .own (ownKL (logK cr fun h => if h ∈ (hsOf cr p.1).take i then saw cr left3 h else saw cr left2 h)), .own (ownL (sD g2)), .d (.bl more2), .d (.str p.1), s6], ⟨u6, ?_⟩, ?_, ?_⟩
        · rw [show (logK cr fun h => if h ∈ (hsOf cr p.1).take 0 then saw cr left3 h else saw cr left2 h) = logK cr (saw cr left2) from logK_congr fun h _ => by simp]
        · rintro i y ρ2 hy ⟨v6, rfl⟩
          obtain ⟨h, hi, rfl⟩ := get_map hy
          have hh : h ∈ hsOf cr p.1 := List.mem_of_getElem? hi
          have he := G.hs_every hkp hh
          have hnot : h ∉ (hsOf cr p.1).take i := fun z => by
            obtain ⟨p', hp', _, e', _⟩ := G.at hkp
            have nd : (hsOf cr p.1).Nodup := by rw [e']; exact (G.hs p' hp').2.1
            obtain ⟨j, hj, ej⟩ := List.getElem_of_mem z
            rw [List.getElem_take] at ej
            rw [List.length_take] at hj
            obtain ⟨h3, h4⟩ := List.getElem?_eq_some_iff.mp hi
            have := (List.getElem_inj nd).mp (ej.trans h4.symm)
            omega
          have hlook : lookD (logK cr fun h => if h ∈ (hsOf cr p.1).take i then saw cr left3 h else saw cr left2 h) (Sum.inr h) = some (.str p.1 :: sD (saw cr left3 h)) := by
            have := look_mapG (kf := fun h => h) (f := fun h => sD (if h ∈ (hsOf cr p.1).take i then saw cr left3 h else saw cr left2 h)) (l := every cr) (a := h) (by rw [List.map_id']; exact G.every_nd) he
            unfold logK
            rw [this, if_neg hnot, take_saw_in e3 hh]
            rfl
          refine wg_name True.intro ⟨_, rfl, ?_⟩
          refine ws_popKL (k := Sum.inr h) rfl rfl hlook (logK_nd G _) (lt_line (by rw [sD_len]; have := saw_len (cr := cr) left3 h; omega)) ?_
          refine ⟨.d (.str h), ?_⟩
          rw [logK_put G he]
          rw [show (logK cr fun k => if k = h then saw cr left3 h else if k ∈ (hsOf cr p.1).take i then saw cr left3 k else saw cr left2 k) = logK cr (fun k => if k ∈ (hsOf cr p.1).take (i + 1) then saw cr left3 k else saw cr left2 k) from logK_congr fun k _ => by
            rw [List.take_add_one, hi]
            by_cases c : k = h
            · subst c; simp
            · simp [c]]
          rfl
        · rintro ρ2 ⟨v6, rfl⟩
          rw [sD_len, List.take_length]
          rw [show (logK cr fun h => if h ∈ hsOf cr p.1 then saw cr left3 h else saw cr left2 h) = logK cr (saw cr left3) from logK_congr fun k _ => by
            by_cases c : k ∈ hsOf cr p.1
            · rw [if_pos c]
            · rw [if_neg c, take_saw_out e3 c]]
          walk_at "S"
          refine we_bm ?_
          walk_at "S"
          refine ⟨⟨_, rfl, rfl⟩, ?_⟩
          walk_at "S"
          refine wm_append rfl rfl (lt_line (by rw [sD_len]; omega)) ?_
          walk_at "S"
          refine ⟨left3.length, by omega, g2 ++ [p.1], left3, true, v6, ?_, fun h => ?_, fun x hx => ?_, take_sub e3 hlt2, by rw [List.length_append]; simp; omega, (fun _ => by omega), by omega, (fun z => nomatch z), rfl⟩
          · rw [sD_app]; rfl
          · rw [hs2 h, saw_app, saw_cons, saw_nil, take_saw e3 h]
            by_cases c : h ∈ hsOf cr p.1
            · simp [c]
            · simp [c]
          · rcases List.mem_append.mp hx with z | z
            · exact hg2 x z
            · rw [List.mem_singleton.mp z]; exact hkp
    · rintro ρ2 ⟨g1, left1, more1, t5, t6, rfl, hs1, hg1, hlt1, hlen1, hm1, hle1, hn1⟩
      rw [show ((cr.map fun p => ((Sum.inr p.1 : Key), D.tup (sD p.2))).map (fun p => keyD p.1)).length = cr.length by simp, List.take_length] at hn1
      refine ⟨left1.length + (if more1 = true then 1 else 0), ?_, g1, left1, more1, _, _, rfl, hs1, hg1, hlt1, hlen1, fun hf => ?_, rfl⟩
      · cases more1 with
        | false => simp; omega
        | true => have := hm1 rfl; simp; omega
      · refine Classical.byContradiction fun hne => ?_
        obtain ⟨d, m, q1, q2⟩ := find_some (cr := cr) hlt1 hne
        have hd := List.mem_of_find?_eq_some q1
        obtain ⟨p, hp, e⟩ := List.mem_map.mp hd
        have := hn1 hf p hp
        rw [e, q2] at this; cases this
theorem w_joined (Q : CrewOk K A) {ds : List D} (hp : preJoined A ds) : WS K (t_joined K A (sp_done_by K A) (sp_need_logs K A) (sp_least_of K A)) (slots ["crew", "logs", "found", "left"] (ds.map SV.d)) (endP (postJoined A) ds) := by
  obtain ⟨cr, r, G, rfl, hr, hz⟩ := hp
  show WS K _ [.d (teamD A cr), .d (logsD cr (saw cr r)), .any, .any] _
  unfold t_joined
  walk_at "S"
  refine ⟨_, _, rfl, ⟨cr, saw cr r, G, rfl, saw_ok G hr hz⟩, fun z hz' => ?_⟩
  have hz' := hz' cr _ G rfl
  subst hz'
  walk_at "S"
  refine ⟨_, _, rfl, ⟨cr, r, G, rfl, hr, hz⟩, fun z hz' => ?_⟩
  obtain ⟨g, h1, h2, rfl⟩ := hz' cr r G hr rfl
  have hlen : g.length = r.length := alike_len G.hands r.length rfl hr h2 fun h => (h1 h).symm
  walk_at "S"
  refine we_anyVals ?_
  walk_at "S"
  refine ⟨_, (every cr).map fun _ => [], rfl, by rw [List.map_map, List.map_map]; rfl, ?_⟩
  walk_at "S"
  refine ifT (by rw [List.any_map]; simp) ?_
  walk_at "S"
  refine ⟨_, _, rfl, ⟨cr, true, g, G, rfl, h2, by omega⟩, fun z hz' => ?_⟩
  have hz' := hz' cr true g G rfl
  subst hz'
  walk_at "S"
  refine ⟨_, _, rfl, fun cr' r' G' hr' e => ?_⟩
  simp only [List.cons.injEq] at e
  obtain ⟨e1, e2, _⟩ := e
  have e0 := team_inj e1
  have e4 := logsD_inj e0 e2
  subst e0
  have ha : ∀ h, saw cr g h = saw cr r' h := fun h => by
    by_cases hh : h ∈ every cr
    · rw [h1 h, e4 h hh]
    · rw [saw_out G h2 hh, saw_out G hr' hh]
  rw [least_alike G.hands h2 hr' ha]
  rfl
end
end K61

set_option Elab.async false
set_option linter.all false
set_option maxRecDepth 100000
namespace K61
open PySem PySem.Spec L2 DL
local macro_rules | `(tactic| walk_at "s") => `(tactic| first
  | with_reducible refine we_op ?_
  | with_reducible refine we_c ?_
  | with_reducible refine wa_nil ?_
  | with_reducible refine wa_cons ?_
  | with_reducible refine we_cb ?_
  | with_reducible refine we_un ?_
  | with_reducible refine we_if ?_
  | with_reducible refine wt_and ?_
  | with_reducible refine wt_or ?_
  | with_reducible refine wt_not ?_
  | with_reducible refine wt_test ?_
  | with_reducible refine wt_B ?_
  | with_reducible refine wt_yes ?_
  | with_reducible refine we_andV ?_
  | with_reducible refine we_orV ?_
  | with_reducible refine we_notV ?_
  | with_reducible refine we_isN ?_
  | with_reducible refine we_notN ?_
  | with_reducible refine we_sl ?_
  | with_reducible refine wo_no ?_
  | with_reducible refine wo_some ?_
  | with_reducible refine we_lst ?_
  | with_reducible refine we_tup ?_
  | with_reducible refine we_call ?_
  | with_reducible refine we_callS ?_
  | with_reducible refine ws_seq ?_
  | with_reducible refine ws_ret ?_
  | with_reducible refine ws_drop ?_
  | with_reducible refine ws_if ?_
  | with_reducible refine ws_next ?_
  | with_reducible refine ws_break ?_
  | with_reducible refine ws_set ?_
  | with_reducible refine ws_multi ?_
  | with_reducible refine ws_asg ?_
  | with_reducible refine we_lc ?_
  | with_reducible refine we_dc ?_
  | with_reducible refine ws_for ?_
  | with_reducible refine wi_seq ?_
  | with_reducible refine wi_enum ?_
  | with_reducible refine wi_zip ?_
  | with_reducible refine wi_range1 ?_
  | with_reducible refine wi_str ?_
  | with_reducible refine we_dnewK ?_
  | ((with_reducible show WE _ (tVar _) _ _); first | refine we_var rfl ?_ | refine we_varO rfl ?_)
  | ((with_reducible show WE _ (tFld _ _ _) _ _); first | refine we_touched (by assumption) ?_ | refine we_every (by assumption) ?_)
  | ((with_reducible show W2 _ (rIxA _) _ _ _ _); first | refine w2_ixCr rfl rfl (by assumption) (by assumption) ?_ | refine w2_ixLog rfl rfl (by assumption) (by assumption) ?_ | refine w2_ixLogT rfl rfl (by assumption) (by assumption) ?_)
  | ((with_reducible show W2 _ (rInA _ _) _ _ _ _); first | refine w2_inCr rfl rfl ?_ | refine w2_inS rfl (.inl rfl) ?_ | refine w2_inS rfl (.inr rfl) ?_ | refine w2_ninS rfl (.inl rfl) ?_ | refine w2_ninS rfl (.inr rfl) ?_)
  | ((with_reducible show W2 _ (rI0 _) _ _ _ _); refine w2_I0 rfl rfl ?_)
  | ((with_reducible show W2 _ (rEqA _) _ _ _ _); first | refine w2_eqStr rfl rfl ?_ | refine w2_eqInt rfl rfl ?_ | refine w2_eqBl rfl rfl ?_)
  | ((with_reducible show W2 _ (rNeA _) _ _ _ _); first | refine w2_neStr rfl rfl ?_ | refine w2_neInt rfl rfl ?_ | refine w2_neBl rfl rfl ?_)
  | ((with_reducible show W2 _ (rAddA _) _ _ _ _); refine w2_addI rfl rfl ?_)
  | ((with_reducible show WR _ (rLenA _) _ _ _); first | refine wr_len (.inl rfl) ?_ | refine wr_len (.inr rfl) ?_ | refine wr_lenD rfl ?_)
  | ((with_reducible show WR _ (rListA _) _ _ _); first | refine wr_list (.inl rfl) ?_ | refine wr_list (.inr rfl) ?_ | refine wr_listK rfl ?_ | refine wr_listD rfl ?_)
  | ((with_reducible show WR _ (rTupA _) _ _ _); first | refine wr_tup (.inl rfl) ?_ | refine wr_tup (.inr rfl) ?_)
  | ((with_reducible show WR _ (rIsiA _) _ _ _); first | refine wr_isi rfl rfl (by decide) ?_ | refine wr_isiT ["list", "tuple"] rfl rfl (by decide) rfl ?_)
  | ((with_reducible show W3 _ (rSlLT _) _ _ _ _ _); first | refine w3_L rfl ?_ | refine w3_T rfl ?_)
  | with_reducible refine wg_name (by first | exact True.intro | decide) ?_
  | ((with_reducible show WGs _ _ gNil _ _ _); refine wgs_nil ?_)
  | ((with_reducible show WGs _ _ (gCons _ _) _ _ _); refine wgs_cons rfl ?_)
  | ((with_reducible show WG _ _ (gTup _ _ _) _ _ _); refine wg_tup rfl rfl ?_)
  | refine ⟨_, (rfl : asg _ _ _ = _), ?_⟩
  | refine ⟨_, _, (rfl : fzA _ _ _ = _), le_lineB rfl, ?_⟩
  | refine ⟨_, (rfl : SV.d _ = _), ?_⟩
  | refine ⟨_, (rfl : vw _ _ = _), ?_⟩
  | refine ⟨(rfl : nraw _ = true), ?_⟩
  | refine ⟨(rfl : List.length _ = _), le_lineB rfl, rfl, ?_⟩)
local macro_rules | `(tactic| walk_at "S") => `(tactic| repeat walk_at "s")
/-- what is walked -/
local macro_rules | `(tactic| walk_at "w") => `(tactic| first | refine ⟨_, _, .inl rfl, ?_⟩ | refine ⟨_, _, .inr rfl, ?_⟩ | refine ⟨_, _, _, rfl, .inl rfl, ?_⟩ | refine ⟨_, _, _, rfl, .inr rfl, ?_⟩)
section
variable {cr : Crw} {l m : List Str}
theorem crD_end {P : Crw → D → Prop} {x : D} (h : P cr x) : ∀ cr', Good cr' → [crD cr] = [crD cr'] → P cr' x := fun cr' _ e => by
  have := crD_inj (List.cons.inj e).1
  subst this; exact h
theorem crSeq_end {P : Crw → List Str → D → Prop} {b : Bool} {x : D} (h : P cr l x) : ∀ cr' b' l', Good cr' → [crD cr, seqD b l] = [crD cr', seqD b' l'] → P cr' l' x := fun cr' b' l' _ e => by
  simp only [List.cons.injEq] at e
  have e1 := crD_inj e.1
  have e2 := seq_inj e.2.1
  subst e1 e2; exact h
def nth (l : List Str) (i : Nat) : Str := (l[i]?).getD ⟨#[]⟩
theorem nth_of {i : Nat} {x : Str} (h : l[i]? = some x) : nth l i = x := by unfold nth; rw [h]; rfl
theorem front_some {i : Nat} (h : i ∈ frontsF cr l) : l[i]? = some (nth l i) ∧ i < l.length := by
  obtain ⟨d, e, _⟩ := mem_fronts.mp h
  exact ⟨by rw [nth_of e, e], (List.getElem?_eq_some_iff.mp e).1⟩
def ints' (l : List Nat) : List D := l.map fun (i : Nat) => D.int i
theorem ixS (l : List Str) {i : Nat} {x : Str} (h : l[i]? = some x) : atI (sD l) (i : Int) = some (.str x) := atI_nat (by unfold sD; rw [List.getElem?_map, h]; rfl)
theorem fronts_len : (frontsF cr l).length ≤ l.length := by
  unfold frontsF
  refine Nat.le_trans (List.length_filter_le _ _) ?_
  rw [List.length_range]; exact Nat.le_refl _
theorem fronts_nd : (frontsF cr l).Nodup := List.nodup_range.filter _
end
section
variable {K : PySem.W.Frag} {A : Ad}
theorem w_law_mis_apart {ds : List D} (hp : preMap ds) : WS K (t_law_mis_apart K A) (slots ["crew", "one", "two", "hand"] (ds.map SV.d)) (endP postMap ds) := by
  obtain ⟨cr, a, b, G, rfl, ha, hb⟩ := hp
  have ha5 := G.hs_len ha
  show WS K _ [.d (crD cr), .d (.str a), .d (.str b), .any] _
  unfold t_law_mis_apart
  walk_at "S"
  walk_at "w"
  refine lcP (hsOf cr a) D.str (fun h => decide (h ∈ hsOf cr b)) D.str rfl (le_line (by omega)) (fun h hh => ?_) ?_
  · walk_at "S"
    refine ⟨rfl, ?_, ?_⟩
    · intro _
      walk_at "S"
      exact ⟨_, rfl, rfl⟩
    · intro _; rfl
  · walk_at "S"
    refine w2_eqS (l := (hsOf cr a).filter fun h => decide (h ∈ hsOf cr b)) (m := []) rfl rfl (ok_hn fun s hs => G.hn ha s (List.mem_filter.mp hs).1) okS_nil ?_
    refine ⟨_, _, rfl, fun cr' a' b' G' e => ?_⟩
    simp only [List.cons.injEq, D.str.injEq] at e
    obtain ⟨e1, e2, e3, _⟩ := e
    have e1 := crD_inj e1
    subst e1 e2 e3
    show D.bl _ = D.bl _
    congr 1
    rw [Bool.eq_iff_iff, filter_nil, dis_iff]
    exact ⟨fun h x hx => of_decide_eq_false (h x hx), fun h x hx => decide_eq_false (h x hx)⟩
theorem w_law_mmade_crew (Q : CrewOk K A) {ds : List D} (hp : preMade ds) : WS K (t_law_mmade_crew K A (sp_Crew_init K A)) (slots ["crew", "deed"] (ds.map SV.d)) (endP (postMade A) ds) := by
  obtain ⟨cr, G, rfl⟩ := hp
  have h8 := G.n8
  show WS K _ [.d (crD cr), .any] _
  unfold t_law_mmade_crew
  walk_at "S"
  refine we_make ?_
  walk_at "S"
  refine we_lklc dwalk_keys (path_var (kvs := cr.map fun p => (Sum.inr p.1, .tup (sD p.2))) rfl) ?_
  refine lcM cr (fun p => .str p.1) (fun p => .tup [.str p.1, .lst (sD p.2)]) (by rw [List.map_map]; rfl) (le_line (by omega)) (fun p hp => ?_) ?_
  · have hk : p.1 ∈ keysOf cr := List.mem_map.mpr ⟨p, hp, rfl⟩
    walk_at "S"
    rw [G.look hp]
    exact ⟨_, rfl, rfl⟩
  walk_at "S"
  refine wr_dictA (l := cr.map fun p => (Sum.inr p.1, .lst (sD p.2))) (by show some (D.lst _) = some (D.lst _); rw [List.map_map]; rfl) ?_
  rw [cr_nd G]
  walk_at "S"
  refine ⟨_, _, rfl, fun x => ⟨⟨rfl, cr, G, rfl⟩, fun st' d hd => ?_⟩⟩
  obtain ⟨h1, h2, h3⟩ := hd
  refine ⟨h1, h2, ?_⟩
  rw [h3 cr G rfl]
  exact ⟨_, _, rfl, crD_end (P := fun cr x => x = teamD A cr) rfl⟩
theorem w_law_mfronts {ds : List D} (hp : preMfr ds) : WS K (t_law_mfronts K A (sp_law_mis_apart K)) (slots ["crew", "row", "found", "at", "deed", "other"] (ds.map SV.d)) (endP postMfr ds) := by
  obtain ⟨cr, b, l, G, rfl, hl, hz⟩ := hp
  show WS K _ [.d (crD cr), .d (seqD b l), .any, .any, .any, .any] _
  unfold t_law_mfronts
  have body : ∀ b : Bool, ∀ i d, l[i]? = some d → ∀ (s5 : SV) (R : List SV → Prop), (R [.d (crD cr), .d (seqD b l), .own (ownL (ints' ((List.range (i + 1)).filter (frontB cr l)))), .d (.int (i : Nat)), .d (.str d), .any]) →
      WS K (tIfS (tTest (tOp (rEqA K) (tLc (iSeq K (tSl (rSlLT K) (tVar 1) (tNoPart) (tPart (tVar 3)))) (gName 5) (tNot (tB (tCall (sp_law_mis_apart K) [] E0 (tCons (tVar 0) (tCons (tVar 4) (tCons (tVar 5) (tNil))))))) (tVar 5) [5]) (tLst (tNil)))) (tDrop (tBM K "list" (rAppend) (tVar 2) (tCons (tVar 3) (tNil)))) (tNext))
        [.d (crD cr), .d (seqD b l), .own (ownL (ints' ((List.range i).filter (frontB cr l)))), .d (.int (i : Nat)), .d (.str d), s5] { nx := R, rt := fun _ _ => False } := by
    intro b i d hi s5 R hR
    have hdk : d ∈ keysOf cr := hl d (List.mem_of_getElem? hi)
    have hil : i < l.length := (List.getElem?_eq_some_iff.mp hi).1
    have hfb : frontB cr l i = (l.take i).all (dis cr d) := by unfold frontB; rw [hi]
    cases b <;> (
      walk_at "S"
      rw [cut_to]
      walk_at "w"
      refine lcP (l.take i) D.str (fun o => !dis cr d o) D.str rfl (le_line (by rw [List.length_take]; omega)) (fun o ho => ?_) ?_
      · have hok : o ∈ keysOf cr := hl o (List.mem_of_mem_take ho)
        walk_at "S"
        refine ⟨_, _, rfl, ⟨cr, d, o, G, rfl, hdk, hok⟩, fun z hz => ?_⟩
        have hz := hz cr d o G rfl
        subst hz
        walk_at "S"
        refine ⟨rfl, ?_, ?_⟩
        · intro _
          walk_at "S"
          exact ⟨_, rfl, rfl⟩
        · intro _; rfl
      walk_at "S"
      refine w2_eqS (l := (l.take i).filter fun o => !dis cr d o) (m := []) rfl rfl (ok_of fun s hs => G.key_nm (hl s (List.mem_of_mem_take (List.mem_filter.mp hs).1))) okS_nil ?_
      walk_at "S"
      have e : decide ((l.take i).filter (fun o => !dis cr d o) = []) = frontB cr l i := by
        rw [hfb, Bool.eq_iff_iff, filter_nil, List.all_eq_true]
        exact ⟨fun h x hx => by simpa using h x hx, fun h x hx => by simpa using h x hx⟩
      rw [e]
      rw [List.range_succ, List.filter_append] at hR
      cases q : frontB cr l i with
      | true =>
        refine ifT rfl ?_
        walk_at "S"
        refine we_bm ?_
        walk_at "S"
        refine ⟨⟨_, rfl, rfl⟩, ?_⟩
        walk_at "S"
        refine wm_append rfl rfl (lt_line ?_) ?_
        · unfold ints'
          rw [List.length_map]
          have := List.length_filter_le (frontB cr l) (List.range i)
          rw [List.length_range] at this
          omega
        have e2 : ints' ((List.range i).filter (frontB cr l) ++ [i].filter (frontB cr l)) = ints' ((List.range i).filter (frontB cr l)) ++ [.int (i : Nat)] := by
          rw [List.filter_cons_of_pos q]
          unfold ints'
          rw [List.map_append]; rfl
        rw [e2] at hR
        exact hR
      | false =>
        refine ifF rfl ?_
        walk_at "S"
        rw [List.filter_cons_of_neg (by simp [q]), List.filter_nil, List.append_nil] at hR
        exact hR)
  walk_at "S"
  have inv : ForC K (gTup K 2 (gCons (gName 3) (gCons (gName 4) gNil))) (tIfS (tTest (tOp (rEqA K) (tLc (iSeq K (tSl (rSlLT K) (tVar 1) (tNoPart) (tPart (tVar 3)))) (gName 5) (tNot (tB (tCall (sp_law_mis_apart K) [] E0 (tCons (tVar 0) (tCons (tVar 4) (tCons (tVar 5) (tNil))))))) (tVar 5) [5]) (tLst (tNil)))) (tDrop (tBM K "list" (rAppend) (tVar 2) (tCons (tVar 3) (tNil)))) (tNext))
      { nx := fun ρ1 => WS K (tRet (tVar 2)) ρ1 (endP postMfr [crD cr, seqD b l]), rt := (endP postMfr [crD cr, seqD b l]).rt } (enumD (sD l)) [.d (crD cr), .d (seqD b l), .own (ownL []), .any, .any, .any] := by
    refine ⟨fun i ρ2 => ∃ s3 s4 s5, ρ2 = [.d (crD cr), .d (seqD b l), .own (ownL (ints' ((List.range i).filter (frontB cr l)))), s3, s4, s5], ⟨_, _, _, rfl⟩, ?_, ?_⟩
    · rintro i y ρ2 hy ⟨s3, s4, s5, rfl⟩
      obtain ⟨d, hi, rfl⟩ := get_enum hy
      walk_at "s"
      walk_at "s"
      walk_at "s"
      walk_at "s"
      walk_at "s"
      walk_at "s"
      walk_at "s"
      refine wgs_nil ?_
      refine (body b i d hi s5 (fun ρ2 => ∃ s3 s4 s5, ρ2 = [.d (crD cr), .d (seqD b l), .own (ownL (ints' ((List.range (i + 1)).filter (frontB cr l)))), s3, s4, s5]) ⟨_, _, _, rfl⟩).imp (fun _ h => h) (fun _ _ h => h.elim) (fun _ h => h.elim) (fun _ h => h.elim)
    · rintro ρ2 ⟨s3, s4, s5, rfl⟩
      rw [enumD_len, sD_len]
      walk_at "S"
      exact ⟨_, _, rfl, crSeq_end (P := fun cr l x => x = .lst (ints' (frontsF cr l))) rfl⟩
  cases b
  · exact ⟨_, _, _, rfl, .inr rfl, inv⟩
  · exact ⟨_, _, _, rfl, .inl rfl, inv⟩
end
end K61

set_option Elab.async false
set_option linter.all false
set_option maxRecDepth 100000
namespace K61
open PySem PySem.Spec L2 DL
local macro_rules | `(tactic| walk_at "s") => `(tactic| first
  | with_reducible refine we_op ?_
  | with_reducible refine we_c ?_
  | with_reducible refine wa_nil ?_
  | with_reducible refine wa_cons ?_
  | with_reducible refine we_cb ?_
  | with_reducible refine we_un ?_
  | with_reducible refine we_if ?_
  | with_reducible refine wt_and ?_
  | with_reducible refine wt_or ?_
  | with_reducible refine wt_not ?_
  | with_reducible refine wt_test ?_
  | with_reducible refine wt_B ?_
  | with_reducible refine wt_yes ?_
  | with_reducible refine we_andV ?_
  | with_reducible refine we_orV ?_
  | with_reducible refine we_notV ?_
  | with_reducible refine we_isN ?_
  | with_reducible refine we_notN ?_
  | with_reducible refine we_sl ?_
  | with_reducible refine wo_no ?_
  | with_reducible refine wo_some ?_
  | with_reducible refine we_lst ?_
  | with_reducible refine we_tup ?_
  | with_reducible refine we_call ?_
  | with_reducible refine we_callS ?_
  | with_reducible refine ws_seq ?_
  | with_reducible refine ws_ret ?_
  | with_reducible refine ws_drop ?_
  | with_reducible refine ws_if ?_
  | with_reducible refine ws_next ?_
  | with_reducible refine ws_break ?_
  | with_reducible refine ws_set ?_
  | with_reducible refine ws_multi ?_
  | with_reducible refine ws_asg ?_
  | with_reducible refine we_lc ?_
  | with_reducible refine we_dc ?_
  | with_reducible refine ws_for ?_
  | with_reducible refine wi_seq ?_
  | with_reducible refine wi_enum ?_
  | with_reducible refine wi_zip ?_
  | with_reducible refine wi_range1 ?_
  | with_reducible refine wi_str ?_
  | with_reducible refine we_dnewK ?_
  | ((with_reducible show WE _ (tVar _) _ _); first | refine we_var rfl ?_ | refine we_varO rfl ?_)
  | ((with_reducible show WE _ (tFld _ _ _) _ _); first | refine we_touched (by assumption) ?_ | refine we_every (by assumption) ?_)
  | ((with_reducible show W2 _ (rIxA _) _ _ _ _); first | refine w2_ixCr rfl rfl (by assumption) (by assumption) ?_ | refine w2_ixLog rfl rfl (by assumption) (by assumption) ?_ | refine w2_ixLogT rfl rfl (by assumption) (by assumption) ?_)
  | ((with_reducible show W2 _ (rInA _ _) _ _ _ _); first | refine w2_inCr rfl rfl ?_ | refine w2_inS rfl (.inl rfl) ?_ | refine w2_inS rfl (.inr rfl) ?_ | refine w2_ninS rfl (.inl rfl) ?_ | refine w2_ninS rfl (.inr rfl) ?_)
  | ((with_reducible show W2 _ (rI0 _) _ _ _ _); refine w2_I0 rfl rfl ?_)
  | ((with_reducible show W2 _ (rEqA _) _ _ _ _); first | refine w2_eqStr rfl rfl ?_ | refine w2_eqInt rfl rfl ?_ | refine w2_eqBl rfl rfl ?_)
  | ((with_reducible show W2 _ (rNeA _) _ _ _ _); first | refine w2_neStr rfl rfl ?_ | refine w2_neInt rfl rfl ?_ | refine w2_neBl rfl rfl ?_)
  | ((with_reducible show W2 _ (rAddA _) _ _ _ _); refine w2_addI rfl rfl ?_)
  | ((with_reducible show WR _ (rLenA _) _ _ _); first | refine wr_len (.inl rfl) ?_ | refine wr_len (.inr rfl) ?_ | refine wr_lenD rfl ?_)
  | ((with_reducible show WR _ (rListA _) _ _ _); first | refine wr_list (.inl rfl) ?_ | refine wr_list (.inr rfl) ?_ | refine wr_listK rfl ?_ | refine wr_listD rfl ?_)
  | ((with_reducible show WR _ (rTupA _) _ _ _); first | refine wr_tup (.inl rfl) ?_ | refine wr_tup (.inr rfl) ?_)
  | ((with_reducible show WR _ (rIsiA _) _ _ _); first | refine wr_isi rfl rfl (by decide) ?_ | refine wr_isiT ["list", "tuple"] rfl rfl (by decide) rfl ?_)
  | ((with_reducible show W3 _ (rSlLT _) _ _ _ _ _); first | refine w3_L rfl ?_ | refine w3_T rfl ?_)
  | with_reducible refine wg_name (by first | exact True.intro | decide) ?_
  | ((with_reducible show WGs _ _ gNil _ _ _); refine wgs_nil ?_)
  | ((with_reducible show WGs _ _ (gCons _ _) _ _ _); refine wgs_cons rfl ?_)
  | ((with_reducible show WG _ _ (gTup _ _ _) _ _ _); refine wg_tup rfl rfl ?_)
  | refine ⟨_, (rfl : asg _ _ _ = _), ?_⟩
  | refine ⟨_, _, (rfl : fzA _ _ _ = _), le_lineB rfl, ?_⟩
  | refine ⟨_, (rfl : SV.d _ = _), ?_⟩
  | refine ⟨_, (rfl : vw _ _ = _), ?_⟩
  | refine ⟨(rfl : nraw _ = true), ?_⟩
  | refine ⟨(rfl : List.length _ = _), le_lineB rfl, rfl, ?_⟩)
local macro_rules | `(tactic| walk_at "S") => `(tactic| repeat walk_at "s")
/-- what is walked -/
local macro_rules | `(tactic| walk_at "w") => `(tactic| first | refine ⟨_, _, .inl rfl, ?_⟩ | refine ⟨_, _, .inr rfl, ?_⟩ | refine ⟨_, _, _, rfl, .inl rfl, ?_⟩ | refine ⟨_, _, _, rfl, .inr rfl, ?_⟩)
section
variable {K : PySem.W.Frag} {A : Ad}
theorem pys_ints (l : List Nat) : pys (ints' l) = some (l.map fun (i : Nat) => PyData.int i) := by
  induction l with
  | nil => rfl
  | cons a r ih =>
    show (match py (.int a), pys (ints' r) with
      | some d, some ds => some (d :: ds)
      | _, _ => none) = _
    rw [ih]; rfl
theorem ints_shaped (l : List Nat) : SeqAt.shaped (.list (l.map fun (i : Nat) => PyData.int i)) = true := by
  have h1 : PyData.canLayAll0 (l.map fun (i : Nat) => PyData.int i) = true := by
    induction l with
    | nil => simp [PyData.canLayAll0]
    | cons a r ih => simp only [List.map_cons, PyData.canLayAll0, ih, PyData.canLay0, Bool.and_true]
  have h2 : PyData.depthAll (l.map fun (i : Nat) => PyData.int i) ≤ 1 := by
    induction l with
    | nil => simp [PyData.depthAll]
    | cons a r ih =>
      simp only [List.map_cons, PyData.depthAll, PyData.depth]
      have := ih (by simp only [List.map_cons, PyData.canLayAll0, Bool.and_eq_true] at h1; exact h1.2)
      omega
  unfold SeqAt.shaped
  rw [Bool.and_eq_true]
  refine ⟨by simp only [PyData.canLay0]; exact h1, decide_eq_true ?_⟩
  simp only [PyData.depth]; omega
theorem w2_neNil {ρ : List SV} {C : SV → List SV → Prop} {x y : SV} {l : List Nat} (hx : vw x ρ = some (.lst (ints' l))) (hy : vw y ρ = some (.lst [])) (k : C (.d (.bl (!decide (l = [])))) ρ) : W2 K (rNeA K) x y ρ C :=
  w2_neD hx hy (d := .list (l.map fun (i : Nat) => PyData.int i)) (e := .list []) (by show (pys _).map _ = _; rw [pys_ints]; rfl) rfl (ints_shaped l) (ints_shaped []) (by
    have : PyData.eqv (.list (l.map fun (i : Nat) => PyData.int i)) (.list []) = decide (l = []) := by
      simp only [PyData.eqv]
      cases l <;> rfl
    rw [this]; exact k)
theorem ixI (l : List Nat) {i : Nat} {x : Nat} (h : l[i]? = some x) : atI (ints' l) (i : Int) = some (.int x) := atI_nat (by unfold ints'; rw [List.getElem?_map, h]; rfl)
theorem w_law_mleast {ds : List D} (hp : preMfr ds) : WS K (t_law_mleast K A (sp_law_mfronts K)) (slots ["crew", "row", "left", "found", "turn", "at"] (ds.map SV.d)) (endP postMleast ds) := by
  obtain ⟨cr, b, l, G, rfl, hl, hz⟩ := hp
  show WS K _ [.d (crD cr), .d (seqD b l), .any, .any, .any, .any] _
  unfold t_law_mleast
  walk_at "S"
  refine wr_list seq_vw ?_
  walk_at "S"
  refine wr_len seq_vw ?_
  walk_at "S"
  refine ⟨_, _, rfl, rfl, by rw [sD_len]; omega, by rw [sD_len]; omega, ?_⟩
  rw [sD_len]
  refine ⟨fun i ρ2 => ∃ (g left : List Str) (s4 s5 : SV), ρ2 = [.d (crD cr), .d (seqD b l), .own (ownL (sD left)), .own (ownL (sD g)), s4, s5] ∧ Sub cr left ∧ g.length = i ∧ g.length + left.length = l.length ∧ g ++ leastN cr left.length left = least cr l, ⟨[], l, _, _, rfl, hl, rfl, by simp, rfl⟩, ?_, ?_⟩
  · rintro i y ρ2 hy ⟨g, left, s4, s5, rfl, hlt, hg, hlen, hgl⟩
    have hi : i < l.length := by
      have := (List.getElem?_eq_some_iff.mp hy).1
      simpa [intsD] using this
    have hlz : left.length ≤ 200 := by omega
    have hne : left ≠ [] := fun z => by subst z; simp at hlen; omega
    walk_at "S"
    refine ⟨_, _, rfl, ⟨cr, true, left, G, rfl, hlt, hlz⟩, fun z hz => ?_⟩
    have hz := hz cr true left G rfl
    subst hz
    walk_at "w"
    refine lcM (frontsF cr left) (fun (i : Nat) => .int i) (fun i => pairSI (nth left i, (i : Int))) rfl (le_line (by have := fronts_len (cr := cr) (l := left); omega)) (fun j hj => ?_) ?_
    · obtain ⟨f1, f2⟩ := front_some hj
      walk_at "S"
      refine w2_ixL rfl rfl (ixS left f1) ?_
      walk_at "S"
      exact ⟨_, rfl, rfl⟩
    walk_at "S"
    refine wr_sortedSI (l := (frontsF cr left).map fun i => (nth left i, (i : Int))) (by show some (D.lst _) = some (D.lst _); rw [List.map_map]; rfl) (fun l' pm so => ?_)
    cases l' with
    | nil =>
      exfalso
      have := pm.length_eq
      rw [List.length_map] at this
      exact fronts_ne hne (List.length_eq_zero_iff.mp this.symm)
    | cons p rest =>
      have hp : p ∈ (frontsF cr left).map fun i => (nth left i, (i : Int)) := pm.mem_iff.mp (by simp)
      obtain ⟨j, hj, rfl⟩ := List.mem_map.mp hp
      obtain ⟨f1, f2⟩ := front_some hj
      have key := least_step G.hands G.asc hlt rfl hj f1 fun j' d' hj' e' => by
        have hm : (d', (j' : Int)) ∈ (nth left j, (j : Int)) :: rest := pm.mem_iff.mpr (List.mem_map.mpr ⟨j', hj', by rw [nth_of e']⟩)
        rcases List.mem_cons.mp hm with z | z
        · rw [z]
          exact SrtO.lexSI_no.mpr fun q => by
            rcases q with q | q
            · exact List.lt_irrefl _ q
            · omega
        · exact (List.pairwise_cons.mp so).1 _ z
      walk_at "S"
      refine w2_ixL rfl rfl (atI_nat (j := 0) rfl) ?_
      walk_at "S"
      refine w2_ixT rfl rfl (atI_nat (j := 1) rfl) ?_
      walk_at "S"
      refine we_bm ?_
      walk_at "S"
      refine ⟨⟨_, rfl, rfl⟩, ?_⟩
      walk_at "S"
      refine w2_ixL rfl rfl (ixS left f1) ?_
      walk_at "S"
      refine wm_append rfl rfl (lt_line (by rw [sD_len]; omega)) ?_
      walk_at "S"
      rw [cut_to, cut_from1]
      refine w2_addL rfl rfl (le_line (by rw [sD_len, sD_len, List.length_take, List.length_drop]; omega)) ?_
      walk_at "S"
      have hle : (left.eraseIdx j).length = left.length - 1 := List.length_eraseIdx_of_lt f2
      refine ⟨g ++ [nth left j], left.eraseIdx j, .d y, .d (.int (j : Int)), ?_, take_sub key.2 hlt, by rw [List.length_append]; simp; omega, by rw [List.length_append, hle]; simp; omega, ?_⟩
      · rw [← sD_app, cut_erase, sD_app]
        rfl
      · rw [← hgl, List.append_assoc]
        congr 1
        rw [hle]
        obtain ⟨k, hk⟩ : ∃ k, left.length = k + 1 := ⟨left.length - 1, by omega⟩
        rw [hk, leastN_step key.1 key.2]
        rfl
  · rintro ρ2 ⟨g, left, s4, s5, rfl, hlt, hg, hlen, hgl⟩
    have : left = [] := by
      have hg : g.length = l.length := by rw [hg]; simp [intsD]
      exact List.length_eq_zero_iff.mp (by omega)
    subst this
    walk_at "S"
    refine ⟨_, _, rfl, crSeq_end (P := fun cr l x => x = .lst (sD (least cr l))) ?_⟩
    rw [← hgl]
    simp [leastN]
end
end K61

set_option Elab.async false
set_option linter.all false
set_option maxRecDepth 100000
namespace K61
open PySem PySem.Spec L2 DL
local macro_rules | `(tactic| walk_at "s") => `(tactic| first
  | with_reducible refine we_op ?_
  | with_reducible refine we_c ?_
  | with_reducible refine wa_nil ?_
  | with_reducible refine wa_cons ?_
  | with_reducible refine we_cb ?_
  | with_reducible refine we_un ?_
  | with_reducible refine we_if ?_
  | with_reducible refine wt_and ?_
  | with_reducible refine wt_or ?_
  | with_reducible refine wt_not ?_
  | with_reducible refine wt_test ?_
  | with_reducible refine wt_B ?_
  | with_reducible refine wt_yes ?_
  | with_reducible refine we_andV ?_
  | with_reducible refine we_orV ?_
  | with_reducible refine we_notV ?_
  | with_reducible refine we_isN ?_
  | with_reducible refine we_notN ?_
  | with_reducible refine we_sl ?_
  | with_reducible refine wo_no ?_
  | with_reducible refine wo_some ?_
  | with_reducible refine we_lst ?_
  | with_reducible refine we_tup ?_
  | with_reducible refine we_call ?_
  | with_reducible refine we_callS ?_
  | with_reducible refine ws_seq ?_
  | with_reducible refine ws_ret ?_
  | with_reducible refine ws_drop ?_
  | with_reducible refine ws_if ?_
  | with_reducible refine ws_next ?_
  | with_reducible refine ws_break ?_
  | with_reducible refine ws_set ?_
  | with_reducible refine ws_multi ?_
  | with_reducible refine ws_asg ?_
  | with_reducible refine we_lc ?_
  | with_reducible refine we_dc ?_
  | with_reducible refine ws_for ?_
  | with_reducible refine wi_seq ?_
  | with_reducible refine wi_enum ?_
  | with_reducible refine wi_zip ?_
  | with_reducible refine wi_range1 ?_
  | with_reducible refine wi_str ?_
  | with_reducible refine we_dnewK ?_
  | ((with_reducible show WE _ (tVar _) _ _); first | refine we_var rfl ?_ | refine we_varO rfl ?_)
  | ((with_reducible show WE _ (tFld _ _ _) _ _); first | refine we_touched (by assumption) ?_ | refine we_every (by assumption) ?_)
  | ((with_reducible show W2 _ (rIxA _) _ _ _ _); first | refine w2_ixCr rfl rfl (by assumption) (by assumption) ?_ | refine w2_ixLog rfl rfl (by assumption) (by assumption) ?_ | refine w2_ixLogT rfl rfl (by assumption) (by assumption) ?_)
  | ((with_reducible show W2 _ (rInA _ _) _ _ _ _); first | refine w2_inCr rfl rfl ?_ | refine w2_inS rfl (.inl rfl) ?_ | refine w2_inS rfl (.inr rfl) ?_ | refine w2_ninS rfl (.inl rfl) ?_ | refine w2_ninS rfl (.inr rfl) ?_)
  | ((with_reducible show W2 _ (rI0 _) _ _ _ _); refine w2_I0 rfl rfl ?_)
  | ((with_reducible show W2 _ (rEqA _) _ _ _ _); first | refine w2_eqStr rfl rfl ?_ | refine w2_eqInt rfl rfl ?_ | refine w2_eqBl rfl rfl ?_)
  | ((with_reducible show W2 _ (rNeA _) _ _ _ _); first | refine w2_neStr rfl rfl ?_ | refine w2_neInt rfl rfl ?_ | refine w2_neBl rfl rfl ?_)
  | ((with_reducible show W2 _ (rAddA _) _ _ _ _); refine w2_addI rfl rfl ?_)
  | ((with_reducible show WR _ (rLenA _) _ _ _); first | refine wr_len (.inl rfl) ?_ | refine wr_len (.inr rfl) ?_ | refine wr_lenD rfl ?_)
  | ((with_reducible show WR _ (rListA _) _ _ _); first | refine wr_list (.inl rfl) ?_ | refine wr_list (.inr rfl) ?_ | refine wr_listK rfl ?_ | refine wr_listD rfl ?_)
  | ((with_reducible show WR _ (rTupA _) _ _ _); first | refine wr_tup (.inl rfl) ?_ | refine wr_tup (.inr rfl) ?_)
  | ((with_reducible show WR _ (rIsiA _) _ _ _); first | refine wr_isi rfl rfl (by decide) ?_ | refine wr_isiT ["list", "tuple"] rfl rfl (by decide) rfl ?_)
  | ((with_reducible show W3 _ (rSlLT _) _ _ _ _ _); first | refine w3_L rfl ?_ | refine w3_T rfl ?_)
  | with_reducible refine wg_name (by first | exact True.intro | decide) ?_
  | ((with_reducible show WGs _ _ gNil _ _ _); refine wgs_nil ?_)
  | ((with_reducible show WGs _ _ (gCons _ _) _ _ _); refine wgs_cons rfl ?_)
  | ((with_reducible show WG _ _ (gTup _ _ _) _ _ _); refine wg_tup rfl rfl ?_)
  | refine ⟨_, (rfl : asg _ _ _ = _), ?_⟩
  | refine ⟨_, _, (rfl : fzA _ _ _ = _), le_lineB rfl, ?_⟩
  | refine ⟨_, (rfl : SV.d _ = _), ?_⟩
  | refine ⟨_, (rfl : vw _ _ = _), ?_⟩
  | refine ⟨(rfl : nraw _ = true), ?_⟩
  | refine ⟨(rfl : List.length _ = _), le_lineB rfl, rfl, ?_⟩)
local macro_rules | `(tactic| walk_at "S") => `(tactic| repeat walk_at "s")
/-- what is walked -/
local macro_rules | `(tactic| walk_at "w") => `(tactic| first | refine ⟨_, _, .inl rfl, ?_⟩ | refine ⟨_, _, .inr rfl, ?_⟩ | refine ⟨_, _, _, rfl, .inl rfl, ?_⟩ | refine ⟨_, _, _, rfl, .inr rfl, ?_⟩)
section
variable {cr : Crw} {l m : List Str}
abbrev endS (post : Sq → List D → Sq → D → Prop) (st : Sq) (ds : List D) : Post := { nx := fun ρ => ∃ st1, ρ[0]? = some (.own (ownS st1)) ∧ post st ds st1 .non, rt := fun z ρ => ∃ x ρ' st1, fzT z ρ = some (x, ρ') ∧ ρ'[0]? = some (.own (ownS st1)) ∧ post st ds st1 x }
theorem optL_inj {o o' : Option (List Str)} (e : optL o = optL o') : o = o' := by
  cases o <;> cases o'
  · rfl
  · cases e
  · cases e
  · rw [sD_inj (D.lst.inj e)]
end
section
variable {K : PySem.W.Frag} {A : Ad}
theorem w_law_mtaken {ds : List D} (hp : preMtk ds) : WS K (t_law_mtaken K A (sp_law_mfronts K)) (slots ["crew", "row", "deed", "places", "at"] (ds.map SV.d)) (endP postMtk ds) := by
  obtain ⟨cr, l, d, G, rfl, hl, hz, hd⟩ := hp
  show WS K _ [.d (crD cr), .d (.lst (sD l)), .d (.str d), .any, .any] _
  have fin : ∀ z ρ ρ' x, fzT z ρ = some (x, ρ') → x = optL (takeF cr l d) → (endP postMtk [crD cr, .lst (sD l), .str d]).rt z ρ := fun z ρ ρ' x h e => ⟨x, ρ', h, fun cr' l' d' G' q => by
    simp only [List.cons.injEq, D.lst.injEq, D.str.injEq] at q
    obtain ⟨e1, e2, e3, _⟩ := q
    rw [e, crD_inj e1, sD_inj e2, e3]⟩
  unfold t_law_mtaken
  walk_at "S"
  refine ⟨_, _, rfl, ⟨cr, true, l, G, rfl, hl, hz⟩, fun z hz' => ?_⟩
  have hz' := hz' cr true l G rfl
  subst hz'
  walk_at "w"
  refine lcP (frontsF cr l) (fun (i : Nat) => .int i) (fun i => decide (nth l i = d)) (fun (i : Nat) => .int i) rfl (le_line (by have := fronts_len (cr := cr) (l := l); omega)) (fun j hj => ?_) ?_
  · obtain ⟨f1, f2⟩ := front_some hj
    walk_at "S"
    refine w2_ixL rfl rfl (ixS l f1) ?_
    walk_at "S"
    refine ⟨rfl, ?_, ?_⟩
    · intro _
      walk_at "S"
      exact ⟨_, rfl, rfl⟩
    · intro _; rfl
  walk_at "S"
  refine w2_neNil (l := (frontsF cr l).filter fun i => decide (nth l i = d)) rfl rfl ?_
  walk_at "S"
  cases e : (frontsF cr l).filter fun i => decide (nth l i = d) with
  | nil =>
    refine ifF rfl ?_
    walk_at "S"
    refine fin _ _ _ _ rfl ?_
    have : takeF cr l d = none := by
      cases q : takeF cr l d with
      | none => rfl
      | some l' =>
        obtain ⟨i, h1, h2, _⟩ := take_fronts q
        have := List.filter_eq_nil_iff.mp e i h1
        rw [nth_of h2] at this
        exact absurd (decide_eq_true rfl) this
    rw [this]; rfl
  | cons i rest =>
    have hi : i ∈ (frontsF cr l).filter fun i => decide (nth l i = d) := by rw [e]; simp
    obtain ⟨h1, h2⟩ := List.mem_filter.mp hi
    have h2 := of_decide_eq_true h2
    obtain ⟨f1, f2⟩ := front_some h1
    rw [h2] at f1
    refine ifT rfl ?_
    walk_at "S"
    refine w2_ixL rfl rfl (atI_nat (j := 0) rfl) ?_
    walk_at "S"
    refine w2_ixL rfl rfl (atI_nat (j := 0) rfl) ?_
    walk_at "S"
    rw [cut_to, cut_from1]
    refine w2_addL rfl rfl (le_line (by rw [sD_len, sD_len, List.length_take, List.length_drop]; omega)) ?_
    refine fin _ _ _ _ rfl ?_
    rw [← sD_app, cut_erase, fronts_take G.hands hl h1 f1]
    rfl
theorem w_law_mrest {ds : List D} (hp : preMrest ds) : WS K (t_law_mrest K A (sp_law_mtaken K)) (slots ["crew", "row", "second", "left", "deed"] (ds.map SV.d)) (endP postMrest ds) := by
  obtain ⟨cr, l, m, G, rfl, hl, hm, hz, hz2⟩ := hp
  show WS K _ [.d (crD cr), .d (.lst (sD l)), .d (.lst (sD m)), .any, .any] _
  unfold t_law_mrest
  walk_at "S"
  walk_at "w"
  refine ⟨fun i ρ2 => ∃ s3 s4, ρ2 = [.d (crD cr), .d (.lst (sD l)), .d (.lst (sD m)), s3, s4] ∧ (s3 = .d (optL (restF cr l (m.take i))) ∨ ∃ r, restF cr l (m.take i) = some r ∧ s3 = .own (ownL (sD r))), ⟨_, _, rfl, .inr ⟨l, rfl, rfl⟩⟩, ?_, ?_⟩
  · rintro i y ρ2 hy ⟨s3, s4, rfl, h3⟩
    obtain ⟨d, hd, rfl⟩ := get_map hy
    have hdk := hm d (List.mem_of_getElem? hd)
    have e : restF cr l (m.take (i + 1)) = (restF cr l (m.take i)).bind fun x => takeF cr x d := by rw [List.take_add_one, hd]; exact rest_snoc
    have some_case : ∀ r s3, restF cr l (m.take i) = some r → (s3 = .d (.lst (sD r)) ∨ s3 = .own (ownL (sD r))) → WG K (fun _ => True) (gName 4) (.d (.str d)) [.d (crD cr), .d (.lst (sD l)), .d (.lst (sD m)), s3, s4] fun ρ3 => WS K (tAsg (tIf (tB (tIsN (tVar 3))) (tC .non) (tCall (sp_law_mtaken K) [] E0 (tCons (tVar 0) (tCons (tVar 3) (tCons (tVar 4) (tNil)))))) (gName 3)) ρ3
        { nx := fun ρ2 => ∃ s3 s4, ρ2 = [.d (crD cr), .d (.lst (sD l)), .d (.lst (sD m)), s3, s4] ∧ (s3 = .d (optL (restF cr l (m.take (i + 1)))) ∨ ∃ r, restF cr l (m.take (i + 1)) = some r ∧ s3 = .own (ownL (sD r))), rt := fun _ _ => False } := by
      intro r s3 q hs
      obtain ⟨r1, r2, r3⟩ := rest_saw q
      rcases hs with rfl | rfl
      · walk_at "S"
        refine ifF rfl ?_
        walk_at "S"
        refine ⟨_, _, rfl, ⟨cr, r, d, G, rfl, fun x hx => hl x (r3 x hx), by omega, hdk⟩, fun z hz => ?_⟩
        have hz := hz cr r d G rfl
        subst hz
        walk_at "S"
        exact ⟨_, _, rfl, .inl (by rw [e, q]; rfl)⟩
      · walk_at "S"
        refine ifF rfl ?_
        walk_at "S"
        refine ⟨_, _, rfl, ⟨cr, r, d, G, rfl, fun x hx => hl x (r3 x hx), by omega, hdk⟩, fun z hz => ?_⟩
        have hz := hz cr r d G rfl
        subst hz
        walk_at "S"
        exact ⟨_, _, rfl, .inl (by rw [e, q]; rfl)⟩
    have imp : ∀ {s3 : SV} {R : Post}, (∀ ρ2, (∃ s3 s4, ρ2 = [.d (crD cr), .d (.lst (sD l)), .d (.lst (sD m)), s3, s4] ∧ (s3 = .d (optL (restF cr l (m.take (i + 1)))) ∨ ∃ r, restF cr l (m.take (i + 1)) = some r ∧ s3 = .own (ownL (sD r)))) → R.nx ρ2) →
        (WG K (fun _ => True) (gName 4) (.d (.str d)) [.d (crD cr), .d (.lst (sD l)), .d (.lst (sD m)), s3, s4] fun ρ3 => WS K (tAsg (tIf (tB (tIsN (tVar 3))) (tC .non) (tCall (sp_law_mtaken K) [] E0 (tCons (tVar 0) (tCons (tVar 3) (tCons (tVar 4) (tNil)))))) (gName 3)) ρ3
        { nx := fun ρ2 => ∃ s3 s4, ρ2 = [.d (crD cr), .d (.lst (sD l)), .d (.lst (sD m)), s3, s4] ∧ (s3 = .d (optL (restF cr l (m.take (i + 1)))) ∨ ∃ r, restF cr l (m.take (i + 1)) = some r ∧ s3 = .own (ownL (sD r))), rt := fun _ _ => False }) →
        WG K (fun _ => True) (gName 4) (.d (.str d)) [.d (crD cr), .d (.lst (sD l)), .d (.lst (sD m)), s3, s4] fun ρ3 => WS K (tAsg (tIf (tB (tIsN (tVar 3))) (tC .non) (tCall (sp_law_mtaken K) [] E0 (tCons (tVar 0) (tCons (tVar 3) (tCons (tVar 4) (tNil)))))) (gName 3)) ρ3 R := fun {s3 R} hR w => by
      intro b σ H θ τ v Q na S q
      exact w b σ H θ τ v Q na S fun ρ3 σ3 H3 h S3 => q ρ3 σ3 H3 (h.imp hR (fun _ _ h => h.elim) (fun _ h => h.elim) (fun _ h => h.elim)) S3
    rcases h3 with rfl | ⟨r, hr, rfl⟩
    · cases q : restF cr l (m.take i) with
      | none =>
        show WG K _ _ _ [.d (crD cr), .d (.lst (sD l)), .d (.lst (sD m)), .d .non, s4] _
        walk_at "S"
        refine ifT rfl ?_
        walk_at "S"
        exact ⟨_, _, rfl, .inl (by rw [e, q]; rfl)⟩
      | some r => exact imp (fun _ h => h) (some_case r _ q (.inl rfl))
    · exact imp (fun _ h => h) (some_case r _ hr (.inr rfl))
  · rintro ρ2 ⟨s3, s4, rfl, h3⟩
    rw [sD_len, List.take_length] at h3
    have fin : ∀ z ρ ρ' x, fzT z ρ = some (x, ρ') → x = optL (restF cr l m) → (endP postMrest [crD cr, .lst (sD l), .lst (sD m)]).rt z ρ := fun z ρ ρ' x h e => ⟨x, ρ', h, fun cr' l' m' G' q => by
      simp only [List.cons.injEq, D.lst.injEq] at q
      obtain ⟨e1, e2, e3, _⟩ := q
      rw [e, crD_inj e1, sD_inj e2, sD_inj e3]⟩
    rcases h3 with rfl | ⟨r, hr, rfl⟩
    · walk_at "S"
      exact fin _ _ _ _ rfl rfl
    · walk_at "S"
      exact fin _ _ _ _ rfl (by rw [hr]; rfl)
theorem w_law_mtwo {ds : List D} (hp : preMtwo ds) : WS K (t_law_mtwo K A) (slots ["ones", "others", "found", "one", "other"] (ds.map SV.d)) (endP postMtwo ds) := by
  obtain ⟨xs, ys, rfl, h1, h2⟩ := hp
  show WS K _ [.d (.lst xs), .d (.lst ys), .any, .any, .any] _
  unfold t_law_mtwo
  have flen : ∀ i, ((xs.take i).flatMap fun a => ys.map fun b => D.tup [a, b]).length ≤ 100 := fun i => by
    rw [List.length_flatMap]
    have : ∀ zs : List D, ((zs.map fun a => (ys.map fun b => D.tup [a, b]).length).sum) = zs.length * ys.length := by
      intro zs
      induction zs with
      | nil => simp
      | cons z zs ih => rw [List.map_cons, List.sum_cons, ih, List.length_map, List.length_cons, Nat.succ_mul]; omega
    rw [this, List.length_take]
    exact Nat.le_trans (Nat.mul_le_mul (Nat.le_trans (Nat.min_le_right _ _) h1) h2) (by decide)
  walk_at "S"
  walk_at "w"
  refine ⟨fun i ρ2 => ∃ s3 s4, ρ2 = [.d (.lst xs), .d (.lst ys), .own (ownL ((xs.take i).flatMap fun a => ys.map fun b => D.tup [a, b])), s3, s4], ⟨_, _, rfl⟩, ?_, ?_⟩
  · rintro i a ρ2 hy ⟨s3, s4, rfl⟩
    walk_at "S"
    walk_at "w"
    refine lcM ys (fun b => b) (fun b => .tup [a, b]) (by simp) (le_line (by omega)) (fun b hb => ?_) ?_
    · walk_at "S"
      exact ⟨_, rfl, rfl⟩
    refine w2_addL rfl rfl (le_line (by have := flen i; rw [List.length_map]; omega)) ?_
    walk_at "S"
    refine ⟨.d a, .any, ?_⟩
    rw [List.take_add_one, hy, List.flatMap_append]
    simp only [Option.toList, List.flatMap_cons, List.flatMap_nil, List.append_nil]
    rfl
  · rintro ρ2 ⟨s3, s4, rfl⟩
    rw [List.take_length]
    walk_at "S"
    refine ⟨_, _, rfl, fun xs' ys' e => ?_⟩
    simp only [List.cons.injEq, D.lst.injEq] at e
    rw [e.1, e.2.1]
theorem w_law_mhands {ds : List D} (hp : preMade ds) : WS K (t_law_mhands K A) (slots ["crew", "found", "deed", "hand"] (ds.map SV.d)) (endP postMhands ds) := by
  obtain ⟨cr, G, rfl⟩ := hp
  have h8 := G.n8
  show WS K _ [.d (crD cr), .any, .any, .any] _
  unfold t_law_mhands
  walk_at "S"
  refine ws_lkfor dwalk_keys (path_var (kvs := cr.map fun p => (Sum.inr p.1, .tup (sD p.2))) rfl) ⟨fun i ρ2 => ∃ s2 s3, ρ2 = [.d (crD cr), .own (ownL (sD ((cr.take i).foldl (fun f p => addH f p.2) []))), s2, s3], ⟨_, _, rfl⟩, ?_, ?_⟩
  · rintro i y ρ2 hy ⟨s2, s3, rfl⟩
    rw [List.map_map] at hy
    obtain ⟨p, hp, rfl⟩ := get_map hy
    have hm : p ∈ cr := List.mem_of_getElem? hp
    have hk : p.1 ∈ keysOf cr := List.mem_map.mpr ⟨p, hm, rfl⟩
    have h5 := G.hl hm
    have hf := fold_len G i
    walk_at "S"
    rw [G.look hm]
    walk_at "w"
    generalize hfd : (cr.take i).foldl (fun f p => addH f p.2) [] = fd at *
    refine lcP p.2 D.str (fun h => decide (h ∉ fd)) D.str rfl (le_line (by omega)) (fun h hh => ?_) ?_
    · walk_at "S"
      refine ⟨by simp, ?_, ?_⟩
      · intro _
        walk_at "S"
        exact ⟨_, rfl, rfl⟩
      · intro _; rfl
    refine w2_addL rfl rfl (le_line (by rw [sD_len, List.length_map]; have := List.length_filter_le (fun h => decide (h ∉ fd)) p.2; omega)) ?_
    walk_at "S"
    refine ⟨.d (.str p.1), .any, ?_⟩
    rw [fold_take hp, hfd]
    show _ = [SV.d (crD cr), .own (ownL (sD (fd ++ p.2.filter fun h => decide (h ∉ fd)))), _, _]
    rw [sD_app]
    rfl
  · rintro ρ2 ⟨s2, s3, rfl⟩
    rw [show ((cr.map fun p => ((Sum.inr p.1 : Key), D.tup (sD p.2))).map (fun p => keyD p.1)).length = cr.length by simp, List.take_length]
    walk_at "S"
    refine wr_sortedS (l := allH cr) rfl ?_ ?_
    · have := G.every_len
      unfold every at this; rw [sortS_len] at this; omega
    exact ⟨_, _, rfl, crD_end (P := fun cr x => x = .lst (sD (every cr))) rfl⟩
end
end K61

set_option Elab.async false
set_option linter.all false
set_option maxRecDepth 100000
namespace K61
open PySem PySem.Spec L2 DL
local macro_rules | `(tactic| walk_at "s") => `(tactic| first
  | with_reducible refine we_op ?_
  | with_reducible refine we_c ?_
  | with_reducible refine wa_nil ?_
  | with_reducible refine wa_cons ?_
  | with_reducible refine we_cb ?_
  | with_reducible refine we_un ?_
  | with_reducible refine we_if ?_
  | with_reducible refine wt_and ?_
  | with_reducible refine wt_or ?_
  | with_reducible refine wt_not ?_
  | with_reducible refine wt_test ?_
  | with_reducible refine wt_B ?_
  | with_reducible refine wt_yes ?_
  | with_reducible refine we_andV ?_
  | with_reducible refine we_orV ?_
  | with_reducible refine we_notV ?_
  | with_reducible refine we_isN ?_
  | with_reducible refine we_notN ?_
  | with_reducible refine we_sl ?_
  | with_reducible refine wo_no ?_
  | with_reducible refine wo_some ?_
  | with_reducible refine we_lst ?_
  | with_reducible refine we_tup ?_
  | with_reducible refine we_call ?_
  | with_reducible refine we_callS ?_
  | with_reducible refine ws_seq ?_
  | with_reducible refine ws_ret ?_
  | with_reducible refine ws_drop ?_
  | with_reducible refine ws_if ?_
  | with_reducible refine ws_next ?_
  | with_reducible refine ws_break ?_
  | with_reducible refine ws_set ?_
  | with_reducible refine ws_multi ?_
  | with_reducible refine ws_asg ?_
  | with_reducible refine we_lc ?_
  | with_reducible refine we_dc ?_
  | with_reducible refine ws_for ?_
  | with_reducible refine wi_seq ?_
  | with_reducible refine wi_enum ?_
  | with_reducible refine wi_zip ?_
  | with_reducible refine wi_range1 ?_
  | with_reducible refine wi_str ?_
  | with_reducible refine we_dnewK ?_
  | ((with_reducible show WE _ (tVar _) _ _); first | refine we_var rfl ?_ | refine we_varO rfl ?_)
  | ((with_reducible show WE _ (tFld _ _ _) _ _); first | refine we_touched (by assumption) ?_ | refine we_every (by assumption) ?_)
  | ((with_reducible show W2 _ (rIxA _) _ _ _ _); first | refine w2_ixCr rfl rfl (by assumption) (by assumption) ?_ | refine w2_ixLog rfl rfl (by assumption) (by assumption) ?_ | refine w2_ixLogT rfl rfl (by assumption) (by assumption) ?_)
  | ((with_reducible show W2 _ (rInA _ _) _ _ _ _); first | refine w2_inCr rfl rfl ?_ | refine w2_inS rfl (.inl rfl) ?_ | refine w2_inS rfl (.inr rfl) ?_ | refine w2_ninS rfl (.inl rfl) ?_ | refine w2_ninS rfl (.inr rfl) ?_)
  | ((with_reducible show W2 _ (rI0 _) _ _ _ _); refine w2_I0 rfl rfl ?_)
  | ((with_reducible show W2 _ (rEqA _) _ _ _ _); first | refine w2_eqStr rfl rfl ?_ | refine w2_eqInt rfl rfl ?_ | refine w2_eqBl rfl rfl ?_)
  | ((with_reducible show W2 _ (rNeA _) _ _ _ _); first | refine w2_neStr rfl rfl ?_ | refine w2_neInt rfl rfl ?_ | refine w2_neBl rfl rfl ?_)
  | ((with_reducible show W2 _ (rAddA _) _ _ _ _); refine w2_addI rfl rfl ?_)
  | ((with_reducible show WR _ (rLenA _) _ _ _); first | refine wr_len (.inl rfl) ?_ | refine wr_len (.inr rfl) ?_ | refine wr_lenD rfl ?_)
  | ((with_reducible show WR _ (rListA _) _ _ _); first | refine wr_list (.inl rfl) ?_ | refine wr_list (.inr rfl) ?_ | refine wr_listK rfl ?_ | refine wr_listD rfl ?_)
  | ((with_reducible show WR _ (rTupA _) _ _ _); first | refine wr_tup (.inl rfl) ?_ | refine wr_tup (.inr rfl) ?_)
  | ((with_reducible show WR _ (rIsiA _) _ _ _); first | refine wr_isi rfl rfl (by decide) ?_ | refine wr_isiT ["list", "tuple"] rfl rfl (by decide) rfl ?_)
  | ((with_reducible show W3 _ (rSlLT _) _ _ _ _ _); first | refine w3_L rfl ?_ | refine w3_T rfl ?_)
  | with_reducible refine wg_name (by first | exact True.intro | decide) ?_
  | ((with_reducible show WGs _ _ gNil _ _ _); refine wgs_nil ?_)
  | ((with_reducible show WGs _ _ (gCons _ _) _ _ _); refine wgs_cons rfl ?_)
  | ((with_reducible show WG _ _ (gTup _ _ _) _ _ _); refine wg_tup rfl rfl ?_)
  | refine ⟨_, (rfl : asg _ _ _ = _), ?_⟩
  | refine ⟨_, _, (rfl : fzA _ _ _ = _), le_lineB rfl, ?_⟩
  | refine ⟨_, (rfl : SV.d _ = _), ?_⟩
  | refine ⟨_, (rfl : vw _ _ = _), ?_⟩
  | refine ⟨(rfl : nraw _ = true), ?_⟩
  | refine ⟨(rfl : List.length _ = _), le_lineB rfl, rfl, ?_⟩)
local macro_rules | `(tactic| walk_at "S") => `(tactic| repeat walk_at "s")
/-- what is walked -/
local macro_rules | `(tactic| walk_at "w") => `(tactic| first | refine ⟨_, _, .inl rfl, ?_⟩ | refine ⟨_, _, .inr rfl, ?_⟩ | refine ⟨_, _, _, rfl, .inl rfl, ?_⟩ | refine ⟨_, _, _, rfl, .inr rfl, ?_⟩)
section
variable {K : PySem.W.Frag} {A : Ad}
theorem erase_perm {α : Type} : ∀ {l : List α} {i : Nat} {x : α}, l[i]? = some x → (x :: l.eraseIdx i).Perm l
  | [], _, _, h => by simp at h
  | a :: l, 0, x, h => by
    simp only [List.getElem?_cons_zero, Option.some.injEq] at h
    subst h; exact .refl _
  | a :: l, i + 1, x, h => by
    simp only [List.getElem?_cons_succ] at h
    exact (List.Perm.swap a x _).trans ((erase_perm h).cons a)
theorem up_up (s : Sq) (i j : Nat) : (s.up i).up j = s.up (i + j) := by unfold Sq.up; simp [Nat.add_assoc]
theorem up0 (s : Sq) : s.up 0 = s := rfl
theorem w_law_pick {s : Sq} {ds : List D} (hp : prePick s ds) : WS K (t_law_pick K A (sp_law_below K)) (slots ["stream", "some"] (.own (ownS s) :: ds.map SV.d)) (endS postPick s ds) := by
  obtain ⟨hs, xs, rfl, hn, hx⟩ := hp
  show WS K _ [.own (ownS s), .d (.lst xs)] _
  unfold t_law_pick
  walk_at "S"
  refine ⟨0, _, s, _, _, rfl, rfl, rfl, ⟨hs, xs.length, rfl, List.length_pos_iff.mpr hn, hx⟩, fun s' d hd => ?_⟩
  obtain ⟨rfl, h2⟩ := hd
  obtain ⟨i, rfl, hi⟩ := h2 xs.length rfl
  refine w2_ixL rfl rfl (atI_nat (List.getElem?_eq_getElem hi)) ?_
  exact ⟨_, _, _, rfl, rfl, rfl, fun xs' e => by
    have : xs = xs' := by simpa using e
    subst this
    exact List.getElem_mem hi⟩
theorem w_law_mixed {s : Sq} {ds : List D} (hp : preMixed s ds) : WS K (t_law_mixed K A (sp_law_below K)) (slots ["stream", "some", "left", "k"] (.own (ownS s) :: ds.map SV.d)) (endS postMixed s ds) := by
  obtain ⟨hs, xs, rfl, hx⟩ := hp
  show WS K _ [.own (ownS s), .d (.lst xs), .any, .any] _
  unfold t_law_mixed
  walk_at "S"
  refine ⟨_, _, rfl, rfl, by omega, by omega, ?_⟩
  refine ⟨le_line (by simp [intsD]; omega), fun i ρ2 ds => ∃ lf, ρ2 = [.own (ownS (s.up i)), .d (.lst xs), .own (ownL lf), .any] ∧ (ds ++ lf).Perm xs ∧ ds.length = i, ⟨xs, rfl, by simp, rfl⟩, ?_, ?_⟩
  · rintro i y ρ2 ds hy ⟨lf, rfl, hpm, hd⟩
    have hi : i < xs.length := by
      have := (List.getElem?_eq_some_iff.mp hy).1
      simpa [intsD] using this
    have hl := hpm.length_eq
    rw [List.length_append] at hl
    walk_at "S"
    refine ifT rfl ?_
    refine we_bm ?_
    walk_at "S"
    refine ⟨⟨_, rfl, rfl⟩, ?_⟩
    walk_at "S"
    refine ⟨0, _, s.up i, _, _, rfl, rfl, rfl, ⟨by show s.n + i < _; omega, lf.length, rfl, by omega, by omega⟩, fun s' d hd' => ?_⟩
    obtain ⟨rfl, h2⟩ := hd'
    obtain ⟨j, rfl, hj⟩ := h2 lf.length rfl
    walk_at "S"
    refine wm_popAt rfl rfl (List.getElem?_eq_getElem hj) (le_line (by omega)) ?_
    refine ⟨_, _, rfl, lf.eraseIdx j, ?_, ?_, by simp [hd]⟩
    · rw [up_up]; rfl
    · refine List.Perm.trans ?_ hpm
      rw [List.append_assoc]
      refine List.Perm.append_left ds ?_
      rw [List.singleton_append]
      exact erase_perm (List.getElem?_eq_getElem hj)
  · rintro ρ2 ds ⟨lf, rfl, hpm, hd⟩
    have hd : ds.length = xs.length := by simpa [intsD] using hd
    have hl := hpm.length_eq
    rw [List.length_append] at hl
    have : lf = [] := List.length_eq_zero_iff.mp (by omega)
    subst this
    refine ⟨_, _, _, rfl, rfl, fun xs' e => ?_⟩
    have : xs = xs' := by simpa using e
    subst this
    exact ⟨by simp [intsD], ds, by simpa using hpm, rfl⟩
theorem w_law_mrow {s : Sq} {ds : List D} (hp : preMrow s ds) : WS K (t_law_mrow K A (sp_law_below K) (sp_law_pick K)) (slots ["stream", "crew", "most", "k"] (.own (ownS s) :: ds.map SV.d)) (endS postMrow s ds) := by
  obtain ⟨hs, cr, m, G, rfl, hm⟩ := hp
  have h8 := G.n8
  have hk8 : (keysOf cr).length = cr.length := List.length_map _
  show WS K _ [.own (ownS s), .d (crD cr), .d (.int m), .any] _
  unfold t_law_mrow
  walk_at "S"
  refine ⟨0, _, s, _, _, rfl, rfl, rfl, ⟨by omega, m + 1, rfl, by omega, by omega⟩, fun s' d hd' => ?_⟩
  obtain ⟨rfl, h2⟩ := hd'
  obtain ⟨j, rfl, hj⟩ := h2 (m + 1) rfl
  walk_at "S"
  refine ⟨_, _, rfl, rfl, by omega, by omega, ?_⟩
  refine ⟨le_line (by simp [intsD]; omega), fun i ρ2 ds => ∃ l, ρ2 = [.own (ownS (s.up (1 + i))), .d (crD cr), .d (.int m), .any] ∧ ds = sD l ∧ Sub cr l ∧ l.length = i, ⟨[], rfl, rfl, fun _ h => (nomatch h), rfl⟩, ?_, ?_⟩
  · rintro i y ρ2 ds hy ⟨l, rfl, rfl, hl, hli⟩
    have hi : i < j := by
      have := (List.getElem?_eq_some_iff.mp hy).1
      simpa [intsD] using this
    walk_at "S"
    refine ifT rfl ?_
    walk_at "S"
    refine wr_sortedD (l := keysOf cr) rfl (keys_inr cr _) (by omega) ?_
    rw [sortS_of_asc G.asc]
    walk_at "S"
    refine ⟨0, _, s.up (1 + i), _, _, rfl, rfl, rfl, ⟨by show s.n + (1 + i) < _; omega, sD (keysOf cr), rfl, ?_, by rw [sD_len]; omega⟩, fun s' d hd' => ?_⟩
    · intro z
      have := congrArg List.length z
      rw [sD_len, hk8] at this
      have h1 := G.n1
      have this : cr.length = 0 := this
      omega
    obtain ⟨rfl, h2⟩ := hd'
    have hmem := h2 _ rfl
    obtain ⟨x, hx, rfl⟩ := List.mem_map.mp hmem
    refine ⟨_, _, rfl, l ++ [x], ?_, by rw [sD_app]; rfl, fun y hy => ?_, by simp [hli]⟩
    · rw [up_up]; rfl
    · rcases List.mem_append.mp hy with z | z
      · exact hl y z
      · rw [List.mem_singleton.mp z]; exact hx
  · rintro ρ2 ds ⟨l, rfl, rfl, hl, hli⟩
    have hli : l.length = j := by simpa [intsD] using hli
    refine ⟨_, _, _, rfl, rfl, fun cr' m' G' e => ?_⟩
    simp only [List.cons.injEq, D.int.injEq] at e
    have e1 := crD_inj e.1
    have e2 : m = m' := by have := e.2.1; omega
    subst e1 e2
    exact ⟨l, hl, by omega, rfl, by simp [intsD, hli]⟩
theorem w_law_mshuffled {s : Sq} {ds : List D} (hp : preMsh s ds) : WS K (t_law_mshuffled K A (sp_law_pick K) (sp_law_mfronts K)) (slots ["stream", "crew", "row", "left", "found", "turn", "at"] (.own (ownS s) :: ds.map SV.d)) (endS postMsh s ds) := by
  obtain ⟨hs, cr, l, G, rfl, hl, hz⟩ := hp
  show WS K _ [.own (ownS s), .d (crD cr), .d (.lst (sD l)), .any, .any, .any, .any] _
  unfold t_law_mshuffled
  walk_at "S"
  refine ws_par (by decide) ?_
  walk_at "S"
  refine ⟨_, _, _, _, rfl, rfl, rfl, rfl, ?_⟩
  walk_at "S"
  refine ⟨_, _, rfl, rfl, by rw [sD_len]; omega, by rw [sD_len]; omega, ?_⟩
  rw [sD_len]
  refine ⟨fun i ρ2 => ∃ (g left : List Str) (s5 s6 : SV), ρ2 = [.own (ownS (s.up i)), .d (crD cr), .d (.lst (sD l)), .own (ownL (sD left)), .own (ownL (sD g)), s5, s6] ∧ (g ++ left).Perm l ∧ g.length = i, ⟨[], l, _, _, rfl, .refl _, rfl⟩, ?_, ?_⟩
  · rintro i y ρ2 hy ⟨g, left, s5, s6, rfl, hpm, hg⟩
    have hi : i < l.length := by
      have := (List.getElem?_eq_some_iff.mp hy).1
      simpa [intsD] using this
    have hlen := hpm.length_eq
    rw [List.length_append] at hlen
    have hlt : Sub cr left := fun x hx => hl x (hpm.mem_iff.mp (List.mem_append_right _ hx))
    have hne : left ≠ [] := fun z => by subst z; simp at hlen; omega
    walk_at "S"
    refine ⟨_, _, rfl, ⟨cr, true, left, G, rfl, hlt, by omega⟩, fun z hz => ?_⟩
    have hz := hz cr true left G rfl
    subst hz
    walk_at "S"
    have fl := fronts_len (cr := cr) (l := left)
    refine ⟨0, _, s.up i, _, _, rfl, rfl, rfl, ⟨by show s.n + i < _; omega, _, rfl, ?_, by rw [List.length_map]; omega⟩, fun s' d hd' => ?_⟩
    · intro z
      exact fronts_ne hne (List.map_eq_nil_iff.mp z)
    obtain ⟨rfl, h2⟩ := hd'
    obtain ⟨j, hj, rfl⟩ := List.mem_map.mp (h2 _ rfl)
    obtain ⟨f1, f2⟩ := front_some hj
    walk_at "S"
    refine we_bm ?_
    walk_at "S"
    refine ⟨⟨_, rfl, rfl⟩, ?_⟩
    walk_at "S"
    refine w2_ixL rfl rfl (ixS left f1) ?_
    walk_at "S"
    refine wm_append rfl rfl (lt_line (by rw [sD_len]; omega)) ?_
    walk_at "S"
    rw [cut_to, cut_from1]
    refine w2_addL rfl rfl (le_line (by rw [sD_len, sD_len, List.length_take, List.length_drop]; omega)) ?_
    walk_at "S"
    refine ⟨g ++ [nth left j], left.eraseIdx j, .d y, .d (.int (j : Int)), ?_, ?_, by simp [hg]⟩
    · rw [← sD_app, cut_erase, sD_app, up_up]
      rfl
    · refine List.Perm.trans ?_ hpm
      rw [List.append_assoc]
      refine List.Perm.append_left g ?_
      rw [List.singleton_append]
      exact erase_perm f1
  · rintro ρ2 ⟨g, left, s5, s6, rfl, hpm, hg⟩
    have hg : g.length = l.length := by rw [hg]; simp [intsD]
    have hlen := hpm.length_eq
    rw [List.length_append] at hlen
    have : left = [] := List.length_eq_zero_iff.mp (by omega)
    subst this
    walk_at "S"
    refine ⟨_, _, _, rfl, rfl, fun cr' l' G' e => ?_⟩
    simp only [List.cons.injEq, D.lst.injEq] at e
    have e2 := sD_inj e.2.1
    subst e2
    exact ⟨by simp [intsD], g, by simpa using hpm, rfl⟩
end
end K61

set_option Elab.async false
set_option linter.all false
set_option maxRecDepth 100000
namespace K61
open PySem PySem.Spec L2 DL
local macro_rules | `(tactic| walk_at "s") => `(tactic| first
  | with_reducible refine we_op ?_
  | with_reducible refine we_c ?_
  | with_reducible refine wa_nil ?_
  | with_reducible refine wa_cons ?_
  | with_reducible refine we_cb ?_
  | with_reducible refine we_un ?_
  | with_reducible refine we_if ?_
  | with_reducible refine wt_and ?_
  | with_reducible refine wt_or ?_
  | with_reducible refine wt_not ?_
  | with_reducible refine wt_test ?_
  | with_reducible refine wt_B ?_
  | with_reducible refine wt_yes ?_
  | with_reducible refine we_andV ?_
  | with_reducible refine we_orV ?_
  | with_reducible refine we_notV ?_
  | with_reducible refine we_isN ?_
  | with_reducible refine we_notN ?_
  | with_reducible refine we_sl ?_
  | with_reducible refine wo_no ?_
  | with_reducible refine wo_some ?_
  | with_reducible refine we_lst ?_
  | with_reducible refine we_tup ?_
  | with_reducible refine we_call ?_
  | with_reducible refine we_callS ?_
  | with_reducible refine ws_seq ?_
  | with_reducible refine ws_ret ?_
  | with_reducible refine ws_drop ?_
  | with_reducible refine ws_if ?_
  | with_reducible refine ws_next ?_
  | with_reducible refine ws_break ?_
  | with_reducible refine ws_set ?_
  | with_reducible refine ws_multi ?_
  | with_reducible refine ws_asg ?_
  | with_reducible refine we_lc ?_
  | with_reducible refine we_dc ?_
  | with_reducible refine ws_for ?_
  | with_reducible refine wi_seq ?_
  | with_reducible refine wi_enum ?_
  | with_reducible refine wi_zip ?_
  | with_reducible refine wi_range1 ?_
  | with_reducible refine wi_str ?_
  | with_reducible refine we_dnewK ?_
  | ((with_reducible show WE _ (tVar _) _ _); first | refine we_var rfl ?_ | refine we_varO rfl ?_)
  | ((with_reducible show WE _ (tFld _ _ _) _ _); first | refine we_touched (by assumption) ?_ | refine we_every (by assumption) ?_)
  | ((with_reducible show W2 _ (rIxA _) _ _ _ _); first | refine w2_ixCr rfl rfl (by assumption) (by assumption) ?_ | refine w2_ixLog rfl rfl (by assumption) (by assumption) ?_ | refine w2_ixLogT rfl rfl (by assumption) (by assumption) ?_)
  | ((with_reducible show W2 _ (rInA _ _) _ _ _ _); first | refine w2_inCr rfl rfl ?_ | refine w2_inS rfl (.inl rfl) ?_ | refine w2_inS rfl (.inr rfl) ?_ | refine w2_ninS rfl (.inl rfl) ?_ | refine w2_ninS rfl (.inr rfl) ?_)
  | ((with_reducible show W2 _ (rI0 _) _ _ _ _); refine w2_I0 rfl rfl ?_)
  | ((with_reducible show W2 _ (rEqA _) _ _ _ _); first | refine w2_eqStr rfl rfl ?_ | refine w2_eqInt rfl rfl ?_ | refine w2_eqBl rfl rfl ?_)
  | ((with_reducible show W2 _ (rNeA _) _ _ _ _); first | refine w2_neStr rfl rfl ?_ | refine w2_neInt rfl rfl ?_ | refine w2_neBl rfl rfl ?_)
  | ((with_reducible show W2 _ (rAddA _) _ _ _ _); refine w2_addI rfl rfl ?_)
  | ((with_reducible show WR _ (rLenA _) _ _ _); first | refine wr_len (.inl rfl) ?_ | refine wr_len (.inr rfl) ?_ | refine wr_lenD rfl ?_)
  | ((with_reducible show WR _ (rListA _) _ _ _); first | refine wr_list (.inl rfl) ?_ | refine wr_list (.inr rfl) ?_ | refine wr_listK rfl ?_ | refine wr_listD rfl ?_)
  | ((with_reducible show WR _ (rTupA _) _ _ _); first | refine wr_tup (.inl rfl) ?_ | refine wr_tup (.inr rfl) ?_)
  | ((with_reducible show WR _ (rIsiA _) _ _ _); first | refine wr_isi rfl rfl (by decide) ?_ | refine wr_isiT ["list", "tuple"] rfl rfl (by decide) rfl ?_)
  | ((with_reducible show W3 _ (rSlLT _) _ _ _ _ _); first | refine w3_L rfl ?_ | refine w3_T rfl ?_)
  | with_reducible refine wg_name (by first | exact True.intro | decide) ?_
  | ((with_reducible show WGs _ _ gNil _ _ _); refine wgs_nil ?_)
  | ((with_reducible show WGs _ _ (gCons _ _) _ _ _); refine wgs_cons rfl ?_)
  | ((with_reducible show WG _ _ (gTup _ _ _) _ _ _); refine wg_tup rfl rfl ?_)
  | refine ⟨_, (rfl : asg _ _ _ = _), ?_⟩
  | refine ⟨_, _, (rfl : fzA _ _ _ = _), le_lineB rfl, ?_⟩
  | refine ⟨_, (rfl : SV.d _ = _), ?_⟩
  | refine ⟨_, (rfl : vw _ _ = _), ?_⟩
  | refine ⟨(rfl : nraw _ = true), ?_⟩
  | refine ⟨(rfl : List.length _ = _), le_lineB rfl, rfl, ?_⟩)
local macro_rules | `(tactic| walk_at "S") => `(tactic| repeat walk_at "s")
/-- what is walked -/
local macro_rules | `(tactic| walk_at "w") => `(tactic| first | refine ⟨_, _, .inl rfl, ?_⟩ | refine ⟨_, _, .inr rfl, ?_⟩ | refine ⟨_, _, _, rfl, .inl rfl, ?_⟩ | refine ⟨_, _, _, rfl, .inr rfl, ?_⟩)
section
variable {cr : Crw} {l m : List Str}
def unS : D → Str
  | .str s => s
  | _ => ⟨#[]⟩
theorem perm_sD {ys : List D} (h : ys.Perm (sD l)) : ∃ zs : List Str, zs.Perm l ∧ ys = sD zs := by
  refine ⟨ys.map unS, ?_, ?_⟩
  · have := h.map unS
    rw [show (sD l).map unS = l by unfold sD; rw [List.map_map]; exact List.map_id l] at this
    exact this
  · unfold sD
    rw [List.map_map]
    refine ((List.map_congr_left fun y hy => ?_).trans (List.map_id ys)).symm
    obtain ⟨s, _, rfl⟩ := List.mem_map.mp (h.mem_iff.mp hy)
    rfl
theorem cut_2 (l : List Str) (i : Nat) : cutL (sD l) none (some (2 + (i : Int))) = sD (l.take (2 + i)) := by
  rw [show (2 + (i : Int)) = ((2 + i : Nat) : Int) by omega]; exact cut_to l (2 + i)
theorem cut_1i (l : List Str) (i : Nat) : cutL (sD l) none (some (1 + (i : Int))) = sD (l.take (1 + i)) := by
  rw [show (1 + (i : Int)) = ((1 + i : Nat) : Int) by omega]; exact cut_to l (1 + i)
theorem dkeys_sD (l : List Str) : dkeys (sD l) = some (l.map Sum.inr) := by
  induction l with
  | nil => rfl
  | cons a l ih =>
    show (match dkey (.str a), dkeys (sD l) with
      | some k, some ks => some (k :: ks)
      | _, _ => none) = _
    rw [ih]; rfl
theorem zip_self {xs : List D} : zipD xs xs = xs.map fun x => .tup [x, x] := by
  unfold zipD
  induction xs with
  | nil => rfl
  | cons a xs ih => rw [List.zipWith_cons_cons, ih]; rfl
theorem putD_len {κ α : Type} [DecidableEq κ] (kvs : List (κ × α)) (k : κ) (v : α) : (putD kvs k v).length ≤ kvs.length + 1 := by
  unfold putD; split <;> simp
end
section
variable {K : PySem.W.Frag} {A : Ad}
theorem w_law_mcrew {s : Sq} {ds : List D} (hp : preMcrew s ds) : WS K (t_law_mcrew K A (sp_law_mixed K) (sp_law_below K) (sp_law_pick K)) (slots ["stream", "most", "deeds", "hands", "crew", "deed"] (.own (ownS s) :: ds.map SV.d)) (endS postMcrew s ds) := by
  obtain ⟨hs, rfl⟩ := hp
  show WS K _ [.own (ownS s), .d (.int 5), .any, .any, .any, .any] _
  unfold t_law_mcrew
  walk_at "S"
  refine ⟨0, _, s, _, _, rfl, rfl, rfl, ⟨by omega, sD DN, rfl, by decide⟩, fun s' d hd => ?_⟩
  obtain ⟨rfl, ys, hpm, rfl⟩ := hd _ rfl
  obtain ⟨zs, hzs, rfl⟩ := perm_sD (l := DN) hpm
  walk_at "S"
  refine ⟨0, _, s.up 8, _, _, rfl, rfl, rfl, ⟨by show s.n + 8 < _; omega, 4, rfl, by omega, by omega⟩, fun s' d hd => ?_⟩
  obtain ⟨rfl, h2⟩ := hd
  obtain ⟨i, rfl, hi⟩ := h2 4 rfl
  walk_at "S"
  rw [cut_2]
  have zl : zs.length = 8 := hzs.length_eq
  have znd : zs.Nodup := hzs.nodup_iff.mpr (by decide +kernel)
  have zin : ∀ x ∈ zs.take (2 + i), x ∈ DN := fun x hx => hzs.mem_iff.mp (List.mem_of_mem_take hx)
  have dl : (zs.take (2 + i)).length = 2 + i := by rw [List.length_take]; omega
  have dnd : (zs.take (2 + i)).Nodup := znd.sublist (List.take_sublist _ _)
  generalize zs.take (2 + i) = dz at *
  refine ws_par (by decide) ?_
  walk_at "S"
  refine ⟨0, _, s.up 9, _, _, rfl, rfl, by rw [up_up]; rfl, ⟨by show s.n + 9 < _; omega, sD HN, rfl, by decide⟩, fun s' d hd => ?_⟩
  obtain ⟨rfl, ys, hpm, rfl⟩ := hd _ rfl
  obtain ⟨hz, hhz, rfl⟩ := perm_sD (l := HN) hpm
  walk_at "S"
  refine ⟨0, _, s.up 14, _, _, rfl, rfl, by rw [up_up]; rfl, ⟨by show s.n + 14 < _; omega, 4, rfl, by omega, by omega⟩, fun s' d hd => ?_⟩
  obtain ⟨rfl, h2⟩ := hd
  obtain ⟨i2, rfl, hi2⟩ := h2 4 rfl
  walk_at "S"
  rw [cut_1i]
  have hzl : hz.length = 5 := hhz.length_eq
  have hznd : hz.Nodup := hhz.nodup_iff.mpr (by decide +kernel)
  have hin : ∀ x ∈ hz.take (1 + i2), x ∈ HN := fun x hx => hhz.mem_iff.mp (List.mem_of_mem_take hx)
  have hl : (hz.take (1 + i2)).length = 1 + i2 := by rw [List.length_take]; omega
  have hnd : (hz.take (1 + i2)).Nodup := hznd.sublist (List.take_sublist _ _)
  generalize hz.take (1 + i2) = hd at *
  walk_at "S"
  refine ⟨_, _, _, _, rfl, rfl, rfl, rfl, ?_⟩
  walk_at "S"
  refine wr_sortedS (l := dz) rfl (by omega) ?_
  have sl : (sortS dz).length = 2 + i := by rw [sortS_len]; exact dl
  have sin : ∀ x ∈ sortS dz, x ∈ DN := fun x hx => zin x (sortS_mem.mp hx)
  have snd : (sortS dz).Nodup := (sortS_perm dz).nodup_iff.mpr dnd
  have sasc := sortS_asc dz
  generalize sortS dz = sz at *
  walk_at "w"
  refine ⟨fun j ρ2 => ∃ (k : Nat) (c : Crw) (s2 s3 s5 : SV), ρ2 = [.own (ownS (s.up k)), .d (.int 5), s2, s3, .own (ownK (c.map fun p => (Sum.inr p.1, .tup (sD p.2)))), s5] ∧ (s3 = .d (.lst (sD hd)) ∨ s3 = .own (ownL (sD hd))) ∧ k ≤ 15 + 6 * j ∧ keysOf c = sz.take j ∧ ∀ p ∈ c, p.2 ≠ [] ∧ p.2.Nodup ∧ Asc p.2 ∧ ∀ h ∈ p.2, h ∈ HN, ⟨15, [], _, _, _, by rw [up_up]; rfl, .inr rfl, by omega, rfl, fun _ h => (nomatch h)⟩, ?_, ?_⟩
  · rintro j y ρ2 hy ⟨k, c, s2, s3, s5, rfl, h3, hk, hkeys, hgood⟩
    obtain ⟨d, hj, rfl⟩ := get_map hy
    have hjl : j < sz.length := (List.getElem?_eq_some_iff.mp hj).1
    have hcl : c.length = j := by
      have := congrArg List.length hkeys
      rw [List.length_take] at this
      unfold keysOf at this
      rw [List.length_map] at this
      omega
    have hnew : d ∉ keysOf c := fun z => by
      rw [hkeys] at z
      obtain ⟨q, hq, ej⟩ := List.getElem_of_mem z
      rw [List.getElem_take] at ej
      rw [List.length_take] at hq
      obtain ⟨h3, h4⟩ := List.getElem?_eq_some_iff.mp hj
      have := (List.getElem_inj snd).mp (ej.trans h4.symm)
      omega
    rcases h3 with rfl | rfl <;> (
      walk_at "S"
      refine ws_put ?_
      walk_at "S"
      refine ⟨0, _, s.up k, _, _, rfl, rfl, rfl, ⟨by show s.n + k < _; omega, sD hd, rfl, by rw [sD_len]; omega⟩, fun s' d' hd' => ?_⟩
      obtain ⟨rfl, ys, hpm, rfl⟩ := hd' _ rfl
      obtain ⟨hs2, hhs, rfl⟩ := perm_sD hpm
      rw [sD_len, hl, up_up]
      walk_at "S"
      refine ⟨0, _, s.up (k + (1 + i2)), _, _, rfl, rfl, rfl, ⟨by show s.n + (k + (1 + i2)) < _; omega, _, rfl, by simp, by simp⟩, fun s' d' hd' => ?_⟩
      obtain ⟨rfl, h2⟩ := hd'
      have hm : ∃ q : Nat, d' = .int q ∧ 1 ≤ q ∧ q ≤ 3 := by
        have := h2 _ rfl
        have : d' = .int 1 ∨ d' = .int 1 ∨ d' = .int 1 ∨ d' = .int 2 ∨ d' = .int 2 ∨ d' = .int 3 := by simpa [cD] using this
        rcases this with e | e | e | e | e | e
        · exact ⟨1, e, by omega, by omega⟩
        · exact ⟨1, e, by omega, by omega⟩
        · exact ⟨1, e, by omega, by omega⟩
        · exact ⟨2, e, by omega, by omega⟩
        · exact ⟨2, e, by omega, by omega⟩
        · exact ⟨3, e, by omega, by omega⟩
      obtain ⟨q, rfl, q1, q3⟩ := hm
      rw [up_up]
      walk_at "S"
      rw [cut_to]
      refine wr_sortedS (l := hs2.take q) rfl (by rw [List.length_take]; omega) ?_
      walk_at "S"
      have hsl : hs2.length = 1 + i2 := by rw [hhs.length_eq]; exact hl
      refine ⟨4, _, _, Sum.inr d, .str d, rfl, rfl, rfl, rfl, rfl, lt_line (by rw [List.length_map]; omega), ?_⟩
      rw [putD_new (fun z => hnew (by
        obtain ⟨p, hp, e⟩ := List.mem_map.mp z
        obtain ⟨p', hp', rfl⟩ := List.mem_map.mp hp
        rw [← Sum.inr.inj e]
        exact List.mem_map.mpr ⟨p', hp', rfl⟩))]
      refine ⟨k + (1 + i2) + 1, c ++ [(d, sortS (hs2.take q))], s2, .d (.lst (sD hd)), .d (.str d), ?_, .inl rfl, by omega, ?_, fun p hp => ?_⟩
      · rw [List.map_append]; rfl
      · unfold keysOf at hkeys ⊢
        rw [List.map_append, hkeys, List.take_add_one, hj]; rfl
      · rcases List.mem_append.mp hp with z | z
        · exact hgood p z
        · have : p = (d, sortS (hs2.take q)) := by simpa using z
          subst this
          refine ⟨fun z => ?_, (sortS_perm _).nodup_iff.mpr ((hhs.nodup_iff.mpr hnd).sublist (List.take_sublist _ _)), sortS_asc _, fun h hh => hin h (hhs.mem_iff.mp (List.mem_of_mem_take (sortS_mem.mp hh)))⟩
          have := congrArg List.length z
          rw [sortS_len, List.length_take] at this
          have this : min q hs2.length = 0 := this
          omega)
  · rintro ρ2 ⟨k, c, s2, s3, s5, rfl, h3, hk, hkeys, hgood⟩
    rw [List.length_map] at hk hkeys
    rw [List.take_length] at hkeys
    have hcl : c.length = 2 + i := by
      have := congrArg List.length hkeys
      unfold keysOf at this
      rw [List.length_map] at this
      omega
    have G : Good c := ⟨by rw [hkeys]; exact snd, by rw [hkeys]; exact sasc, by omega, by omega, by rw [hkeys]; exact sin, hgood⟩
    walk_at "S"
    exact ⟨_, _, _, rfl, rfl, ⟨k, by omega, rfl⟩, c, G, rfl⟩
end
end K61

set_option Elab.async false
set_option linter.all false
set_option maxRecDepth 100000
namespace K61
open PySem PySem.Spec L2 DL
local macro_rules | `(tactic| walk_at "s") => `(tactic| first
  | with_reducible refine we_op ?_
  | with_reducible refine we_c ?_
  | with_reducible refine wa_nil ?_
  | with_reducible refine wa_cons ?_
  | with_reducible refine we_cb ?_
  | with_reducible refine we_un ?_
  | with_reducible refine we_if ?_
  | with_reducible refine wt_and ?_
  | with_reducible refine wt_or ?_
  | with_reducible refine wt_not ?_
  | with_reducible refine wt_test ?_
  | with_reducible refine wt_B ?_
  | with_reducible refine wt_yes ?_
  | with_reducible refine we_andV ?_
  | with_reducible refine we_orV ?_
  | with_reducible refine we_notV ?_
  | with_reducible refine we_isN ?_
  | with_reducible refine we_notN ?_
  | with_reducible refine we_sl ?_
  | with_reducible refine wo_no ?_
  | with_reducible refine wo_some ?_
  | with_reducible refine we_lst ?_
  | with_reducible refine we_tup ?_
  | with_reducible refine we_call ?_
  | with_reducible refine we_callS ?_
  | with_reducible refine ws_seq ?_
  | with_reducible refine ws_ret ?_
  | with_reducible refine ws_drop ?_
  | with_reducible refine ws_if ?_
  | with_reducible refine ws_next ?_
  | with_reducible refine ws_break ?_
  | with_reducible refine ws_set ?_
  | with_reducible refine ws_multi ?_
  | with_reducible refine ws_asg ?_
  | with_reducible refine we_lc ?_
  | with_reducible refine we_dc ?_
  | with_reducible refine ws_for ?_
  | with_reducible refine wi_seq ?_
  | with_reducible refine wi_enum ?_
  | with_reducible refine wi_zip ?_
  | with_reducible refine wi_range1 ?_
  | with_reducible refine wi_str ?_
  | with_reducible refine we_dnewK ?_
  | ((with_reducible show WE _ (tVar _) _ _); first | refine we_var rfl ?_ | refine we_varO rfl ?_)
  | ((with_reducible show WE _ (tFld _ _ _) _ _); first | refine we_touched (by assumption) ?_ | refine we_every (by assumption) ?_)
  | ((with_reducible show W2 _ (rIxA _) _ _ _ _); first | refine w2_ixCr rfl rfl (by assumption) (by assumption) ?_ | refine w2_ixLog rfl rfl (by assumption) (by assumption) ?_ | refine w2_ixLogT rfl rfl (by assumption) (by assumption) ?_)
  | ((with_reducible show W2 _ (rInA _ _) _ _ _ _); first | refine w2_inCr rfl rfl ?_ | refine w2_inS rfl (.inl rfl) ?_ | refine w2_inS rfl (.inr rfl) ?_ | refine w2_ninS rfl (.inl rfl) ?_ | refine w2_ninS rfl (.inr rfl) ?_)
  | ((with_reducible show W2 _ (rI0 _) _ _ _ _); refine w2_I0 rfl rfl ?_)
  | ((with_reducible show W2 _ (rEqA _) _ _ _ _); first | refine w2_eqStr rfl rfl ?_ | refine w2_eqInt rfl rfl ?_ | refine w2_eqBl rfl rfl ?_)
  | ((with_reducible show W2 _ (rNeA _) _ _ _ _); first | refine w2_neStr rfl rfl ?_ | refine w2_neInt rfl rfl ?_ | refine w2_neBl rfl rfl ?_)
  | ((with_reducible show W2 _ (rAddA _) _ _ _ _); refine w2_addI rfl rfl ?_)
  | ((with_reducible show WR _ (rLenA _) _ _ _); first | refine wr_len (.inl rfl) ?_ | refine wr_len (.inr rfl) ?_ | refine wr_lenD rfl ?_)
  | ((with_reducible show WR _ (rListA _) _ _ _); first | refine wr_list (.inl rfl) ?_ | refine wr_list (.inr rfl) ?_ | refine wr_listK rfl ?_ | refine wr_listD rfl ?_)
  | ((with_reducible show WR _ (rTupA _) _ _ _); first | refine wr_tup (.inl rfl) ?_ | refine wr_tup (.inr rfl) ?_)
  | ((with_reducible show WR _ (rIsiA _) _ _ _); first | refine wr_isi rfl rfl (by decide) ?_ | refine wr_isiT ["list", "tuple"] rfl rfl (by decide) rfl ?_)
  | ((with_reducible show W3 _ (rSlLT _) _ _ _ _ _); first | refine w3_L rfl ?_ | refine w3_T rfl ?_)
  | with_reducible refine wg_name (by first | exact True.intro | decide) ?_
  | ((with_reducible show WGs _ _ gNil _ _ _); refine wgs_nil ?_)
  | ((with_reducible show WGs _ _ (gCons _ _) _ _ _); refine wgs_cons rfl ?_)
  | ((with_reducible show WG _ _ (gTup _ _ _) _ _ _); refine wg_tup rfl rfl ?_)
  | refine ⟨_, (rfl : asg _ _ _ = _), ?_⟩
  | refine ⟨_, _, (rfl : fzA _ _ _ = _), le_lineB rfl, ?_⟩
  | refine ⟨_, (rfl : SV.d _ = _), ?_⟩
  | refine ⟨_, (rfl : vw _ _ = _), ?_⟩
  | refine ⟨(rfl : nraw _ = true), ?_⟩
  | refine ⟨(rfl : List.length _ = _), le_lineB rfl, rfl, ?_⟩)
local macro_rules | `(tactic| walk_at "S") => `(tactic| repeat walk_at "s")
/-- what is walked -/
local macro_rules | `(tactic| walk_at "w") => `(tactic| first | refine ⟨_, _, .inl rfl, ?_⟩ | refine ⟨_, _, .inr rfl, ?_⟩ | refine ⟨_, _, _, rfl, .inl rfl, ?_⟩ | refine ⟨_, _, _, rfl, .inr rfl, ?_⟩)
section
variable {K : PySem.W.Frag} {A : Ad}
def prB (p : List Str × List Str) : D := .tup [.tup (sD p.1), .tup (sD p.2)]
structure BegOk (cr : Crw) (l : List Str) (xs : List (List Str × List Str)) (n : Nat) : Prop where
  ne : xs ≠ []
  len : xs.length ≤ n
  ok : ∀ p ∈ xs, Sub cr p.1 ∧ Sub cr p.2 ∧ p.1.length + p.2.length = l.length
theorem dk_lookK {kvs : List (List Key × D)} {c : List Key} : lookD kvs c = lookD kvs c := rfl
theorem w_law_mbeginnings {ds : List D} (hp : preMbeg ds) : WS K (t_law_mbeginnings K A (sp_law_mfronts K) (sp_law_mleast K)) (slots ["crew", "row", "found", "known", "turn", "ahead", "left", "at", "one"] (ds.map SV.d)) (endP postMbeg ds) := by
  obtain ⟨cr, l, G, rfl, hl, hz⟩ := hp
  show WS K _ [.d (crD cr), .d (.lst (sD l)), .any, .any, .any, .any, .any, .any, .any] _
  unfold t_law_mbeginnings
  walk_at "S"
  refine ws_par (by decide) ?_
  walk_at "S"
  refine we_dispT ?_
  walk_at "S"
  refine ⟨[], [], .int 0, rfl, rfl, rfl, ?_⟩
  walk_at "S"
  refine ⟨_, _, _, _, rfl, rfl, rfl, rfl, ?_⟩
  refine ws_seq ?_
  refine ws_for ?_
  walk_at "S"
  refine ⟨_, _, rfl, rfl, by decide, by decide, ?_⟩
  refine ⟨fun i ρ2 => ∃ (xs : List (List Str × List Str)) (kvs : List (List Key × D)) (s4 s5 s6 s7 s8 : SV), ρ2 = [.d (crD cr), .d (.lst (sD l)), .own (ownL (xs.map prB)), .own (ownT kvs), s4, s5, s6, s7, s8] ∧ BegOk cr l xs (1 + 7 * i) ∧ kvs.length ≤ 1 + 7 * i,
    ⟨[([], l)], _, _, _, _, _, _, rfl, ⟨by simp, by simp, fun p hp => by
      have : p = ([], l) := by simpa using hp
      subst this
      exact ⟨(fun _ h => (nomatch h)), hl, by simp⟩⟩, by simp⟩, ?_, ?_⟩
  · rintro i y ρ2 hy ⟨xs, kvs, s4, s5, s6, s7, s8, rfl, B, hkv⟩
    obtain ⟨hi, rfl⟩ : i < 9999 ∧ y = .int ((0 : Int) + (i : Nat)) := by
      have h1 := (List.getElem?_eq_some_iff.mp hy)
      obtain ⟨h1, h2⟩ := h1
      have h1 : i < 9999 := by simpa [intsD] using h1
      refine ⟨h1, ?_⟩
      rw [← h2]; simp [intsD]
    rw [Int.zero_add]
    walk_at "S"
    rw [List.length_map]
    by_cases hlt : xs.length ≤ i
    · refine ifT (decide_eq_true (by omega)) ?_
      refine ws_break ?_
      show WS K _ _ _
      walk_at "S"
      walk_at "w"
      refine lcM xs prB (fun p => .lst (sD p.1)) rfl (le_line (by have := B.len; omega)) (fun p hp => ?_) ?_
      · walk_at "S"
        exact ⟨_, rfl, rfl⟩
      refine ⟨_, _, rfl, fun cr' l' G' e => ?_⟩
      simp only [List.cons.injEq, D.lst.injEq] at e
      have e1 := crD_inj e.1
      have e2 := sD_inj e.2.1
      subst e1 e2
      refine ⟨xs.map (·.1), by rw [List.map_map]; rfl, by simpa using B.ne, by have := B.len; rw [List.length_map]; omega, fun y hy => ?_⟩
      obtain ⟨p, hp, rfl⟩ := List.mem_map.mp hy
      obtain ⟨b1, b2, b3⟩ := B.ok p hp
      exact ⟨b1, by omega⟩
    · have hxi : xs[i]? = some (xs[i]'(by omega)) := List.getElem?_eq_getElem (by omega)
      have hpm : xs[i]'(by omega) ∈ xs := List.getElem_mem _
      generalize xs[i]'(by omega) = p at *
      obtain ⟨b1, b2, b3⟩ := B.ok p hpm
      refine ifF (decide_eq_false (by omega)) ?_
      walk_at "S"
      refine w2_ixL (a := prB p) rfl rfl (atI_nat (by rw [List.getElem?_map, hxi]; rfl)) ?_
      walk_at "S"
      refine ⟨_, _, rfl, ⟨cr, false, p.2, G, rfl, b2, by omega⟩, fun z hz => ?_⟩
      have hz := hz cr false p.2 G rfl
      subst hz
      walk_at "w"
      refine ⟨fun j ρ2 => ∃ (xs : List (List Str × List Str)) (kvs : List (List Key × D)) (s4 s7 s8 : SV), ρ2 = [.d (crD cr), .d (.lst (sD l)), .own (ownL (xs.map prB)), .own (ownT kvs), s4, .d (.tup (sD p.1)), .d (.tup (sD p.2)), s7, s8] ∧ BegOk cr l xs (1 + 7 * i + j) ∧ kvs.length ≤ 1 + 7 * i + j,
        ⟨xs, kvs, _, _, _, rfl, B, hkv⟩, ?_, ?_⟩
      · rintro j y ρ2 hy ⟨xs2, kvs2, t4, t7, t8, rfl, B2, hkv2⟩
        obtain ⟨q, hq, rfl⟩ := get_map hy
        have hqf : q ∈ frontsF cr p.2 := List.mem_of_getElem? hq
        have hjl : j < (frontsF cr p.2).length := (List.getElem?_eq_some_iff.mp hq).1
        have hfl := fronts_len (cr := cr) (l := p.2)
        obtain ⟨f1, f2⟩ := front_some hqf
        have hk1 : Sub cr (p.1 ++ [nth p.2 q]) := fun x hx => by
          rcases List.mem_append.mp hx with z | z
          · exact b1 x z
          · rw [List.mem_singleton.mp z]; exact b2 _ (List.mem_of_getElem? f1)
        have hln : (p.1 ++ [nth p.2 q]).length = p.1.length + 1 := by simp
        walk_at "S"
        refine w2_ixT rfl rfl (ixS p.2 f1) ?_
        walk_at "S"
        refine w2_addT (xs := sD p.1) (ys := [.str (nth p.2 q)]) rfl rfl (le_line (by rw [sD_len]; simp; omega)) ?_
        rw [show sD p.1 ++ [.str (nth p.2 q)] = sD (p.1 ++ [nth p.2 q]) by rw [sD_app]; rfl]
        walk_at "S"
        refine ⟨_, _, rfl, ⟨cr, false, p.1 ++ [nth p.2 q], G, rfl, hk1, by omega⟩, fun z hz => ?_⟩
        have hz := hz cr false _ G rfl
        subst hz
        walk_at "S"
        refine w2_inT rfl rfl (dkeys_sD _) ?_
        walk_at "S"
        cases hc : (lookD kvs2 ((least cr (p.1 ++ [nth p.2 q])).map Sum.inr)).isSome with
        | true =>
          refine ifF rfl ?_
          walk_at "S"
          exact ⟨xs2, kvs2, _, _, _, rfl, ⟨B2.ne, by have := B2.len; omega, B2.ok⟩, by omega⟩
        | false =>
          refine ifT rfl ?_
          walk_at "S"
          refine ws_putT ?_
          walk_at "S"
          refine ⟨3, kvs2, .int 0, _, _, rfl, rfl, rfl, dkeys_sD _, rfl, lt_line (by omega), ?_⟩
          walk_at "S"
          refine we_bm ?_
          walk_at "S"
          refine ⟨⟨_, rfl, rfl⟩, ?_⟩
          walk_at "S"
          rw [cut_to, cut_from1]
          refine w2_addT rfl rfl (le_line (by rw [sD_len, sD_len, List.length_take, List.length_drop]; omega)) ?_
          rw [← sD_app, cut_erase]
          walk_at "S"
          refine wm_append rfl rfl (lt_line (by rw [List.length_map]; have := B2.len; omega)) ?_
          have hle : (p.2.eraseIdx q).length = p.2.length - 1 := List.length_eraseIdx_of_lt f2
          refine ⟨xs2 ++ [(least cr (p.1 ++ [nth p.2 q]), p.2.eraseIdx q)], putD kvs2 ((least cr (p.1 ++ [nth p.2 q])).map Sum.inr) (.int 0), t4, .d (.int (q : Int)), .d (.tup (sD (least cr (p.1 ++ [nth p.2 q])))), ?_, ⟨by simp, by rw [List.length_append]; have := B2.len; simp; omega, fun p' hp' => ?_⟩, by have := putD_len kvs2 ((least cr (p.1 ++ [nth p.2 q])).map Sum.inr) (.int 0); omega⟩
          · rw [List.map_append]; rfl
          · rcases List.mem_append.mp hp' with z | z
            · exact B2.ok p' z
            · have : p' = (least cr (p.1 ++ [nth p.2 q]), p.2.eraseIdx q) := by simpa using z
              subst this
              refine ⟨least_sub hk1, take_sub (fronts_take G.hands b2 hqf f1) b2, ?_⟩
              show (least cr (p.1 ++ [nth p.2 q])).length + (p.2.eraseIdx q).length = _
              rw [least_len hk1, hle]; omega
      · rintro ρ2 ⟨xs2, kvs2, t4, t7, t8, rfl, B2, hkv2⟩
        have hfl := fronts_len (cr := cr) (l := p.2)
        rw [List.length_map] at B2 hkv2
        exact ⟨xs2, kvs2, _, _, _, _, _, rfl, ⟨B2.ne, by have := B2.len; omega, B2.ok⟩, by omega⟩
  · rintro ρ2 ⟨xs, kvs, s4, s5, s6, s7, s8, rfl, B, hkv⟩
    have hlen : (intsD 0 (Int.toNat 9999)).length = 9999 := by simp [intsD]
    rw [hlen] at B hkv
    walk_at "S"
    walk_at "w"
    refine lcM xs prB (fun p => .lst (sD p.1)) rfl (le_line (by have := B.len; omega)) (fun p hp => ?_) ?_
    · walk_at "S"
      exact ⟨_, rfl, rfl⟩
    refine ⟨_, _, rfl, fun cr' l' G' e => ?_⟩
    simp only [List.cons.injEq, D.lst.injEq] at e
    have e1 := crD_inj e.1
    have e2 := sD_inj e.2.1
    subst e1 e2
    refine ⟨xs.map (·.1), by rw [List.map_map]; rfl, by simpa using B.ne, by have := B.len; rw [List.length_map]; omega, fun y hy => ?_⟩
    obtain ⟨p, hp, rfl⟩ := List.mem_map.mp hy
    obtain ⟨b1, b2, b3⟩ := B.ok p hp
    exact ⟨b1, by omega⟩
end
end K61

set_option Elab.async false
set_option linter.all false
set_option maxRecDepth 100000
namespace K61
open PySem PySem.Spec L2 DL
local macro_rules | `(tactic| walk_at "s") => `(tactic| first
  | with_reducible refine we_op ?_
  | with_reducible refine we_c ?_
  | with_reducible refine wa_nil ?_
  | with_reducible refine wa_cons ?_
  | with_reducible refine we_cb ?_
  | with_reducible refine we_un ?_
  | with_reducible refine we_if ?_
  | with_reducible refine wt_and ?_
  | with_reducible refine wt_or ?_
  | with_reducible refine wt_not ?_
  | with_reducible refine wt_test ?_
  | with_reducible refine wt_B ?_
  | with_reducible refine wt_yes ?_
  | with_reducible refine we_andV ?_
  | with_reducible refine we_orV ?_
  | with_reducible refine we_notV ?_
  | with_reducible refine we_isN ?_
  | with_reducible refine we_notN ?_
  | with_reducible refine we_sl ?_
  | with_reducible refine wo_no ?_
  | with_reducible refine wo_some ?_
  | with_reducible refine we_lst ?_
  | with_reducible refine we_tup ?_
  | with_reducible refine we_call ?_
  | with_reducible refine we_callS ?_
  | with_reducible refine ws_seq ?_
  | with_reducible refine ws_ret ?_
  | with_reducible refine ws_drop ?_
  | with_reducible refine ws_if ?_
  | with_reducible refine ws_next ?_
  | with_reducible refine ws_break ?_
  | with_reducible refine ws_set ?_
  | with_reducible refine ws_multi ?_
  | with_reducible refine ws_asg ?_
  | with_reducible refine we_lc ?_
  | with_reducible refine we_dc ?_
  | with_reducible refine ws_for ?_
  | with_reducible refine wi_seq ?_
  | with_reducible refine wi_enum ?_
  | with_reducible refine wi_zip ?_
  | with_reducible refine wi_range1 ?_
  | with_reducible refine wi_str ?_
  | with_reducible refine we_dnewK ?_
  | ((with_reducible show WE _ (tVar _) _ _); first | refine we_var rfl ?_ | refine we_varO rfl ?_)
  | ((with_reducible show WE _ (tFld _ _ _) _ _); first | refine we_touched (by assumption) ?_ | refine we_every (by assumption) ?_)
  | ((with_reducible show W2 _ (rIxA _) _ _ _ _); first | refine w2_ixCr rfl rfl (by assumption) (by assumption) ?_ | refine w2_ixLog rfl rfl (by assumption) (by assumption) ?_ | refine w2_ixLogT rfl rfl (by assumption) (by assumption) ?_)
  | ((with_reducible show W2 _ (rInA _ _) _ _ _ _); first | refine w2_inCr rfl rfl ?_ | refine w2_inS rfl (.inl rfl) ?_ | refine w2_inS rfl (.inr rfl) ?_ | refine w2_ninS rfl (.inl rfl) ?_ | refine w2_ninS rfl (.inr rfl) ?_)
  | ((with_reducible show W2 _ (rI0 _) _ _ _ _); refine w2_I0 rfl rfl ?_)
  | ((with_reducible show W2 _ (rEqA _) _ _ _ _); first | refine w2_eqStr rfl rfl ?_ | refine w2_eqInt rfl rfl ?_ | refine w2_eqBl rfl rfl ?_)
  | ((with_reducible show W2 _ (rNeA _) _ _ _ _); first | refine w2_neStr rfl rfl ?_ | refine w2_neInt rfl rfl ?_ | refine w2_neBl rfl rfl ?_)
  | ((with_reducible show W2 _ (rAddA _) _ _ _ _); refine w2_addI rfl rfl ?_)
  | ((with_reducible show WR _ (rLenA _) _ _ _); first | refine wr_len (.inl rfl) ?_ | refine wr_len (.inr rfl) ?_ | refine wr_lenD rfl ?_)
  | ((with_reducible show WR _ (rListA _) _ _ _); first | refine wr_list (.inl rfl) ?_ | refine wr_list (.inr rfl) ?_ | refine wr_listK rfl ?_ | refine wr_listD rfl ?_)
  | ((with_reducible show WR _ (rTupA _) _ _ _); first | refine wr_tup (.inl rfl) ?_ | refine wr_tup (.inr rfl) ?_)
  | ((with_reducible show WR _ (rIsiA _) _ _ _); first | refine wr_isi rfl rfl (by decide) ?_ | refine wr_isiT ["list", "tuple"] rfl rfl (by decide) rfl ?_)
  | ((with_reducible show W3 _ (rSlLT _) _ _ _ _ _); first | refine w3_L rfl ?_ | refine w3_T rfl ?_)
  | with_reducible refine wg_name (by first | exact True.intro | decide) ?_
  | ((with_reducible show WGs _ _ gNil _ _ _); refine wgs_nil ?_)
  | ((with_reducible show WGs _ _ (gCons _ _) _ _ _); refine wgs_cons rfl ?_)
  | ((with_reducible show WG _ _ (gTup _ _ _) _ _ _); refine wg_tup rfl rfl ?_)
  | refine ⟨_, (rfl : asg _ _ _ = _), ?_⟩
  | refine ⟨_, _, (rfl : fzA _ _ _ = _), le_lineB rfl, ?_⟩
  | refine ⟨_, (rfl : SV.d _ = _), ?_⟩
  | refine ⟨_, (rfl : vw _ _ = _), ?_⟩
  | refine ⟨(rfl : nraw _ = true), ?_⟩
  | refine ⟨(rfl : List.length _ = _), le_lineB rfl, rfl, ?_⟩)
local macro_rules | `(tactic| walk_at "S") => `(tactic| repeat walk_at "s")
/-- what is walked -/
local macro_rules | `(tactic| walk_at "w") => `(tactic| first | refine ⟨_, _, .inl rfl, ?_⟩ | refine ⟨_, _, .inr rfl, ?_⟩ | refine ⟨_, _, _, rfl, .inl rfl, ?_⟩ | refine ⟨_, _, _, rfl, .inr rfl, ?_⟩)
section
variable {K : PySem.W.Frag} {A : Ad}
/-- the stream's exact state -/
structure Sx where
  p : Addr
  q : Addr
  ns : List Int
  a : Int
  c : Int
  m : Int
def ownX (x : Sx) : Own where
  R := fun K G H v fp => v = .ref x.p ∧ fp = [x.p, x.q] ∧ x.p ≠ x.q ∧ H x.p = some (.lst [.ref x.q, .int x.a, .int x.c, .int x.m]) ∧ H x.q = some (.lst (x.ns.map V.int))
  dat := none
  see := none
  mono := fun e h => h
  loc := fun {K G H H' v fp} e ⟨e1, e2, e0, e3, e4⟩ => ⟨e1, e2, e0, (e x.p (by rw [e2]; simp)).trans e3, (e x.q (by rw [e2]; simp)).trans e4⟩
  liv := fun ⟨e1, e2, e0, e3, e4⟩ y hy => by
    rw [e2] at hy
    rcases List.mem_cons.mp hy with z | z
    · rw [z]; exact ⟨_, e3, rfl⟩
    · rw [List.mem_singleton.mp z]; exact ⟨_, e4, rfl⟩
  fz := fun h _ _ _ => by cases h
  sh := fun h _ => by cases h
variable {ρ : List SV} {C : SV → List SV → Prop} {R : Post} {te : TE} {j : Nat} {x : Sx}
theorem we_sget {i : Nat} {d : Int} (h : ρ[j]? = some (.own (ownX x))) (hi : [V.ref x.q, .int x.a, .int x.c, .int x.m][i]? = some (.int d)) (k : C (.d (.int d)) ρ) : WE K (tOp (rIxA K) (tVar j) (tC (.int (i : Nat)))) ρ C := fun b σ H θ τ Q S q => by
  obtain ⟨G, fp, fq, S⟩ := S
  obtain ⟨v, f2, e1, ⟨e2, e3, e0, e4, e5⟩, _, _⟩ := S.mut h
  subst e2
  exact ⟨_, e1, .inr (.inl ⟨x.p, _, (i : Nat), _, rfl, rfl, .inl (.inl e4), atI_nat hi, q _ ρ _ H k ⟨G, fp, fq, S.push rfl⟩⟩)⟩
def Sx.put (x : Sx) (i : Nat) (d : Int) : Sx := match i with
  | 1 => { x with a := d }
  | 2 => { x with c := d }
  | _ => { x with m := d }
theorem ws_sset {i : Nat} (hi : i = 1 ∨ i = 2 ∨ i = 3) (h : WE K te ρ fun z ρ1 => ∃ d x, vw z ρ1 = some (.int d) ∧ ρ1[j]? = some (.own (ownX x)) ∧ R.nx (ρ1.set j (.own (ownX (x.put i d))))) : WS K (tAsg te (gSub (tVar j) (tC (.int (i : Nat))) rSetL)) ρ R := fun b σ H θ τ D na S q1 _ _ _ =>
  h b σ H θ τ _ S fun z ρ1 v H1 ⟨d, x, hv, hx, hn⟩ S1 => by
    obtain ⟨G, fp, fq, ev, S2⟩ := S1.vw1 hv
    have ev : v = .int d := ev
    subst ev
    obtain ⟨u, f2, e1, ⟨e2, e3, e0, e4, e5⟩, _, kk⟩ := S2.mut hx
    subst e2
    refine ⟨_, e1, x.p, _, (i : Nat), i, rfl, rfl, e4, ?_, q1 _ _ _ hn ⟨G, fp, fq, kk _ (ownX (x.put i d)) (fun c hc => upd_ne fun z => hc (by rw [e3, z]; simp)) ?_⟩⟩
    · rcases hi with rfl | rfl | rfl <;> rfl
    · rcases hi with rfl | rfl | rfl <;> exact ⟨rfl, e3, e0, upd_same, (upd_ne (Ne.symm e0)).trans e5⟩
theorem int_py (ns : List Int) : SeqAt.shaped (.list (ns.map PyData.int)) = true := by
  have h1 : PyData.canLayAll0 (ns.map PyData.int) = true := by
    induction ns with
    | nil => simp [PyData.canLayAll0]
    | cons a r ih => simp only [List.map_cons, PyData.canLayAll0, ih, PyData.canLay0, Bool.and_true]
  have h2 : PyData.depthAll (ns.map PyData.int) ≤ 1 := by
    induction ns with
    | nil => simp [PyData.depthAll]
    | cons a r ih =>
      simp only [List.map_cons, PyData.depthAll, PyData.depth]
      have := ih (by simp only [List.map_cons, PyData.canLayAll0, Bool.and_eq_true] at h1; exact h1.2)
      omega
  unfold SeqAt.shaped
  rw [Bool.and_eq_true]
  refine ⟨by simp only [PyData.canLay0]; exact h1, decide_eq_true ?_⟩
  simp only [PyData.depth]; omega
theorem dp_ints {H : Hp} : ∀ ns : List Int, DpAll K H (ns.map V.int) (ns.map PyData.int)
  | [] => .nil
  | a :: r => .cons (.int a) (dp_ints r)
theorem we_sne (h : ρ[j]? = some (.own (ownX x))) (k : C (.d (.bl (!decide (x.ns = [])))) ρ) : WE K (tOp (rNeA K) (tOp (rIxA K) (tVar j) (tC (.int 0))) (tLst tNil)) ρ C := fun b σ H θ τ Q S q => by
  obtain ⟨G, fp, fq, S⟩ := S
  obtain ⟨v, f2, e1, ⟨e2, e3, e0, e4, e5⟩, _, _⟩ := S.mut h
  subst e2
  refine ⟨_, e1, .inr (.inl ⟨x.p, _, (0 : Nat), _, rfl, rfl, .inl (.inl e4), atI_nat rfl, Nat.zero_le _, fun l hl => .inr ⟨.list (x.ns.map PyData.int), .list [], .lst (.inl (.inl ?_)) (dp_ints _), .lst (.inl (.inl upd_same)) .nil, int_py _, int_py [], ?_⟩⟩)⟩
  · rw [upd_ne (ne_of_none e5 hl)]; exact e5
  · have e : PyData.eqv (.list (x.ns.map PyData.int)) (.list []) = decide (x.ns = []) := by
      simp only [PyData.eqv]
      cases x.ns <;> rfl
    rw [e]
    exact q _ ρ _ _ k ⟨G, fp, fq, (S.grow (Ex.upd hl)).push rfl⟩
theorem we_spop {n : Int} {r : List Int} (h : ρ[j]? = some (.own (ownX x))) (hn : x.ns = n :: r) (k : C (.d (.int n)) (ρ.set j (.own (ownX { x with ns := r })))) : WE K (tBM K "list" (rPopAt) (tOp (rIxA K) (tVar j) (tC (.int 0))) (tCons (tC (.int 0)) (tNil))) ρ C := fun b σ H θ τ Q S q => by
  obtain ⟨G, fp, fq, S⟩ := S
  obtain ⟨v, f2, e1, ⟨e2, e3, e0, e4, e5⟩, _, kk⟩ := S.mut h
  subst e2
  rw [hn] at e5
  refine ⟨_, e1, .inr (.inl ⟨x.p, _, (0 : Nat), _, rfl, rfl, .inl (.inl e4), atI_nat rfl, .inl ⟨rfl, _, .inl (.inl e5)⟩, x.q, _, (0 : Nat), 0, .int n, rfl, rfl, e5, by decide, by decide, seqIndex_of (Int.natCast_nonneg 0) (by simp), rfl, ?_⟩)⟩
  refine q _ _ _ _ k ⟨G, fp, fq, SatG.push (kk _ (ownX { x with ns := r }) (fun c hc => upd_ne fun z => hc (by rw [e3, z]; simp)) ⟨rfl, e3, e0, (upd_ne e0).trans e4, ?_⟩) rfl⟩
  exact upd_same
theorem we_start {ns : List Int} {i : Nat} (h : ρ[i]? = some (.d (.kl (ns.map D.int)))) (hz : ns.length ≤ 63) (k : ∀ p q, C (.own (ownS ⟨p, q, 0⟩)) ρ) : WE K (tLst (tCons (tCB (rListA K) (tCons (tVar i) (tNil))) (tCons (tC (.int 0)) (tCons (tC (.int 0)) (tCons (tC (.int 43)) (tNil)))))) ρ C := fun b σ H θ τ Q S q => by
  obtain ⟨G, fp, fq, S⟩ := S
  obtain ⟨o, g1, g2, g3, e1, e2, ⟨_, v, e3, a, vs, e4, e5, e6⟩⟩ := S.sl.get h
  have ev := reps_ints.mp e6
  subst e3 e4 ev
  refine ⟨_, e1, .inl ⟨a, _, rfl, .inl (S.gh.le.sqL e5), fun l hl => ⟨by show 4 ≤ sizeLine; rw [sizeLine_eq]; decide, fun p hp => ?_⟩⟩⟩
  have hpl : p ≠ l := fun z => by subst z; rw [upd_same] at hp; cases hp
  have hp0 : H p = none := by rw [upd_ne hpl] at hp; exact hp
  have gl := S.free hl
  have gp := S.free hp0
  have free : ∀ y, H y = none → b.H y = none := fun y hy => by
    cases z : b.H y with
    | none => rfl
    | some u => rw [S.hh y u z] at hy; cases hy
  have S1 := (S.grow (Ex.upd (o := .lst (ns.map V.int)) hl)).grow (Ex.upd (o := .lst [.ref l, .int 0, .int 0, .int 43]) hp)
  have ne : ∀ y ∈ fp ++ fq, y ≠ p ∧ y ≠ l := fun y hy => by
    have : H y ≠ none := by
      rcases List.mem_append.mp hy with h | h
      · exact S.sl.liv y h
      · exact S.tm.liv y h
    exact ⟨fun z => this (z ▸ hp0), fun z => this (z ▸ hl)⟩
  refine q _ ρ _ _ (k p l) ⟨G, fp, [p, l] ++ fq, S1.gg, S1.hh, S1.gh, S1.sep, S1.fr, S1.sl, .cons ⟨_, rfl, ns, 0, 0, 43, rfl, rfl, hpl, upd_same, ?_, by decide, by decide, by simp, by decide, by decide⟩ S1.tm, fun y hy => ?_, ?_⟩
  · rw [upd_ne hpl.symm, upd_same]
  · have hy : y ∈ fp ∨ y = p ∨ y = l ∨ y ∈ fq := by simpa using hy
    rcases hy with z | z | z | z
    · exact S.out y (List.mem_append_left _ z)
    · subst z; exact ⟨gp, free y hp0⟩
    · subst z; exact ⟨gl, free y hl⟩
    · exact S.out y (List.mem_append_right _ z)
  · have nd := S.nd
    rw [List.nodup_append] at nd ⊢
    obtain ⟨n1, n2, n3⟩ := nd
    refine ⟨n1, ?_, fun x hx y hy z => ?_⟩
    · simp only [List.cons_append, List.nil_append, List.nodup_cons, List.mem_cons]
      exact ⟨fun z => by
        rcases z with z | z
        · exact hpl z
        · exact (ne p (List.mem_append_right _ z)).1 rfl, fun z => (ne l (List.mem_append_right _ z)).2 rfl, n2⟩
    · have hy : y = p ∨ y = l ∨ y ∈ fq := by simpa using hy
      rcases hy with w | w | w
      · exact (ne x (List.mem_append_left _ hx)).1 (z.trans w)
      · exact (ne x (List.mem_append_left _ hx)).2 (z.trans w)
      · exact n3 x hx y w z
def preStart : List D → Prop := fun ds => ∃ ns : List Int, ds = [.kl (ns.map D.int)] ∧ ns.length ≤ 63
theorem w_law_start {ds : List D} (hp : preStart ds) : WS K (t_law_start K A) (slots ["script"] (ds.map SV.d)) { nx := fun _ => False, rt := fun z ρ => ∃ s, z = .own (ownS s) ∧ s.n = 0 } := by
  obtain ⟨ns, rfl, hz⟩ := hp
  show WS K _ [.d (.kl (ns.map D.int))] _
  unfold t_law_start
  refine ws_ret (we_start rfl hz fun p q => ⟨_, rfl, rfl⟩)
abbrev sp_law_start (K : PySem.W.Frag) : Sp := spN K ownS preStart (fun _ s => s.n = 0)
end
end K61

set_option Elab.async false
set_option linter.all false
set_option maxRecDepth 100000
namespace K61
open PySem PySem.Spec L2 DL
local macro_rules | `(tactic| walk_at "s") => `(tactic| first
  | with_reducible refine we_op ?_
  | with_reducible refine we_c ?_
  | with_reducible refine wa_nil ?_
  | with_reducible refine wa_cons ?_
  | with_reducible refine we_cb ?_
  | with_reducible refine we_un ?_
  | with_reducible refine we_if ?_
  | with_reducible refine wt_and ?_
  | with_reducible refine wt_or ?_
  | with_reducible refine wt_not ?_
  | with_reducible refine wt_test ?_
  | with_reducible refine wt_B ?_
  | with_reducible refine wt_yes ?_
  | with_reducible refine we_andV ?_
  | with_reducible refine we_orV ?_
  | with_reducible refine we_notV ?_
  | with_reducible refine we_isN ?_
  | with_reducible refine we_notN ?_
  | with_reducible refine we_sl ?_
  | with_reducible refine wo_no ?_
  | with_reducible refine wo_some ?_
  | with_reducible refine we_lst ?_
  | with_reducible refine we_tup ?_
  | with_reducible refine we_call ?_
  | with_reducible refine we_callS ?_
  | with_reducible refine ws_seq ?_
  | with_reducible refine ws_ret ?_
  | with_reducible refine ws_drop ?_
  | with_reducible refine ws_if ?_
  | with_reducible refine ws_next ?_
  | with_reducible refine ws_break ?_
  | with_reducible refine ws_set ?_
  | with_reducible refine ws_multi ?_
  | with_reducible refine ws_asg ?_
  | with_reducible refine we_lc ?_
  | with_reducible refine we_dc ?_
  | with_reducible refine ws_for ?_
  | with_reducible refine wi_seq ?_
  | with_reducible refine wi_enum ?_
  | with_reducible refine wi_zip ?_
  | with_reducible refine wi_range1 ?_
  | with_reducible refine wi_str ?_
  | with_reducible refine we_dnewK ?_
  | ((with_reducible show WE _ (tVar _) _ _); first | refine we_var rfl ?_ | refine we_varO rfl ?_)
  | ((with_reducible show WE _ (tFld _ _ _) _ _); first | refine we_touched (by assumption) ?_ | refine we_every (by assumption) ?_)
  | ((with_reducible show W2 _ (rIxA _) _ _ _ _); first | refine w2_ixCr rfl rfl (by assumption) (by assumption) ?_ | refine w2_ixLog rfl rfl (by assumption) (by assumption) ?_ | refine w2_ixLogT rfl rfl (by assumption) (by assumption) ?_)
  | ((with_reducible show W2 _ (rInA _ _) _ _ _ _); first | refine w2_inCr rfl rfl ?_ | refine w2_inS rfl (.inl rfl) ?_ | refine w2_inS rfl (.inr rfl) ?_ | refine w2_ninS rfl (.inl rfl) ?_ | refine w2_ninS rfl (.inr rfl) ?_)
  | ((with_reducible show W2 _ (rI0 _) _ _ _ _); refine w2_I0 rfl rfl ?_)
  | ((with_reducible show W2 _ (rEqA _) _ _ _ _); first | refine w2_eqStr rfl rfl ?_ | refine w2_eqInt rfl rfl ?_ | refine w2_eqBl rfl rfl ?_)
  | ((with_reducible show W2 _ (rNeA _) _ _ _ _); first | refine w2_neStr rfl rfl ?_ | refine w2_neInt rfl rfl ?_ | refine w2_neBl rfl rfl ?_)
  | ((with_reducible show W2 _ (rAddA _) _ _ _ _); refine w2_addI rfl rfl ?_)
  | ((with_reducible show WR _ (rLenA _) _ _ _); first | refine wr_len (.inl rfl) ?_ | refine wr_len (.inr rfl) ?_ | refine wr_lenD rfl ?_)
  | ((with_reducible show WR _ (rListA _) _ _ _); first | refine wr_list (.inl rfl) ?_ | refine wr_list (.inr rfl) ?_ | refine wr_listK rfl ?_ | refine wr_listD rfl ?_)
  | ((with_reducible show WR _ (rTupA _) _ _ _); first | refine wr_tup (.inl rfl) ?_ | refine wr_tup (.inr rfl) ?_)
  | ((with_reducible show WR _ (rIsiA _) _ _ _); first | refine wr_isi rfl rfl (by decide) ?_ | refine wr_isiT ["list", "tuple"] rfl rfl (by decide) rfl ?_)
  | ((with_reducible show W3 _ (rSlLT _) _ _ _ _ _); first | refine w3_L rfl ?_ | refine w3_T rfl ?_)
  | with_reducible refine wg_name (by first | exact True.intro | decide) ?_
  | ((with_reducible show WGs _ _ gNil _ _ _); refine wgs_nil ?_)
  | ((with_reducible show WGs _ _ (gCons _ _) _ _ _); refine wgs_cons rfl ?_)
  | ((with_reducible show WG _ _ (gTup _ _ _) _ _ _); refine wg_tup rfl rfl ?_)
  | refine ⟨_, (rfl : asg _ _ _ = _), ?_⟩
  | refine ⟨_, _, (rfl : fzA _ _ _ = _), le_lineB rfl, ?_⟩
  | refine ⟨_, (rfl : SV.d _ = _), ?_⟩
  | refine ⟨_, (rfl : vw _ _ = _), ?_⟩
  | refine ⟨(rfl : nraw _ = true), ?_⟩
  | refine ⟨(rfl : List.length _ = _), le_lineB rfl, rfl, ?_⟩)
local macro_rules | `(tactic| walk_at "S") => `(tactic| repeat walk_at "s")
/-- what is walked -/
local macro_rules | `(tactic| walk_at "w") => `(tactic| first | refine ⟨_, _, .inl rfl, ?_⟩ | refine ⟨_, _, .inr rfl, ?_⟩ | refine ⟨_, _, _, rfl, .inl rfl, ?_⟩ | refine ⟨_, _, _, rfl, .inr rfl, ?_⟩)
local macro_rules | `(tactic| walk_at "s") => `(tactic| first
  | ((with_reducible show WE _ (tOp (rIxA _) (tVar 0) (tC (V.int 1))) _ _); refine we_sget (i := 1) rfl rfl ?_)
  | ((with_reducible show WE _ (tOp (rIxA _) (tVar 0) (tC (V.int 2))) _ _); refine we_sget (i := 2) rfl rfl ?_)
  | ((with_reducible show WE _ (tOp (rIxA _) (tVar 0) (tC (V.int 3))) _ _); refine we_sget (i := 3) rfl rfl ?_)
  | ((with_reducible show WE _ (tOp (rNeA _) (tOp (rIxA _) (tVar 0) (tC (V.int 0))) (tLst tNil)) _ _); refine we_sne rfl ?_)
  | ((with_reducible show WS _ (tAsg _ (gSub (tVar 0) (tC (V.int 1)) rSetL)) _ _); refine ws_sset (i := 1) (.inl rfl) ?_)
  | ((with_reducible show WS _ (tAsg _ (gSub (tVar 0) (tC (V.int 2)) rSetL)) _ _); refine ws_sset (i := 2) (.inr (.inl rfl)) ?_)
  | ((with_reducible show WS _ (tAsg _ (gSub (tVar 0) (tC (V.int 3)) rSetL)) _ _); refine ws_sset (i := 3) (.inr (.inr rfl)) ?_)
  | ((with_reducible show WR _ rInt1 _ _ _); refine wr_int rfl ?_))
section
variable {K : PySem.W.Frag} {A : Ad}
structure SxOk (s : Sq) (n : Nat) (x : Sx) : Prop where
  p : x.p = s.p
  q : x.q = s.q
  a : 0 ≤ x.a
  c : 0 ≤ x.c
  cn : x.c ≤ n
  m : 0 ≤ x.m
  mm : x.m < 2147483648
theorem w_law_below {s : Sq} {ds : List D} (hp : preBelow s ds) : WS K (t_law_below K A) (slots ["stream", "many", "cell", "digit", "mixed"] (.own (ownS s) :: ds.map SV.d)) (endS postBelow s ds) := by
  obtain ⟨hs, m, rfl, hm1, hm2⟩ := hp
  show WS K _ [.own (ownS s), .d (.int m), .any, .any, .any] _
  refine ws_open (j := 0) (O := ownS s) (P := fun O' => ∃ x : Sx, O' = ownX x ∧ SxOk s s.n x) rfl (fun G H v fp ⟨ns, a, c, mm, e1, e2, e0, e3, e4, h1, h2, h3, h4, h5⟩ => ⟨ownX ⟨s.p, s.q, ns, a, c, mm⟩, ⟨_, rfl, rfl, rfl, h1, h2, h3, h4, h5⟩, e1, e2, e0, e3, e4⟩) ?_
  rintro _ ⟨x, rfl, X⟩
  refine ws_close (j := 0) (O := fun _ => ownS (s.up 1)) (P := fun O' => ∃ x : Sx, O' = ownX x ∧ SxOk s (s.n + 1) x) ?_ ?_
  · rintro _ ⟨y, rfl, Y⟩ G H v fp ⟨e1, e2, e0, e3, e4⟩
    refine ⟨y.ns, y.a, y.c, y.m, ?_, ?_, ?_, ?_, ?_, Y.a, Y.c, Y.cn, Y.m, Y.mm⟩
    · rw [e1, Y.p]; rfl
    · rw [e2, Y.p, Y.q]; rfl
    · show s.p ≠ s.q; rw [← Y.p, ← Y.q]; exact e0
    · show H s.p = some (.lst [.ref s.q, _, _, _]); rw [← Y.p, ← Y.q]; exact e3
    · show H s.q = _; rw [← Y.q]; exact e4
  have fin : ∀ (ρ : List SV) x, SxOk s (s.n + 1) x → ρ[0]? = some (.own (ownX x)) → ∀ d : Int, 0 ≤ d → d < m → (∃ O', ρ[0]? = some (.own O') ∧ (∃ x : Sx, O' = ownX x ∧ SxOk s (s.n + 1) x) ∧ (endS postBelow s [.int m]).rt (.d (.int d)) (ρ.set 0 (.own (ownS (s.up 1))))) := by
    intro ρ x X h0 d hd hd2
    refine ⟨_, h0, ⟨x, rfl, X⟩, .int d, ρ.set 0 (.own (ownS (s.up 1))), s.up 1, rfl, ?_, rfl, fun m' e => ?_⟩
    · rw [List.getElem?_set_self (List.getElem?_eq_some_iff.mp h0).1]
    · simp only [List.cons.injEq, D.int.injEq] at e
      exact ⟨d.toNat, by rw [show ((d.toNat : Nat) : Int) = d by omega], by omega⟩
  unfold t_law_below
  walk_at "S"
  refine ⟨_, x, rfl, rfl, ?_⟩
  have X1 : SxOk s (s.n + 1) (x.put 2 (x.c + 1)) := ⟨X.p, X.q, X.a, by show 0 ≤ x.c + 1; have := X.c; omega, by show x.c + 1 ≤ _; have := X.cn; omega, X.m, X.mm⟩
  generalize x.put 2 (x.c + 1) = x1 at *
  show WS K _ [.own (ownX x1), .d (.int m), .any, .any, .any] _
  refine ws_seq ?_
  have rest : ∀ x3 s2, SxOk s (s.n + 1) x3 → WS K (tSeq (tIfS (tTest (tOp (rI0 fun i j => .bl (decide (j < i))) (tOp (rIxA K) (tVar 0) (tC (.int 1))) (tC (.int 0)))) (tSeq (tAsg (tOp (rI (fun _ j => j ≠ 0) fun i j => .int (i.fmod j)) (tCB (rInt1) (tCons (tOp (rIxA K) (tVar 0) (tC (.int 1))) (tNil))) (tVar 1)) (gName 3))
    (tSeq (tAsg (tOp (rI CDivN fun i j => .int (i.fdiv j)) (tOp (rIxA K) (tVar 0) (tC (.int 1))) (tVar 1)) (gSub (tVar 0) (tC (.int 1)) rSetL))
    (tRet (tVar 3)))) (tNext))
    (tSeq (tAsg (tOp (rI (fun _ j => j ≠ 0) fun i j => .int (i.fmod j)) (tCB (rInt1) (tCons (tOp (rI CPow fun i j => .int (i ^ j.toNat)) (tOp (rAddA K) (tOp (rAddA K) (tOp (rIxA K) (tVar 0) (tC (.int 3))) (tOp (rI CMul fun i j => .int (i * j)) (tC (.int 9049)) (tOp (rIxA K) (tVar 0) (tC (.int 2))))) (tC (.int 130073))) (tC (.int 5))) (tNil))) (tC (.int 2147483629))) (gName 4))
    (tRet (tOp (rI (fun _ j => j ≠ 0) fun i j => .int (i.fmod j)) (tOp (rI (fun _ j => j ≠ 0) fun i j => .int (i.fmod j)) (tCB (rInt1) (tCons (tOp (rI CPow fun i j => .int (i ^ j.toNat)) (tOp (rAddA K) (tOp (rAddA K) (tOp (rI CMul fun i j => .int (i * j)) (tVar 4) (tC (.int 44089))) (tOp (rI CMul fun i j => .int (i * j)) (tC (.int 60077)) (tOp (rIxA K) (tVar 0) (tC (.int 2))))) (tC (.int 47))) (tC (.int 3))) (tNil))) (tC (.int 1000000007))) (tVar 1)))))
      [.own (ownX x3), .d (.int m), s2, .any, .any] { nx := fun _ => False, rt := fun z ρ' => ∃ O', ρ'[0]? = some (.own O') ∧ (∃ x : Sx, O' = ownX x ∧ SxOk s (s.n + 1) x) ∧ (endS postBelow s [.int m]).rt z (ρ'.set 0 (.own (ownS (s.up 1)))) } := by
    intro x3 s2 X3
    have m0 : (m : Int) ≠ 0 := by omega
    walk_at "S"
    by_cases h0 : 0 < x3.a
    · refine ifT (decide_eq_true h0) ?_
      walk_at "S"
      refine w2_I rfl rfl m0 ?_
      walk_at "S"
      refine w2_I rfl rfl ⟨m0, by omega⟩ ?_
      refine ⟨_, x3, rfl, rfl, ?_⟩
      have X4 : SxOk s (s.n + 1) (x3.put 1 (x3.a.fdiv m)) := ⟨X3.p, X3.q, Int.fdiv_nonneg X3.a (by omega), X3.c, X3.cn, X3.m, X3.mm⟩
      walk_at "S"
      exact fin _ _ X4 rfl _ (Int.fmod_nonneg_of_pos _ (by omega)) (Int.fmod_lt_of_pos _ (by omega))
    · refine ifF (decide_eq_false h0) ?_
      have hc : x3.c ≤ 1000000 := by have := X3.cn; omega
      have hc0 := X3.c
      have hm0 := X3.m
      have hmm := X3.mm
      walk_at "S"
      refine w2_I rfl rfl (.inl ⟨by decide, by decide⟩) ?_
      walk_at "S"
      refine w2_I rfl rfl ⟨by decide, by decide, by omega⟩ ?_
      walk_at "S"
      refine w2_I rfl rfl (by decide) ?_
      generalize hv : Int.fmod _ 2147483629 = v
      have v1 : 0 ≤ v := by rw [← hv]; exact Int.fmod_nonneg_of_pos _ (by decide)
      have v2 : v < 2147483629 := by rw [← hv]; exact Int.fmod_lt_of_pos _ (by decide)
      walk_at "S"
      refine w2_I rfl rfl (.inr ⟨by decide, by decide⟩) ?_
      walk_at "S"
      refine w2_I rfl rfl (.inl ⟨by decide, by decide⟩) ?_
      walk_at "S"
      refine w2_I rfl rfl ⟨by decide, by decide, by omega⟩ ?_
      walk_at "S"
      refine w2_I rfl rfl (by decide) ?_
      walk_at "S"
      refine w2_I rfl rfl m0 ?_
      exact fin _ _ X3 rfl _ (Int.fmod_nonneg_of_pos _ (by omega)) (Int.fmod_lt_of_pos _ (by omega))
  refine ws_while (fun k ρ2 => ∃ x s2, ρ2 = [.own (ownX x), .d (.int m), s2, .any, .any] ∧ SxOk s (s.n + 1) x ∧ k = x.ns.length) x1.ns.length ⟨x1, _, rfl, X1, rfl⟩ ?_
  rintro k ρ2 ⟨x2, s2, rfl, X2, hk⟩
  walk_at "S"
  by_cases h1 : x2.a = 0
  · refine ifT (decide_eq_true h1) ?_
    walk_at "S"
    cases hns : x2.ns with
    | nil =>
      refine ifF rfl ?_
      exact (rest x2 s2 X2).imp (fun _ h => h.elim) (fun _ _ h => h) (fun _ h => h.elim) (fun _ h => h.elim)
    | cons n r =>
      refine ifT rfl ?_
      refine ws_seq (ws_set (we_spop rfl hns ?_))
      have X3 : SxOk s (s.n + 1) { x2 with ns := r } := ⟨X2.p, X2.q, X2.a, X2.c, X2.cn, X2.m, X2.mm⟩
      walk_at "S"
      refine w2_I rfl rfl (.inr ⟨by decide, by decide⟩) ?_
      walk_at "S"
      refine w2_I rfl rfl (by decide) ?_
      refine ⟨_, _, rfl, rfl, ?_⟩
      generalize hv : Int.fmod _ 2147483647 = v
      have v1 : 0 ≤ v := by rw [← hv]; exact Int.fmod_nonneg_of_pos _ (by decide)
      have v2 : v < 2147483647 := by rw [← hv]; exact Int.fmod_lt_of_pos _ (by decide)
      have X4 : SxOk s (s.n + 1) (Sx.put { x2 with ns := r } 3 v) := ⟨X2.p, X2.q, X2.a, X2.c, X2.cn, v1, by show v < _; omega⟩
      have N4 : (Sx.put { x2 with ns := r } 3 v).ns = r := rfl
      generalize Sx.put { x2 with ns := r } 3 v = x4 at *
      walk_at "S"
      refine w2_I rfl rfl ⟨by decide, by decide, by decide⟩ ?_
      walk_at "S"
      by_cases h18 : (10 : Int) ^ (18 : Int).toNat ≤ n
      · refine ifT (decide_eq_true h18) ?_
        walk_at "S"
        refine ⟨_, x4, rfl, rfl, ?_⟩
        have X5 : SxOk s (s.n + 1) (x4.put 1 n) := ⟨X4.p, X4.q, by show 0 ≤ n; exact Int.le_trans (by decide) h18, X4.c, X4.cn, X4.m, X4.mm⟩
        exact ⟨r.length, by rw [hk, hns]; simp, _, _, rfl, X5, by show _ = x4.ns.length; rw [N4]⟩
      · refine ifF (decide_eq_false h18) ?_
        walk_at "S"
        refine ⟨_, x4, rfl, rfl, ?_⟩
        have X5 : SxOk s (s.n + 1) (x4.put 1 0) := ⟨X4.p, X4.q, Int.le_refl 0, X4.c, X4.cn, X4.m, X4.mm⟩
        exact ⟨r.length, by rw [hk, hns]; simp, _, _, rfl, X5, by show _ = x4.ns.length; rw [N4]⟩
  · refine ifF (decide_eq_false h1) ?_
    refine ifF rfl ?_
    exact (rest x2 s2 X2).imp (fun _ h => h.elim) (fun _ _ h => h) (fun _ h => h.elim) (fun _ h => h.elim)
end
end K61

set_option Elab.async false
set_option linter.all false
set_option maxRecDepth 100000
namespace K61
open PySem PySem.Spec L2 DL
local macro_rules | `(tactic| walk_at "s") => `(tactic| first
  | with_reducible refine we_op ?_
  | with_reducible refine we_c ?_
  | with_reducible refine wa_nil ?_
  | with_reducible refine wa_cons ?_
  | with_reducible refine we_cb ?_
  | with_reducible refine we_un ?_
  | with_reducible refine we_if ?_
  | with_reducible refine wt_and ?_
  | with_reducible refine wt_or ?_
  | with_reducible refine wt_not ?_
  | with_reducible refine wt_test ?_
  | with_reducible refine wt_B ?_
  | with_reducible refine wt_yes ?_
  | with_reducible refine we_andV ?_
  | with_reducible refine we_orV ?_
  | with_reducible refine we_notV ?_
  | with_reducible refine we_isN ?_
  | with_reducible refine we_notN ?_
  | with_reducible refine we_sl ?_
  | with_reducible refine wo_no ?_
  | with_reducible refine wo_some ?_
  | with_reducible refine we_lst ?_
  | with_reducible refine we_tup ?_
  | with_reducible refine we_call ?_
  | with_reducible refine we_callS ?_
  | with_reducible refine we_callN ?_
  | with_reducible refine ws_seq ?_
  | with_reducible refine ws_ret ?_
  | with_reducible refine ws_drop ?_
  | with_reducible refine ws_if ?_
  | with_reducible refine ws_next ?_
  | with_reducible refine ws_break ?_
  | with_reducible refine ws_set ?_
  | with_reducible refine ws_multi ?_
  | with_reducible refine ws_asg ?_
  | with_reducible refine we_lc ?_
  | with_reducible refine we_dc ?_
  | with_reducible refine ws_for ?_
  | with_reducible refine wi_seq ?_
  | with_reducible refine wi_enum ?_
  | with_reducible refine wi_zip ?_
  | with_reducible refine wi_range1 ?_
  | with_reducible refine wi_str ?_
  | with_reducible refine we_dnewK ?_
  | ((with_reducible show WE _ (tVar _) _ _); first | refine we_var rfl ?_ | refine we_varO rfl ?_)
  | ((with_reducible show WE _ (tFld _ _ _) _ _); first | refine we_touched (by assumption) ?_ | refine we_every (by assumption) ?_)
  | ((with_reducible show W2 _ (rIxA _) _ _ _ _); first | refine w2_ixCr rfl rfl (by assumption) (by assumption) ?_ | refine w2_ixLog rfl rfl (by assumption) (by assumption) ?_ | refine w2_ixLogT rfl rfl (by assumption) (by assumption) ?_)
  | ((with_reducible show W2 _ (rInA _ _) _ _ _ _); first | refine w2_inCr rfl rfl ?_ | refine w2_inS rfl (.inl rfl) ?_ | refine w2_inS rfl (.inr rfl) ?_ | refine w2_ninS rfl (.inl rfl) ?_ | refine w2_ninS rfl (.inr rfl) ?_)
  | ((with_reducible show W2 _ (rI0 _) _ _ _ _); refine w2_I0 rfl rfl ?_)
  | ((with_reducible show W2 _ (rEqA _) _ _ _ _); first | refine w2_eqStr rfl rfl ?_ | refine w2_eqInt rfl rfl ?_ | refine w2_eqBl rfl rfl ?_)
  | ((with_reducible show W2 _ (rNeA _) _ _ _ _); first | refine w2_neStr rfl rfl ?_ | refine w2_neInt rfl rfl ?_ | refine w2_neBl rfl rfl ?_)
  | ((with_reducible show W2 _ (rAddA _) _ _ _ _); refine w2_addI rfl rfl ?_)
  | ((with_reducible show WR _ (rLenA _) _ _ _); first | refine wr_len (.inl rfl) ?_ | refine wr_len (.inr rfl) ?_ | refine wr_lenD rfl ?_)
  | ((with_reducible show WR _ (rListA _) _ _ _); first | refine wr_list (.inl rfl) ?_ | refine wr_list (.inr rfl) ?_ | refine wr_listK rfl ?_ | refine wr_listD rfl ?_)
  | ((with_reducible show WR _ (rTupA _) _ _ _); first | refine wr_tup (.inl rfl) ?_ | refine wr_tup (.inr rfl) ?_)
  | ((with_reducible show WR _ (rIsiA _) _ _ _); first | refine wr_isi rfl rfl (by decide) ?_ | refine wr_isiT ["list", "tuple"] rfl rfl (by decide) rfl ?_)
  | ((with_reducible show W3 _ (rSlLT _) _ _ _ _ _); first | refine w3_L rfl ?_ | refine w3_T rfl ?_)
  | with_reducible refine wg_name (by first | exact True.intro | decide) ?_
  | ((with_reducible show WGs _ _ gNil _ _ _); refine wgs_nil ?_)
  | ((with_reducible show WGs _ _ (gCons _ _) _ _ _); refine wgs_cons rfl ?_)
  | ((with_reducible show WG _ _ (gTup _ _ _) _ _ _); refine wg_tup rfl rfl ?_)
  | refine ⟨_, (rfl : asg _ _ _ = _), ?_⟩
  | refine ⟨_, _, (rfl : fzA _ _ _ = _), le_lineB rfl, ?_⟩
  | refine ⟨_, (rfl : SV.d _ = _), ?_⟩
  | refine ⟨_, (rfl : vw _ _ = _), ?_⟩
  | refine ⟨(rfl : nraw _ = true), ?_⟩
  | refine ⟨(rfl : List.length _ = _), le_lineB rfl, rfl, ?_⟩)
local macro_rules | `(tactic| walk_at "S") => `(tactic| repeat walk_at "s")
/-- what is walked -/
local macro_rules | `(tactic| walk_at "w") => `(tactic| first | refine ⟨_, _, .inl rfl, ?_⟩ | refine ⟨_, _, .inr rfl, ?_⟩ | refine ⟨_, _, _, rfl, .inl rfl, ?_⟩ | refine ⟨_, _, _, rfl, .inr rfl, ?_⟩)
section
variable {K : PySem.W.Frag} {A : Ad}
theorem sameOk_str (n : Nat) (s : Str) : sameOk n (.str s) := by
  cases n with
  | zero => exact .inl ⟨s, rfl⟩
  | succ n => exact .inl (.inl ⟨s, rfl⟩)
/-- what is handed to the def in itself -/
def samePre (n : Nat) : List D → Prop := match n with
  | 0 => fun _ => False
  | n + 1 => fun ds => ∃ x, ds = [x, x] ∧ sameOk n x
theorem w_law_same (n : Nat) {ds : List D} (hp : ∃ x, ds = [x, x] ∧ sameOk n x) : WS K (t_law_same K A (spP K (samePre n) postTrue)) (slots ["found", "due", "x", "y"] (ds.map SV.d)) (endP postTrue ds) := by
  obtain ⟨x, rfl, hx⟩ := hp
  have done : ∀ {ρ : List SV} {b : Bool}, b = true → (endP postTrue [x, x]).rt (.d (.bl b)) ρ := fun h => ⟨_, _, rfl, by rw [h]; rfl⟩
  have scal : ((∃ s, x = .str s) ∨ (∃ i, x = .int i) ∨ x = .non) → WS K (t_law_same K A (spP K (samePre n) postTrue)) (slots ["found", "due", "x", "y"] ([x, x].map SV.d)) (endP postTrue [x, x]) := by
    rintro (⟨s, rfl⟩ | ⟨i, rfl⟩ | rfl)
    · show WS K _ [.d (.str s), .d (.str s), .any, .any] _
      unfold t_law_same
      walk_at "S"
      refine ifF rfl ?_
      walk_at "S"
      refine ifF rfl ?_
      walk_at "S"
      refine ifF rfl ?_
      walk_at "S"
      refine ifF rfl ?_
      walk_at "S"
      refine ifT rfl ?_
      walk_at "S"
      refine ifT rfl ?_
      walk_at "S"
      exact done (by simp)
    · show WS K _ [.d (.int i), .d (.int i), .any, .any] _
      unfold t_law_same
      walk_at "S"
      refine ifF rfl ?_
      walk_at "S"
      refine ifF rfl ?_
      walk_at "S"
      refine ifT rfl ?_
      walk_at "S"
      refine ifT rfl ?_
      walk_at "S"
      refine ifT rfl ?_
      walk_at "S"
      exact done (by simp)
    · show WS K _ [.d .non, .d .non, .any, .any] _
      unfold t_law_same
      walk_at "S"
      refine ifF rfl ?_
      walk_at "S"
      refine ifF rfl ?_
      walk_at "S"
      refine ifF rfl ?_
      walk_at "S"
      refine ifT rfl ?_
      walk_at "S"
      exact done rfl
  cases n with
  | zero => exact scal hx
  | succ n =>
    rcases hx with h | ⟨xs, h, hz, hall⟩ | ⟨kvs, rfl, hk⟩
    · exact scal h
    · rcases h with rfl | rfl
      · show WS K _ [.d (.lst xs), .d (.lst xs), .any, .any] _
        unfold t_law_same
        walk_at "S"
        refine ifT rfl ?_
        walk_at "S"
        refine ifF rfl ?_
        walk_at "S"
        refine ifF rfl ?_
        walk_at "S"
        refine ifT (by simp) ?_
        walk_at "S"
        refine ⟨xs, xs, _, .inl rfl, ?_⟩
        rw [zip_self]
        refine lcM xs (fun x => .tup [x, x]) (fun _ => .bl true) rfl (le_line hz) (fun a ha => ?_) ?_
        · walk_at "S"
          refine ⟨_, _, rfl, ⟨a, rfl, hall a ha⟩, fun z hz => ?_⟩
          cases hz
          exact ⟨_, rfl, rfl⟩
        walk_at "S"
        refine wr_allF (l := xs) (f := fun _ => true) rfl ?_
        exact done (by simp)
      · show WS K _ [.d (.tup xs), .d (.tup xs), .any, .any] _
        unfold t_law_same
        walk_at "S"
        refine ifT rfl ?_
        walk_at "S"
        refine ifF rfl ?_
        walk_at "S"
        refine ifF rfl ?_
        walk_at "S"
        refine ifT (by simp) ?_
        walk_at "S"
        refine ⟨xs, xs, _, .inr rfl, ?_⟩
        rw [zip_self]
        refine lcM xs (fun x => .tup [x, x]) (fun _ => .bl true) rfl (le_line hz) (fun a ha => ?_) ?_
        · walk_at "S"
          refine ⟨_, _, rfl, ⟨a, rfl, hall a ha⟩, fun z hz => ?_⟩
          cases hz
          exact ⟨_, rfl, rfl⟩
        walk_at "S"
        refine wr_allF (l := xs) (f := fun _ => true) rfl ?_
        exact done (by simp)
    · show WS K _ [.d (.dK kvs), .d (.dK kvs), .any, .any] _
      unfold t_law_same
      walk_at "S"
      refine ifF rfl ?_
      walk_at "S"
      refine ifT rfl ?_
      walk_at "S"
      refine ifT rfl ?_
      walk_at "S"
      refine we_listItems ?_
      walk_at "S"
      refine we_listItems ?_
      walk_at "S"
      refine ⟨_, _, rfl, ⟨_, rfl, hk⟩, fun z hz => ?_⟩
      cases hz
      exact done rfl
end
end K61

set_option Elab.async false
set_option linter.all false
set_option maxRecDepth 100000
namespace K61
open PySem PySem.Spec L2 DL
local macro_rules | `(tactic| walk_at "s") => `(tactic| first
  | with_reducible refine we_op ?_
  | with_reducible refine we_c ?_
  | with_reducible refine wa_nil ?_
  | with_reducible refine wa_cons ?_
  | with_reducible refine we_cb ?_
  | with_reducible refine we_un ?_
  | with_reducible refine we_if ?_
  | with_reducible refine wt_and ?_
  | with_reducible refine wt_or ?_
  | with_reducible refine wt_not ?_
  | with_reducible refine wt_test ?_
  | with_reducible refine wt_B ?_
  | with_reducible refine wt_yes ?_
  | with_reducible refine we_andV ?_
  | with_reducible refine we_orV ?_
  | with_reducible refine we_notV ?_
  | with_reducible refine we_isN ?_
  | with_reducible refine we_notN ?_
  | with_reducible refine we_sl ?_
  | with_reducible refine wo_no ?_
  | with_reducible refine wo_some ?_
  | with_reducible refine we_lst ?_
  | with_reducible refine we_tup ?_
  | with_reducible refine we_call ?_
  | with_reducible refine we_callS ?_
  | with_reducible refine we_callN ?_
  | with_reducible refine ws_seq ?_
  | with_reducible refine ws_ret ?_
  | with_reducible refine ws_drop ?_
  | with_reducible refine ws_if ?_
  | with_reducible refine ws_next ?_
  | with_reducible refine ws_break ?_
  | with_reducible refine ws_set ?_
  | with_reducible refine ws_multi ?_
  | with_reducible refine ws_asg ?_
  | with_reducible refine we_lc ?_
  | with_reducible refine we_dc ?_
  | with_reducible refine ws_for ?_
  | with_reducible refine wi_seq ?_
  | with_reducible refine wi_enum ?_
  | with_reducible refine wi_zip ?_
  | with_reducible refine wi_range1 ?_
  | with_reducible refine wi_str ?_
  | with_reducible refine we_dnewK ?_
  | ((with_reducible show WE _ (tVar _) _ _); first | refine we_var rfl ?_ | refine we_varO rfl ?_)
  | ((with_reducible show WE _ (tFld _ _ _) _ _); first | refine we_touched (by assumption) ?_ | refine we_every (by assumption) ?_)
  | ((with_reducible show W2 _ (rIxA _) _ _ _ _); first | refine w2_ixCr rfl rfl (by assumption) (by assumption) ?_ | refine w2_ixLog rfl rfl (by assumption) (by assumption) ?_ | refine w2_ixLogT rfl rfl (by assumption) (by assumption) ?_)
  | ((with_reducible show W2 _ (rInA _ _) _ _ _ _); first | refine w2_inCr rfl rfl ?_ | refine w2_inS rfl (.inl rfl) ?_ | refine w2_inS rfl (.inr rfl) ?_ | refine w2_ninS rfl (.inl rfl) ?_ | refine w2_ninS rfl (.inr rfl) ?_)
  | ((with_reducible show W2 _ (rI0 _) _ _ _ _); refine w2_I0 rfl rfl ?_)
  | ((with_reducible show W2 _ (rEqA _) _ _ _ _); first | refine w2_eqStr rfl rfl ?_ | refine w2_eqInt rfl rfl ?_ | refine w2_eqBl rfl rfl ?_)
  | ((with_reducible show W2 _ (rNeA _) _ _ _ _); first | refine w2_neStr rfl rfl ?_ | refine w2_neInt rfl rfl ?_ | refine w2_neBl rfl rfl ?_)
  | ((with_reducible show W2 _ (rAddA _) _ _ _ _); refine w2_addI rfl rfl ?_)
  | ((with_reducible show WR _ (rLenA _) _ _ _); first | refine wr_len (.inl rfl) ?_ | refine wr_len (.inr rfl) ?_ | refine wr_lenD rfl ?_)
  | ((with_reducible show WR _ (rListA _) _ _ _); first | refine wr_list (.inl rfl) ?_ | refine wr_list (.inr rfl) ?_ | refine wr_listK rfl ?_ | refine wr_listD rfl ?_)
  | ((with_reducible show WR _ (rTupA _) _ _ _); first | refine wr_tup (.inl rfl) ?_ | refine wr_tup (.inr rfl) ?_)
  | ((with_reducible show WR _ (rIsiA _) _ _ _); first | refine wr_isi rfl rfl (by decide) ?_ | refine wr_isiT ["list", "tuple"] rfl rfl (by decide) rfl ?_)
  | ((with_reducible show W3 _ (rSlLT _) _ _ _ _ _); first | refine w3_L rfl ?_ | refine w3_T rfl ?_)
  | with_reducible refine wg_name (by first | exact True.intro | decide) ?_
  | ((with_reducible show WGs _ _ gNil _ _ _); refine wgs_nil ?_)
  | ((with_reducible show WGs _ _ (gCons _ _) _ _ _); refine wgs_cons rfl ?_)
  | ((with_reducible show WG _ _ (gTup _ _ _) _ _ _); refine wg_tup rfl rfl ?_)
  | refine ⟨_, (rfl : asg _ _ _ = _), ?_⟩
  | refine ⟨_, _, (rfl : fzA _ _ _ = _), le_lineB rfl, ?_⟩
  | refine ⟨_, (rfl : SV.d _ = _), ?_⟩
  | refine ⟨_, (rfl : vw _ _ = _), ?_⟩
  | refine ⟨(rfl : nraw _ = true), ?_⟩
  | refine ⟨(rfl : List.length _ = _), le_lineB rfl, rfl, ?_⟩)
local macro_rules | `(tactic| walk_at "S") => `(tactic| repeat walk_at "s")
/-- what is walked -/
local macro_rules | `(tactic| walk_at "w") => `(tactic| first | refine ⟨_, _, .inl rfl, ?_⟩ | refine ⟨_, _, .inr rfl, ?_⟩ | refine ⟨_, _, _, rfl, .inl rfl, ?_⟩ | refine ⟨_, _, _, rfl, .inr rfl, ?_⟩)
local macro_rules | `(tactic| walk_at "n") => `(tactic| dsimp only [wipeS, List.set_cons_zero, List.set_cons_succ])
section
variable {K : PySem.W.Frag} {A : Ad}
theorem ws_seqI {t u : TS} {ρ : List SV} {R : Post} (I : List SV → Prop) (h1 : WS K t ρ { R with nx := I }) (h2 : ∀ ρ1, I ρ1 → WS K u ρ1 R) : WS K (tSeq t u) ρ R := ws_seq (h1.imp h2 (fun _ _ h => h) (fun _ h => h) fun _ h => h)
theorem sameOk_strs (n : Nat) {l : List Str} (hz : l.length ≤ 1000000) : sameOk (n + 1) (.lst (sD l)) := .inr (.inl ⟨_, .inl rfl, by rw [sD_len]; exact hz, fun y hy => by
  obtain ⟨s, _, rfl⟩ := List.mem_map.mp hy
  exact sameOk_str n s⟩)
theorem sameOk_logs (n : Nat) {cr : Crw} {f : Str → List Str} (G : Good cr) (hz : ∀ h ∈ every cr, (f h).length ≤ 1000000) : sameOk (n + 4) (logsD cr f) := by
  have h5 := G.every_len
  refine .inr (.inr ⟨_, rfl, .inr (.inl ⟨_, .inl rfl, by rw [List.length_map, List.length_map]; omega, fun y hy => ?_⟩)⟩)
  rw [List.map_map] at hy
  obtain ⟨h, hh, rfl⟩ := List.mem_map.mp hy
  refine .inr (.inl ⟨[.str h, .lst (sD (f h))], .inr rfl, by show 2 ≤ _; decide, fun z hz' => ?_⟩)
  have : z = .str h ∨ z = .lst (sD (f h)) := by simpa using hz'
  rcases this with rfl | rfl
  · exact sameOk_str _ _
  · exact sameOk_strs n (hz h hh)
theorem sameOk_row {l : List Str} (hz : l.length ≤ 1000000) : sameOk 5 (.tup [.str "row", .lst (sD l)]) := by
  refine .inr (.inl ⟨_, .inr rfl, by show 2 ≤ _; decide, fun z hz' => ?_⟩)
  have : z = .str "row" ∨ z = .lst (sD l) := by simpa using hz'
  rcases this with rfl | rfl
  · exact sameOk_str _ _
  · exact sameOk_strs _ hz
theorem saw_okS {cr : Crw} {l : List Str} (G : Good cr) (hl : Sub cr l) (h : Str) : okS (saw cr l h) := ok_of fun s hs => G.key_nm (hl s (List.mem_filter.mp hs).1)
theorem okS_sub {l m : List Str} (h : ∀ s ∈ m, s ∈ l) (o : okS l) : okS m := fun s hs => o s (h s hs)
theorem two_map {cr : Crw} (f : Str → List Str) (g : Str → List Str) : ((sD (every cr)).flatMap fun a => [logsD cr f, logsD cr g].map fun b => D.tup [a, b]) = ((every cr).flatMap fun h => [(h, f), (h, g)]).map fun p => D.tup [.str p.1, logsD cr p.2] := by
  unfold sD
  induction every cr with
  | nil => rfl
  | cons a l ih =>
    simp only [List.map_cons, List.flatMap_cons, List.map_append, List.map_nil] at ih ⊢
    rw [← ih]
theorem two_mem {cr : Crw} {f g : Str → List Str} {p : Str × (Str → List Str)} (h : p ∈ (every cr).flatMap fun h => [(h, f), (h, g)]) : p.1 ∈ every cr ∧ (p.2 = f ∨ p.2 = g) := by
  obtain ⟨a, ha, hp⟩ := List.mem_flatMap.mp h
  have : p = (a, f) ∨ p = (a, g) := by simpa using hp
  rcases this with rfl | rfl
  · exact ⟨ha, .inl rfl⟩
  · exact ⟨ha, .inr rfl⟩
theorem two_len {cr : Crw} {f g : Str → List Str} (G : Good cr) : ((every cr).flatMap fun h => [(h, f), (h, g)]).length ≤ 10 := by
  have h5 := G.every_len
  have : ∀ xs : List Str, (xs.flatMap fun h => [(h, f), (h, g)]).length = xs.length * 2 := by
    intro xs
    induction xs with
    | nil => rfl
    | cons a l ih => rw [List.flatMap_cons, List.length_append, ih]; show 1 + 1 + l.length * 2 = (l.length + 1) * 2; omega
  rw [this]; omega
theorem begins_eq {cr : Crw} {l m : List Str} (G : Good cr) (hl : Sub cr l) (hm : Sub cr m) : decide ((every cr).filter (fun h => !decide ((saw cr l h).take (saw cr m h).length = saw cr m h)) = []) = (restF cr l m).isSome := by
  rw [Bool.eq_iff_iff, filter_nil, rest_iff G.hands hl hm]
  constructor
  · intro q h
    by_cases hh : h ∈ every cr
    · simpa using q h hh
    · rw [saw_out G hl hh, saw_out G hm hh]; rfl
  · intro q h _
    simpa using q h
/-- the crew and two rows stand; what the rest of a look needs -/
theorem dues_f {cr : Crw} (G : Good cr) {f : Str → List Str} (hs : mergeD [] ((every cr).map fun h => ((Sum.inr h : Key), D.lst (sD (f h)))) = mergeD [] ((every cr).map fun h => ((Sum.inr h : Key), D.lst (sD (f h))))) : D.dK (mergeD [] ((every cr).map fun h => ((Sum.inr h : Key), D.lst (sD (f h))))) = logsD cr f := by
  rw [str_pairs_nd (f := fun h => D.lst (sD (f h))) G.every_nd]; rfl
def preLaw : List D → Prop := preStart
set_option maxHeartbeats 0 in
theorem w_law (Q : CrewOk K A) {ds : List D} (hp : preLaw ds) : WS K (t_law K A (sp_law_start K) (sp_law_mcrew K) (sp_law_mmade_crew K A) (sp_law_mrow K) (sp_law_below K) (sp_law_pick K) (sp_law_mbeginnings K) (sp_law_mshuffled K) (sp_logs_of K A) (sp_law_mhands K) (sp_law_same K 5) (sp_rest_of K A) (sp_law_mrest K) (sp_joined K A) (sp_law_mleast K) (sp_common_begin K A) (sp_law_mtwo K) (sp_continued K A))
    (slots ["script", "stream", "turn", "crew", "team", "look", "row", "second", "lots", "hands", "dues", "begins", "rest", "left", "whole", "common", "some", "told_v", "longer", "one", "hand", "deed", "lot"] (ds.map SV.d)) (endP postTrue ds) := by
  obtain ⟨ns, rfl, hns⟩ := hp
  show WS K _ [.d (.kl (ns.map D.int)), .any, .any, .any, .any, .any, .any, .any, .any, .any, .any, .any, .any, .any, .any, .any, .any, .any, .any, .any, .any, .any, .any] _
  generalize hsc : D.kl (ns.map D.int) = sc
  unfold t_law
  walk_at "S"
  refine ⟨_, _, rfl, ⟨ns, by rw [hsc], hns⟩, fun s0 hs0 => ?_⟩
  walk_at "S"
  refine ⟨_, _, rfl, rfl, by decide, by decide, ?_⟩
  refine ⟨fun i ρ2 => ∃ (s : Sq) (s2 s3 s4 s5 s6 s7 s8 s9 s10 s11 s12 s13 s14 s15 s16 s17 s18 : SV), ρ2 = [.d sc, .own (ownS s), s2, s3, s4, s5, s6, s7, s8, s9, s10, s11, s12, s13, s14, s15, s16, s17, s18, .any, .any, .any, .any] ∧ s.n ≤ 500 * i, ⟨s0, _, _, _, _, _, _, _, _, _, _, _, _, _, _, _, _, _, rfl, by omega⟩, ?_, ?_⟩
  · rintro i y ρ2 hy ⟨s, s2, s3, s4, s5, s6, s7, s8, s9, s10, s11, s12, s13, s14, s15, s16, s17, s18, rfl, hs⟩
    have hi : i < 6 := by
      have := (List.getElem?_eq_some_iff.mp hy).1
      simpa [intsD] using this
    walk_at "S"
    refine ⟨0 + 1, _, s, _, _, rfl, rfl, rfl, ⟨by omega, rfl⟩, fun s' d hd => ?_⟩
    obtain ⟨⟨k, hk, rfl⟩, cr, G, rfl⟩ := hd
    have h5 := G.every_len
    walk_at "S"
    refine ⟨_, _, rfl, ⟨cr, G, rfl⟩, fun d hd => ?_⟩
    have hd := hd cr G rfl
    subst hd
    walk_at "S"
    refine ⟨_, _, rfl, rfl, by decide, by decide, ?_⟩
    refine ⟨fun j ρ2 => ∃ (s : Sq) (s2 s5 s6 s7 s8 s9 s10 s11 s12 s13 s14 s15 s16 s17 s18 : SV), ρ2 = [.d sc, .own (ownS s), s2, .d (crD cr), .d (teamD A cr), s5, s6, s7, s8, s9, s10, s11, s12, s13, s14, s15, s16, s17, s18, .any, .any, .any, .any] ∧ s.n ≤ 500 * i + 200 + 100 * j, ⟨_, _, _, _, _, _, _, _, _, _, _, _, _, _, _, _, rfl, by show s.n + k ≤ _; omega⟩, ?_, ?_⟩
    · rintro j y ρ2 hy ⟨s, s2, s5, s6, s7, s8, s9, s10, s11, s12, s13, s14, s15, s16, s17, s18, rfl, hs⟩
      have hj : j < 3 := by
        have := (List.getElem?_eq_some_iff.mp hy).1
        simpa [intsD] using this
      -- row
      walk_at "S"
      refine ⟨1, _, s, _, _, rfl, rfl, rfl, ⟨by omega, cr, 7, G, rfl, by omega⟩, fun s' d hd => ?_⟩
      obtain ⟨l, hl, hlz, rfl, rfl⟩ := hd cr 7 G rfl
      refine ⟨_, rfl, ?_⟩
      -- second
      refine ws_seqI (fun ρ2 => ∃ (s' : Sq) (s7 : SV) (m : List Str), ρ2 = [.d sc, .own (ownS s'), s2, .d (crD cr), .d (teamD A cr), .d y, .d (.lst (sD l)), s7, s8, s9, s10, s11, s12, s13, s14, s15, s16, s17, s18, .any, .any, .any, .any] ∧ Sub cr m ∧ m.length ≤ 7 ∧ (s7 = .d (.lst (sD m)) ∨ s7 = .own (ownL (sD m))) ∧ s'.n ≤ s.n + 20) ?_ ?_
      · walk_at "S"
        refine ⟨1, _, s.up (1 + l.length), _, _, rfl, rfl, rfl, ⟨by show s.n + (1 + l.length) < _; omega, 2, rfl, by omega, by omega⟩, fun s' d hd => ?_⟩
        obtain ⟨rfl, h2⟩ := hd
        obtain ⟨q, rfl, hq⟩ := h2 2 rfl
        rw [up_up]
        walk_at "S"
        by_cases h0 : (q : Int) = 0
        · refine ifT (decide_eq_true h0) ?_
          walk_at "S"
          refine ⟨_, _, rfl, ⟨cr, l, G, rfl, hl, hlz⟩, fun z hz => ?_⟩
          obtain ⟨xs, rfl, x1, x2, x3⟩ := hz cr l G rfl
          walk_at "S"
          refine ⟨1, _, s.up (1 + l.length + 1), _, _, rfl, rfl, rfl, ⟨by show s.n + (1 + l.length + 1) < _; omega, _, rfl, by simpa using x1, by rw [List.length_map]; exact x2⟩, fun s' d hd => ?_⟩
          obtain ⟨rfl, h3⟩ := hd
          obtain ⟨m, hm, rfl⟩ := List.mem_map.mp (h3 _ rfl)
          obtain ⟨m1, m2⟩ := x3 m hm
          rw [up_up]
          walk_at "S"
          exact ⟨_, _, m, rfl, m1, by omega, .inr rfl, by show s.n + (1 + l.length + 1 + 1) ≤ _; omega⟩
        · refine ifF (decide_eq_false h0) ?_
          walk_at "S"
          refine ⟨1, _, s.up (1 + l.length + 1), _, _, rfl, rfl, rfl, ⟨by show s.n + (1 + l.length + 1) < _; omega, cr, 3, G, rfl, by omega⟩, fun s' d hd => ?_⟩
          obtain ⟨m, m1, m2, rfl, rfl⟩ := hd cr 3 G rfl
          rw [up_up]
          walk_at "S"
          exact ⟨_, _, m, rfl, m1, by omega, .inl rfl, by show s.n + (1 + l.length + 1 + (1 + m.length)) ≤ _; omega⟩
      rintro _ ⟨t, s7, m0, rfl, hm0, hm0z, h7, ht⟩
      refine ws_seqI (fun ρ2 => ∃ (s' : Sq) (m : List Str), ρ2 = [.d sc, .own (ownS s'), s2, .d (crD cr), .d (teamD A cr), .d y, .d (.lst (sD l)), .d (.lst (sD m)), s8, s9, s10, s11, s12, s13, s14, s15, s16, s17, s18, .any, .any, .any, .any] ∧ Sub cr m ∧ m.length ≤ 7 ∧ s'.n ≤ s.n + 30) ?_ ?_
      · rcases h7 with rfl | rfl <;> (
          walk_at "S"
          refine ⟨1, _, t, _, _, rfl, rfl, rfl, ⟨by omega, cr, m0, G, rfl, hm0, by omega⟩, fun s' d hd => ?_⟩
          obtain ⟨rfl, m, hpm, rfl⟩ := hd cr m0 G rfl
          walk_at "S"
          exact ⟨_, m, rfl, fun x hx => hm0 x (hpm.mem_iff.mp hx), by rw [hpm.length_eq]; exact hm0z, by show t.n + m0.length ≤ _; omega⟩)
      clear ht h7 hm0 hm0z
      rintro _ ⟨t, m, rfl, hm, hmz, ht⟩
      clear s7 m0
      have zl : ∀ h, (saw cr l h).length ≤ 7 := fun h => Nat.le_trans (saw_len l h) hlz
      have zm : ∀ h, (saw cr m h).length ≤ 7 := fun h => Nat.le_trans (saw_len m h) hmz
      -- lots
      walk_at "S"
      walk_at "w"
      refine lcM [l, m] (fun l => .lst (sD l)) (fun l => logsD cr (saw cr l)) rfl (le_lineB rfl) (fun o ho => ?_) ?_
      · have hok : Sub cr o ∧ o.length ≤ 7 := by
          have : o = l ∨ o = m := by simpa using ho
          rcases this with rfl | rfl
          · exact ⟨hl, hlz⟩
          · exact ⟨hm, hmz⟩
        walk_at "S"
        refine ⟨_, _, rfl, ⟨cr, true, o, G, rfl, hok.1, by omega⟩, fun z hz => ?_⟩
        have hz := hz cr true o G rfl
        subst hz
        exact ⟨_, rfl, rfl⟩
      walk_at "S"
      refine ⟨_, _, rfl, ⟨cr, G, rfl⟩, fun z hz => ?_⟩
      have hz := hz cr G rfl
      subst hz
      -- dues
      walk_at "S"
      walk_at "w"
      refine lcM [l, m] (fun l => .lst (sD l)) (fun l => logsD cr (saw cr l)) rfl (le_lineB rfl) (fun o ho => ?_) ?_
      · have hok : Sub cr o ∧ o.length ≤ 7 := by
          have : o = l ∨ o = m := by simpa using ho
          rcases this with rfl | rfl
          · exact ⟨hl, hlz⟩
          · exact ⟨hm, hmz⟩
        walk_at "S"
        walk_at "w"
        refine lcM (every cr) D.str (fun h => .tup [.str h, .lst (sD (saw cr o h))]) rfl (le_line (by omega)) (fun h hh => ?_) ?_
        · walk_at "S"
          walk_at "w"
          refine lcP o D.str (fun d => decide (h ∈ hsOf cr d)) D.str rfl (le_line (by omega)) (fun d hd => ?_) ?_
          · have hk := hok.1 d hd
            walk_at "S"
            refine ⟨rfl, ?_, ?_⟩
            · intro _
              walk_at "S"
              exact ⟨_, rfl, rfl⟩
            · intro _; rfl
          walk_at "S"
          exact ⟨_, rfl, rfl⟩
        walk_at "S"
        refine wr_dictA (l := (every cr).map fun h => (Sum.inr h, .lst (sD (saw cr o h)))) (by show some (D.lst _) = some (D.lst _); rw [List.map_map]; rfl) ?_
        rw [str_pairs_nd (f := fun h => D.lst (sD (saw cr o h))) G.every_nd]
        exact ⟨_, rfl, rfl⟩
      -- alike
      walk_at "S"
      refine ⟨_, _, rfl, ⟨.lst [logsD cr (saw cr l), logsD cr (saw cr m)], rfl, ?_⟩, fun z hz => ?_⟩
      · refine .inr (.inl ⟨_, .inl rfl, by show 2 ≤ _; decide, fun z hz' => ?_⟩)
        have : z = logsD cr (saw cr l) ∨ z = logsD cr (saw cr m) := by simpa using hz'
        rcases this with rfl | rfl
        · exact sameOk_logs 0 G fun h _ => by have := zl h; omega
        · exact sameOk_logs 0 G fun h _ => by have := zm h; omega
      cases hz
      walk_at "S"
      refine ifF rfl ?_
      walk_at "S"
      -- begins
      walk_at "w"
      refine lcP (every cr) D.str (fun h => !decide ((saw cr l h).take (saw cr m h).length = saw cr m h)) D.str rfl (le_line (by omega)) (fun h hh => ?_) ?_
      · walk_at "S"
        refine w2_ixL rfl rfl (atI_nat (j := 0) rfl) ?_
        walk_at "S"
        refine w2_ixL rfl rfl (atI_nat (j := 1) rfl) ?_
        walk_at "S"
        refine w2_ixL rfl rfl (atI_nat (j := 1) rfl) ?_
        walk_at "S"
        rw [cut_to, sD_len]
        refine w2_neS rfl rfl (okS_sub (fun s hs => List.mem_of_mem_take hs) (saw_okS G hl h)) (saw_okS G hm h) ?_
        walk_at "S"
        refine ⟨rfl, ?_, ?_⟩
        · intro _
          walk_at "S"
          exact ⟨_, rfl, rfl⟩
        · intro _; rfl
      walk_at "S"
      refine w2_eqS (l := (every cr).filter (fun h => !decide ((saw cr l h).take (saw cr m h).length = saw cr m h))) (m := []) rfl rfl (ok_hn fun s hs => G.every_hn s (List.mem_filter.mp hs).1) okS_nil ?_
      rw [begins_eq G hl hm]
      refine ⟨_, rfl, ?_⟩
      -- rest
      walk_at "S"
      refine ⟨_, _, rfl, ⟨cr, l, m, G, rfl, hl, hm, by omega, by omega⟩, fun z hz => ?_⟩
      have hz := hz cr l m G rfl
      subst hz
      refine ⟨_, rfl, ?_⟩
      refine ws_seqI (fun ρ2 => ρ2 = [.d sc, .own (ownS t), s2, .d (crD cr), .d (teamD A cr), .d y, .d (.lst (sD l)), .d (.lst (sD m)), .d (.lst [logsD cr (saw cr l), logsD cr (saw cr m)]), .d (.lst (sD (every cr))), .d (.lst [logsD cr (saw cr l), logsD cr (saw cr m)]), .d (.bl (restF cr l m).isSome), .d (optL ((restF cr l m).map (least cr))), s13, s14, s15, s16, s17, s18, .any, .any, .any, .any]) ?_ ?_
      · show WS K _ [.d sc, .own (ownS t), s2, .d (crD cr), .d (teamD A cr), .d y, .d (.lst (sD l)), .d (.lst (sD m)), .d (.lst [logsD cr (saw cr l), logsD cr (saw cr m)]), .d (.lst (sD (every cr))), .d (.lst [logsD cr (saw cr l), logsD cr (saw cr m)]), .d (.bl (restF cr l m).isSome), .d (optL ((restF cr l m).map (least cr))), s13, s14, s15, s16, s17, s18, .any, .any, .any, .any] _
        cases q : restF cr l m with
        | none =>
          walk_at "S"
          refine ifF rfl ?_
          walk_at "S"
          refine ⟨_, _, rfl, ⟨cr, l, m, G, rfl, hl, hm, by omega, by omega⟩, fun z hz => ?_⟩
          have hz := hz cr l m G rfl
          rw [q] at hz
          subst hz
          walk_at "S"
          refine ifF rfl ?_
          walk_at "S"
          rfl
        | some r =>
          walk_at "S"
          refine ifF rfl ?_
          walk_at "S"
          refine ⟨_, _, rfl, ⟨cr, l, m, G, rfl, hl, hm, by omega, by omega⟩, fun z hz => ?_⟩
          have hz := hz cr l m G rfl
          rw [q] at hz
          subst hz
          walk_at "S"
          refine ifF rfl ?_
          walk_at "S"
          rfl
      rintro _ rfl
      refine ws_seqI (fun ρ2 => ∃ s13, ρ2 = [.d sc, .own (ownS t), s2, .d (crD cr), .d (teamD A cr), .d y, .d (.lst (sD l)), .d (.lst (sD m)), .d (.lst [logsD cr (saw cr l), logsD cr (saw cr m)]), .d (.lst (sD (every cr))), .d (.lst [logsD cr (saw cr l), logsD cr (saw cr m)]), .d (.bl (restF cr l m).isSome), .d (optL ((restF cr l m).map (least cr))), s13, s14, s15, s16, s17, s18, .any, .any, .any, .any]) ?_ ?_
      · cases q : restF cr l m with
        | none =>
          walk_at "S"
          refine ifF rfl ?_
          walk_at "S"
          exact ⟨_, rfl⟩
        | some r =>
          obtain ⟨r1, r2, r3⟩ := rest_saw q
          have hr : Sub cr r := fun x hx => hl x (r3 x hx)
          walk_at "S"
          refine ifT rfl ?_
          walk_at "S"
          walk_at "w"
          refine lcM (every cr) D.str (fun h => .tup [.str h, .lst (sD (saw cr r h))]) rfl (le_line (by omega)) (fun h hh => ?_) ?_
          · walk_at "S"
            refine w2_ixL rfl rfl (atI_nat (j := 0) rfl) ?_
            walk_at "S"
            refine w2_ixL rfl rfl (atI_nat (j := 1) rfl) ?_
            walk_at "S"
            rw [cut_from, sD_len]
            have e : (saw cr l h).drop (saw cr m h).length = saw cr r h := by rw [r1 h]; simp
            rw [e]
            walk_at "S"
            exact ⟨_, rfl, rfl⟩
          walk_at "S"
          refine wr_dictA (l := (every cr).map fun h => (Sum.inr h, .lst (sD (saw cr r h)))) (by show some (D.lst _) = some (D.lst _); rw [List.map_map]; rfl) ?_
          rw [str_pairs_nd (f := fun h => D.lst (sD (saw cr r h))) G.every_nd]
          walk_at "S"
          refine ⟨_, _, rfl, ⟨cr, r, G, rfl, hr, by omega⟩, fun z hz => ?_⟩
          have hz := hz cr r G hr rfl
          subst hz
          walk_at "S"
          refine ⟨_, _, rfl, ⟨_, rfl, sameOk_row (by rw [least_len hr]; omega)⟩, fun z hz => ?_⟩
          cases hz
          walk_at "S"
          refine ifF rfl ?_
          walk_at "S"
          exact ⟨_, rfl⟩
      rintro _ ⟨t13, rfl⟩
      -- both put together
      have hml : Sub cr (m ++ l) := fun x hx => by
        rcases List.mem_append.mp hx with z | z
        · exact hm x z
        · exact hl x z
      have hmlz : (m ++ l).length ≤ 14 := by rw [List.length_append]; omega
      walk_at "S"
      walk_at "w"
      refine lcM (every cr) D.str (fun h => .tup [.str h, .lst (sD (saw cr (m ++ l) h))]) rfl (le_line (by omega)) (fun h hh => ?_) ?_
      · walk_at "S"
        refine w2_ixL rfl rfl (atI_nat (j := 1) rfl) ?_
        walk_at "S"
        refine w2_ixL rfl rfl (atI_nat (j := 0) rfl) ?_
        walk_at "S"
        refine w2_addL rfl rfl (le_line (by rw [sD_len, sD_len]; have := zl h; have := zm h; omega)) ?_
        rw [← sD_app, ← saw_app]
        walk_at "S"
        exact ⟨_, rfl, rfl⟩
      walk_at "S"
      refine wr_dictA (l := (every cr).map fun h => (Sum.inr h, .lst (sD (saw cr (m ++ l) h)))) (by show some (D.lst _) = some (D.lst _); rw [List.map_map]; rfl) ?_
      rw [str_pairs_nd (f := fun h => D.lst (sD (saw cr (m ++ l) h))) G.every_nd]
      walk_at "S"
      refine ⟨_, _, rfl, ⟨cr, m ++ l, G, rfl, hml, by omega⟩, fun z hz => ?_⟩
      have hz := hz cr (m ++ l) G hml rfl
      subst hz
      walk_at "S"
      refine w2_addL rfl rfl (le_line (by rw [sD_len, sD_len]; omega)) ?_
      rw [← sD_app]
      walk_at "S"
      refine ⟨_, _, rfl, ⟨cr, true, m ++ l, G, rfl, hml, by omega⟩, fun z hz => ?_⟩
      have hz := hz cr true (m ++ l) G rfl
      subst hz
      walk_at "S"
      refine ⟨_, _, rfl, ⟨_, rfl, sameOk_row (by rw [least_len hml]; omega)⟩, fun z hz => ?_⟩
      cases hz
      walk_at "S"
      refine ifF rfl ?_
      -- what both begin with
      walk_at "S"
      refine ⟨_, _, rfl, ⟨cr, l, m, G, rfl, hl, hm, by omega, by omega⟩, fun z hz => ?_⟩
      obtain ⟨f, n, r, B, rfl⟩ := hz cr l m G rfl
      have hf := least_sub B.k0
      have fz : (least cr f).length ≤ 7 := by rw [least_len B.k0]; have := B.l1; omega
      walk_at "S"
      refine ⟨_, _, rfl, ⟨cr, true, least cr f, G, rfl, hf, by omega⟩, fun z hz => ?_⟩
      have hz := hz cr true (least cr f) G rfl
      subst hz
      walk_at "S"
      refine ⟨_, _, rfl, ⟨_, _, rfl, by rw [sD_len]; omega, by show 2 ≤ _; decide⟩, fun z hz => ?_⟩
      have hz := hz _ _ rfl
      subst hz
      walk_at "w"
      refine lcP ((every cr).flatMap fun h => [(h, saw cr l), (h, saw cr m)]) (fun p => .tup [.str p.1, logsD cr p.2]) (fun _ => false) (fun p => .str p.1) (two_map (saw cr l) (saw cr m)) (le_line (by have := two_len (f := saw cr l) (g := saw cr m) G; omega)) (fun p hp => ?_) ?_
      · obtain ⟨p1, p2⟩ := two_mem hp
        walk_at "S"
        rw [cut_to, sD_len]
        have ok2 : okS (p.2 p.1) := by
          rcases p2 with e | e
          · rw [e]; exact saw_okS G hl _
          · rw [e]; exact saw_okS G hm _
        have e3 : (p.2 p.1).take (saw cr (least cr f) p.1).length = saw cr (least cr f) p.1 := by
          rw [least_saw B.k0]
          rcases p2 with e | e
          · rw [e]; exact pre_of (B.one _)
          · rw [e]; exact pre_of (B.two _)
        refine w2_neS rfl rfl (okS_sub (fun s hs => List.mem_of_mem_take hs) ok2) (saw_okS G hf _) ?_
        rw [decide_eq_true e3]
        walk_at "S"
        refine ⟨rfl, ?_, ?_⟩
        · intro z; cases z
        · intro _; rfl
      rw [List.filter_eq_nil_iff.mpr (by simp)]
      walk_at "S"
      refine w2_neS (l := []) (m := []) rfl rfl okS_nil okS_nil ?_
      walk_at "S"
      refine ifF rfl ?_
      -- a row that both begin
      walk_at "S"
      refine ⟨_, _, rfl, ⟨cr, l, m, G, rfl, hl, hm, by omega, by omega⟩, fun z hz => ?_⟩
      rcases hz cr l m G rfl with ⟨a1, a2, rfl⟩ | ⟨c, c1, c2, c3, rfl⟩
      · walk_at "S"
        refine w2_ixT rfl rfl (atI_nat (j := 0) rfl) ?_
        walk_at "S"
        refine ifF (by decide +kernel) ?_
        walk_at "S"
        exact ⟨_, _, _, _, _, _, _, _, _, _, _, _, _, _, _, _, rfl, by omega⟩
      · walk_at "S"
        refine w2_ixT rfl rfl (atI_nat (j := 0) rfl) ?_
        walk_at "S"
        refine ifT (by decide +kernel) ?_
        walk_at "S"
        refine w2_ixT rfl rfl (atI_nat (j := 1) rfl) ?_
        walk_at "S"
        refine ⟨_, _, rfl, ⟨cr, true, c, G, rfl, c1, by omega⟩, fun z hz => ?_⟩
        have hz := hz cr true c G rfl
        subst hz
        walk_at "S"
        refine ⟨_, _, rfl, ⟨_, _, rfl, by rw [sD_len]; omega, by show 2 ≤ _; decide⟩, fun z hz => ?_⟩
        have hz := hz _ _ rfl
        subst hz
        walk_at "w"
        refine lcP ((every cr).flatMap fun h => [(h, saw cr l), (h, saw cr m)]) (fun p => .tup [.str p.1, logsD cr p.2]) (fun _ => false) (fun p => .str p.1) (two_map (saw cr l) (saw cr m)) (le_line (by have := two_len (f := saw cr l) (g := saw cr m) G; omega)) (fun p hp => ?_) ?_
        · obtain ⟨p1, p2⟩ := two_mem hp
          walk_at "S"
          rw [cut_to, sD_len]
          have ok2 : okS (p.2 p.1) := by
            rcases p2 with e | e
            · rw [e]; exact saw_okS G hl _
            · rw [e]; exact saw_okS G hm _
          have e3 : (saw cr c p.1).take (p.2 p.1).length = p.2 p.1 := by
            rcases p2 with e | e
            · rw [e]; exact (c3 p.1).1
            · rw [e]; exact (c3 p.1).2
          refine w2_neS rfl rfl (okS_sub (fun s hs => List.mem_of_mem_take hs) (saw_okS G c1 _)) ok2 ?_
          rw [decide_eq_true e3]
          walk_at "S"
          refine ⟨rfl, ?_, ?_⟩
          · intro z; cases z
          · intro _; rfl
        rw [List.filter_eq_nil_iff.mpr (by simp)]
        walk_at "S"
        refine w2_neS (l := []) (m := []) rfl rfl okS_nil okS_nil ?_
        walk_at "S"
        refine ifF rfl ?_
        walk_at "S"
        exact ⟨_, _, _, _, _, _, _, _, _, _, _, _, _, _, _, _, rfl, by omega⟩
    · rintro ρ2 ⟨s, s2, s5, s6, s7, s8, s9, s10, s11, s12, s13, s14, s15, s16, s17, s18, rfl, hs⟩
      have e : (intsD 0 (Int.toNat 3)).length = 3 := by simp [intsD]
      rw [e] at hs
      exact ⟨_, _, _, _, _, _, _, _, _, _, _, _, _, _, _, _, _, _, rfl, by omega⟩
  · rintro ρ2 ⟨s, s2, s3, s4, s5, s6, s7, s8, s9, s10, s11, s12, s13, s14, s15, s16, s17, s18, rfl, hs⟩
    walk_at "S"
    exact ⟨_, _, rfl, rfl⟩
end
end K61

set_option Elab.async false
set_option linter.all false
set_option maxRecDepth 100000
namespace K61
open PySem PySem.Spec L2 DL
def topS (i : Nat) : Stmt := PySem.Challenge.pw_mingleddeeds_k61_whole_divided_by_logs.main.body.getD i (.Pass ⟨0, 0, 0, 0⟩)
def inS (i j : Nat) : Stmt := match topS i with | .ClassDef (body := b) .. => b.getD j (.Pass ⟨0, 0, 0, 0⟩) | s => s
abbrev s_is_word : Stmt := topS 11
theorem sc_is_word : FnScope ["thing", "sign"] ["thing"] (defScope s_is_word) := ⟨rfl, rfl, rfl, by decide +kernel, rfl, by decide +kernel, by decide +kernel⟩
abbrev s_is_name : Stmt := topS 12
theorem sc_is_name : FnScope ["thing"] ["thing"] (defScope s_is_name) := ⟨rfl, rfl, rfl, by decide +kernel, rfl, by decide +kernel, by decide +kernel⟩
abbrev s_are_hands : Stmt := topS 19
theorem sc_are_hands : FnScope ["thing", "part", "at"] ["thing"] (defScope s_are_hands) := ⟨rfl, rfl, rfl, by decide +kernel, rfl, by decide +kernel, by decide +kernel⟩
abbrev s_are_deeds : Stmt := topS 20
theorem sc_are_deeds : FnScope ["thing", "found", "deed", "hand"] ["thing"] (defScope s_are_deeds) := ⟨rfl, rfl, rfl, by decide +kernel, rfl, by decide +kernel, by decide +kernel⟩
abbrev s_Crew_init : Stmt := inS 17 0
theorem sc_Crew_init : FnScope ["self", "deeds", "found", "hands", "deed", "hand"] ["self", "deeds"] (defScope s_Crew_init) := ⟨rfl, rfl, rfl, by decide +kernel, rfl, by decide +kernel, by decide +kernel⟩
abbrev s_apart : Stmt := topS 18
theorem sc_apart : FnScope ["crew", "deed", "other", "hand"] ["crew", "deed", "other"] (defScope s_apart) := ⟨rfl, rfl, rfl, by decide +kernel, rfl, by decide +kernel, by decide +kernel⟩
abbrev s_need_crew : Stmt := topS 21
theorem sc_need_crew : FnScope ["crew"] ["crew"] (defScope s_need_crew) := ⟨rfl, rfl, rfl, by decide +kernel, rfl, by decide +kernel, by decide +kernel⟩
abbrev s_is_row : Stmt := topS 22
theorem sc_is_row : FnScope ["crew", "thing", "deed"] ["crew", "thing"] (defScope s_is_row) := ⟨rfl, rfl, rfl, by decide +kernel, rfl, by decide +kernel, by decide +kernel⟩
abbrev s_need_row : Stmt := topS 23
theorem sc_need_row : FnScope ["crew", "row"] ["crew", "row"] (defScope s_need_row) := ⟨rfl, rfl, rfl, by decide +kernel, rfl, by decide +kernel, by decide +kernel⟩
abbrev s_need_second : Stmt := topS 24
theorem sc_need_second : FnScope ["crew", "second"] ["crew", "second"] (defScope s_need_second) := ⟨rfl, rfl, rfl, by decide +kernel, rfl, by decide +kernel, by decide +kernel⟩
abbrev s_seen_by : Stmt := topS 26
theorem sc_seen_by : FnScope ["crew", "row", "hand", "deed"] ["crew", "row", "hand"] (defScope s_seen_by) := ⟨rfl, rfl, rfl, by decide +kernel, rfl, by decide +kernel, by decide +kernel⟩
abbrev s_least_of : Stmt := topS 27
theorem sc_least_of : FnScope ["crew", "row", "logs", "spots", "found", "deed", "hands", "hand"] ["crew", "row"] (defScope s_least_of) := ⟨rfl, rfl, rfl, by decide +kernel, rfl, by decide +kernel, by decide +kernel⟩
abbrev s_taken : Stmt := topS 29
theorem sc_taken : FnScope ["crew", "row", "deed", "at", "other"] ["crew", "row", "deed"] (defScope s_taken) := ⟨rfl, rfl, rfl, by decide +kernel, rfl, by decide +kernel, by decide +kernel⟩
abbrev s_rest_by : Stmt := topS 30
theorem sc_rest_by : FnScope ["crew", "row", "second", "deed"] ["crew", "row", "second"] (defScope s_rest_by) := ⟨rfl, rfl, rfl, by decide +kernel, rfl, by decide +kernel, by decide +kernel⟩
abbrev s_begun : Stmt := topS 31
theorem sc_begun : FnScope ["crew", "row", "second", "found", "more", "deed", "near", "far"] ["crew", "row", "second"] (defScope s_begun) := ⟨rfl, rfl, rfl, by decide +kernel, rfl, by decide +kernel, by decide +kernel⟩
abbrev s_told : Stmt := topS 32
theorem sc_told : FnScope ["crew", "row"] ["crew", "row"] (defScope s_told) := ⟨rfl, rfl, rfl, by decide +kernel, rfl, by decide +kernel, by decide +kernel⟩
abbrev s_rest_of : Stmt := topS 33
theorem sc_rest_of : FnScope ["crew", "row", "second", "one", "two"] ["crew", "row", "second"] (defScope s_rest_of) := ⟨rfl, rfl, rfl, by decide +kernel, rfl, by decide +kernel, by decide +kernel⟩
abbrev s_common_begin : Stmt := topS 34
theorem sc_common_begin : FnScope ["crew", "row", "second", "one", "two"] ["crew", "row", "second"] (defScope s_common_begin) := ⟨rfl, rfl, rfl, by decide +kernel, rfl, by decide +kernel, by decide +kernel⟩
abbrev s_continued : Stmt := topS 35
theorem sc_continued : FnScope ["crew", "row", "second", "one", "two", "found", "near", "far", "deed", "other"] ["crew", "row", "second"] (defScope s_continued) := ⟨rfl, rfl, rfl, by decide +kernel, rfl, by decide +kernel, by decide +kernel⟩
abbrev s_logs_of : Stmt := topS 37
theorem sc_logs_of : FnScope ["crew", "row", "plain", "hand"] ["crew", "row"] (defScope s_logs_of) := ⟨rfl, rfl, rfl, by decide +kernel, rfl, by decide +kernel, by decide +kernel⟩
abbrev s_is_log : Stmt := topS 38
theorem sc_is_log : FnScope ["crew", "hand", "thing", "deed"] ["crew", "hand", "thing"] (defScope s_is_log) := ⟨rfl, rfl, rfl, by decide +kernel, rfl, by decide +kernel, by decide +kernel⟩
abbrev s_are_logs : Stmt := topS 39
theorem sc_are_logs : FnScope ["crew", "logs", "hand"] ["crew", "logs"] (defScope s_are_logs) := ⟨rfl, rfl, rfl, by decide +kernel, rfl, by decide +kernel, by decide +kernel⟩
abbrev s_need_logs : Stmt := topS 40
theorem sc_need_logs : FnScope ["crew", "logs", "hand"] ["crew", "logs"] (defScope s_need_logs) := ⟨rfl, rfl, rfl, by decide +kernel, rfl, by decide +kernel, by decide +kernel⟩
abbrev s_is_ready : Stmt := topS 41
theorem sc_is_ready : FnScope ["crew", "logs", "deed", "hand"] ["crew", "logs", "deed"] (defScope s_is_ready) := ⟨rfl, rfl, rfl, by decide +kernel, rfl, by decide +kernel, by decide +kernel⟩
abbrev s_done_by : Stmt := topS 42
theorem sc_done_by : FnScope ["crew", "told", "logs", "found", "grown", "deed", "hand"] ["crew", "told"] (defScope s_done_by) := ⟨rfl, rfl, rfl, by decide +kernel, rfl, by decide +kernel, by decide +kernel⟩
abbrev s_joined : Stmt := topS 44
theorem sc_joined : FnScope ["crew", "logs", "found", "left"] ["crew", "logs"] (defScope s_joined) := ⟨rfl, rfl, rfl, by decide +kernel, rfl, by decide +kernel, by decide +kernel⟩
abbrev s_law_start : Stmt := topS 58
theorem sc_law_start : FnScope ["script"] ["script"] (defScope s_law_start) := ⟨rfl, rfl, rfl, by decide +kernel, rfl, by decide +kernel, by decide +kernel⟩
abbrev s_law_below : Stmt := topS 59
theorem sc_law_below : FnScope ["stream", "many", "cell", "digit", "mixed"] ["stream", "many"] (defScope s_law_below) := ⟨rfl, rfl, rfl, by decide +kernel, rfl, by decide +kernel, by decide +kernel⟩
abbrev s_law_pick : Stmt := topS 60
theorem sc_law_pick : FnScope ["stream", "some"] ["stream", "some"] (defScope s_law_pick) := ⟨rfl, rfl, rfl, by decide +kernel, rfl, by decide +kernel, by decide +kernel⟩
abbrev s_law_mixed : Stmt := topS 61
theorem sc_law_mixed : FnScope ["stream", "some", "left", "k"] ["stream", "some"] (defScope s_law_mixed) := ⟨rfl, rfl, rfl, by decide +kernel, rfl, by decide +kernel, by decide +kernel⟩
abbrev s_law_mcrew : Stmt := topS 46
theorem sc_law_mcrew : FnScope ["stream", "most", "deeds", "hands", "crew", "deed"] ["stream", "most"] (defScope s_law_mcrew) := ⟨rfl, rfl, rfl, by decide +kernel, rfl, by decide +kernel, by decide +kernel⟩
abbrev s_law_mmade_crew : Stmt := topS 47
theorem sc_law_mmade_crew : FnScope ["crew", "deed"] ["crew"] (defScope s_law_mmade_crew) := ⟨rfl, rfl, rfl, by decide +kernel, rfl, by decide +kernel, by decide +kernel⟩
abbrev s_law_mis_apart : Stmt := topS 48
theorem sc_law_mis_apart : FnScope ["crew", "one", "two", "hand"] ["crew", "one", "two"] (defScope s_law_mis_apart) := ⟨rfl, rfl, rfl, by decide +kernel, rfl, by decide +kernel, by decide +kernel⟩
abbrev s_law_mrow : Stmt := topS 49
theorem sc_law_mrow : FnScope ["stream", "crew", "most", "k"] ["stream", "crew", "most"] (defScope s_law_mrow) := ⟨rfl, rfl, rfl, by decide +kernel, rfl, by decide +kernel, by decide +kernel⟩
abbrev s_law_mfronts : Stmt := topS 50
theorem sc_law_mfronts : FnScope ["crew", "row", "found", "at", "deed", "other"] ["crew", "row"] (defScope s_law_mfronts) := ⟨rfl, rfl, rfl, by decide +kernel, rfl, by decide +kernel, by decide +kernel⟩
abbrev s_law_mleast : Stmt := topS 51
theorem sc_law_mleast : FnScope ["crew", "row", "left", "found", "turn", "at"] ["crew", "row"] (defScope s_law_mleast) := ⟨rfl, rfl, rfl, by decide +kernel, rfl, by decide +kernel, by decide +kernel⟩
abbrev s_law_mshuffled : Stmt := topS 52
theorem sc_law_mshuffled : FnScope ["stream", "crew", "row", "left", "found", "turn", "at"] ["stream", "crew", "row"] (defScope s_law_mshuffled) := ⟨rfl, rfl, rfl, by decide +kernel, rfl, by decide +kernel, by decide +kernel⟩
abbrev s_law_mtaken : Stmt := topS 53
theorem sc_law_mtaken : FnScope ["crew", "row", "deed", "places", "at"] ["crew", "row", "deed"] (defScope s_law_mtaken) := ⟨rfl, rfl, rfl, by decide +kernel, rfl, by decide +kernel, by decide +kernel⟩
abbrev s_law_mrest : Stmt := topS 54
theorem sc_law_mrest : FnScope ["crew", "row", "second", "left", "deed"] ["crew", "row", "second"] (defScope s_law_mrest) := ⟨rfl, rfl, rfl, by decide +kernel, rfl, by decide +kernel, by decide +kernel⟩
abbrev s_law_mbeginnings : Stmt := topS 55
theorem sc_law_mbeginnings : FnScope ["crew", "row", "found", "known", "turn", "ahead", "left", "at", "one"] ["crew", "row"] (defScope s_law_mbeginnings) := ⟨rfl, rfl, rfl, by decide +kernel, rfl, by decide +kernel, by decide +kernel⟩
abbrev s_law_mtwo : Stmt := topS 56
theorem sc_law_mtwo : FnScope ["ones", "others", "found", "one", "other"] ["ones", "others"] (defScope s_law_mtwo) := ⟨rfl, rfl, rfl, by decide +kernel, rfl, by decide +kernel, by decide +kernel⟩
abbrev s_law_mhands : Stmt := topS 57
theorem sc_law_mhands : FnScope ["crew", "found", "deed", "hand"] ["crew"] (defScope s_law_mhands) := ⟨rfl, rfl, rfl, by decide +kernel, rfl, by decide +kernel, by decide +kernel⟩
abbrev s_law_same : Stmt := topS 62
theorem sc_law_same : FnScope ["found", "due", "x", "y"] ["found", "due"] (defScope s_law_same) := ⟨rfl, rfl, rfl, by decide +kernel, rfl, by decide +kernel, by decide +kernel⟩
abbrev s_law : Stmt := topS 63
theorem sc_law : FnScope ["script", "stream", "turn", "crew", "team", "look", "row", "second", "lots", "hands", "dues", "begins", "rest", "left", "whole", "common", "some", "told_v", "longer", "one", "hand", "deed", "lot"] ["script"] (defScope s_law) := ⟨rfl, rfl, rfl, by decide +kernel, rfl, by decide +kernel, by decide +kernel⟩
structure Tx (K : PySem.W.Frag) (mg : Str → Option Value) (A : Ad) : Prop where
  F_is_word : Fun K "is_word" "is_word" s_is_word A.a_is_word A.fd_is_word
  b_is_word : Binds K A.fd_is_word ["thing"] []
  g_is_word : mg "is_word" = some (.ref A.a_is_word)
  F_is_name : Fun K "is_name" "is_name" s_is_name A.a_is_name A.fd_is_name
  b_is_name : Binds K A.fd_is_name ["thing"] []
  g_is_name : mg "is_name" = some (.ref A.a_is_name)
  F_are_hands : Fun K "are_hands" "are_hands" s_are_hands A.a_are_hands A.fd_are_hands
  b_are_hands : Binds K A.fd_are_hands ["thing"] []
  g_are_hands : mg "are_hands" = some (.ref A.a_are_hands)
  F_are_deeds : Fun K "are_deeds" "are_deeds" s_are_deeds A.a_are_deeds A.fd_are_deeds
  b_are_deeds : Binds K A.fd_are_deeds ["thing"] []
  g_are_deeds : mg "are_deeds" = some (.ref A.a_are_deeds)
  F_Crew_init : Fun K "__init__" "Crew.__init__" s_Crew_init A.a_Crew_init A.fd_Crew_init
  b_Crew_init : Binds K A.fd_Crew_init ["self", "deeds"] []
  F_apart : Fun K "apart" "apart" s_apart A.a_apart A.fd_apart
  b_apart : Binds K A.fd_apart ["crew", "deed", "other"] []
  g_apart : mg "apart" = some (.ref A.a_apart)
  F_need_crew : Fun K "need_crew" "need_crew" s_need_crew A.a_need_crew A.fd_need_crew
  b_need_crew : Binds K A.fd_need_crew ["crew"] []
  g_need_crew : mg "need_crew" = some (.ref A.a_need_crew)
  F_is_row : Fun K "is_row" "is_row" s_is_row A.a_is_row A.fd_is_row
  b_is_row : Binds K A.fd_is_row ["crew", "thing"] []
  g_is_row : mg "is_row" = some (.ref A.a_is_row)
  F_need_row : Fun K "need_row" "need_row" s_need_row A.a_need_row A.fd_need_row
  b_need_row : Binds K A.fd_need_row ["crew", "row"] []
  g_need_row : mg "need_row" = some (.ref A.a_need_row)
  F_need_second : Fun K "need_second" "need_second" s_need_second A.a_need_second A.fd_need_second
  b_need_second : Binds K A.fd_need_second ["crew", "second"] []
  g_need_second : mg "need_second" = some (.ref A.a_need_second)
  F_seen_by : Fun K "seen_by" "seen_by" s_seen_by A.a_seen_by A.fd_seen_by
  b_seen_by : Binds K A.fd_seen_by ["crew", "row", "hand"] []
  g_seen_by : mg "seen_by" = some (.ref A.a_seen_by)
  F_least_of : Fun K "least_of" "least_of" s_least_of A.a_least_of A.fd_least_of
  b_least_of : Binds K A.fd_least_of ["crew", "row"] []
  g_least_of : mg "least_of" = some (.ref A.a_least_of)
  F_taken : Fun K "taken" "taken" s_taken A.a_taken A.fd_taken
  b_taken : Binds K A.fd_taken ["crew", "row", "deed"] []
  g_taken : mg "taken" = some (.ref A.a_taken)
  F_rest_by : Fun K "rest_by" "rest_by" s_rest_by A.a_rest_by A.fd_rest_by
  b_rest_by : Binds K A.fd_rest_by ["crew", "row", "second"] []
  g_rest_by : mg "rest_by" = some (.ref A.a_rest_by)
  F_begun : Fun K "begun" "begun" s_begun A.a_begun A.fd_begun
  b_begun : Binds K A.fd_begun ["crew", "row", "second"] []
  g_begun : mg "begun" = some (.ref A.a_begun)
  F_told : Fun K "told" "told" s_told A.a_told A.fd_told
  b_told : Binds K A.fd_told ["crew", "row"] []
  g_told : mg "told" = some (.ref A.a_told)
  F_rest_of : Fun K "rest_of" "rest_of" s_rest_of A.a_rest_of A.fd_rest_of
  b_rest_of : Binds K A.fd_rest_of ["crew", "row", "second"] []
  g_rest_of : mg "rest_of" = some (.ref A.a_rest_of)
  F_common_begin : Fun K "common_begin" "common_begin" s_common_begin A.a_common_begin A.fd_common_begin
  b_common_begin : Binds K A.fd_common_begin ["crew", "row", "second"] []
  g_common_begin : mg "common_begin" = some (.ref A.a_common_begin)
  F_continued : Fun K "continued" "continued" s_continued A.a_continued A.fd_continued
  b_continued : Binds K A.fd_continued ["crew", "row", "second"] []
  g_continued : mg "continued" = some (.ref A.a_continued)
  F_logs_of : Fun K "logs_of" "logs_of" s_logs_of A.a_logs_of A.fd_logs_of
  b_logs_of : Binds K A.fd_logs_of ["crew", "row"] []
  g_logs_of : mg "logs_of" = some (.ref A.a_logs_of)
  F_is_log : Fun K "is_log" "is_log" s_is_log A.a_is_log A.fd_is_log
  b_is_log : Binds K A.fd_is_log ["crew", "hand", "thing"] []
  g_is_log : mg "is_log" = some (.ref A.a_is_log)
  F_are_logs : Fun K "are_logs" "are_logs" s_are_logs A.a_are_logs A.fd_are_logs
  b_are_logs : Binds K A.fd_are_logs ["crew", "logs"] []
  g_are_logs : mg "are_logs" = some (.ref A.a_are_logs)
  F_need_logs : Fun K "need_logs" "need_logs" s_need_logs A.a_need_logs A.fd_need_logs
  b_need_logs : Binds K A.fd_need_logs ["crew", "logs"] []
  g_need_logs : mg "need_logs" = some (.ref A.a_need_logs)
  F_is_ready : Fun K "is_ready" "is_ready" s_is_ready A.a_is_ready A.fd_is_ready
  b_is_ready : Binds K A.fd_is_ready ["crew", "logs", "deed"] []
  g_is_ready : mg "is_ready" = some (.ref A.a_is_ready)
  F_done_by : Fun K "done_by" "done_by" s_done_by A.a_done_by A.fd_done_by
  b_done_by : Binds K A.fd_done_by ["crew", "told"] []
  g_done_by : mg "done_by" = some (.ref A.a_done_by)
  F_joined : Fun K "joined" "joined" s_joined A.a_joined A.fd_joined
  b_joined : Binds K A.fd_joined ["crew", "logs"] []
  g_joined : mg "joined" = some (.ref A.a_joined)
  F_law_start : Fun K "_law_start" "_law_start" s_law_start A.a_law_start A.fd_law_start
  b_law_start : Binds K A.fd_law_start ["script"] []
  g_law_start : mg "_law_start" = some (.ref A.a_law_start)
  F_law_below : Fun K "_law_below" "_law_below" s_law_below A.a_law_below A.fd_law_below
  b_law_below : Binds K A.fd_law_below ["stream", "many"] []
  g_law_below : mg "_law_below" = some (.ref A.a_law_below)
  F_law_pick : Fun K "_law_pick" "_law_pick" s_law_pick A.a_law_pick A.fd_law_pick
  b_law_pick : Binds K A.fd_law_pick ["stream", "some"] []
  g_law_pick : mg "_law_pick" = some (.ref A.a_law_pick)
  F_law_mixed : Fun K "_law_mixed" "_law_mixed" s_law_mixed A.a_law_mixed A.fd_law_mixed
  b_law_mixed : Binds K A.fd_law_mixed ["stream", "some"] []
  g_law_mixed : mg "_law_mixed" = some (.ref A.a_law_mixed)
  F_law_mcrew : Fun K "_law_mcrew" "_law_mcrew" s_law_mcrew A.a_law_mcrew A.fd_law_mcrew
  b_law_mcrew : Binds K A.fd_law_mcrew ["stream", "most"] []
  g_law_mcrew : mg "_law_mcrew" = some (.ref A.a_law_mcrew)
  F_law_mmade_crew : Fun K "_law_mmade_crew" "_law_mmade_crew" s_law_mmade_crew A.a_law_mmade_crew A.fd_law_mmade_crew
  b_law_mmade_crew : Binds K A.fd_law_mmade_crew ["crew"] []
  g_law_mmade_crew : mg "_law_mmade_crew" = some (.ref A.a_law_mmade_crew)
  F_law_mis_apart : Fun K "_law_mis_apart" "_law_mis_apart" s_law_mis_apart A.a_law_mis_apart A.fd_law_mis_apart
  b_law_mis_apart : Binds K A.fd_law_mis_apart ["crew", "one", "two"] []
  g_law_mis_apart : mg "_law_mis_apart" = some (.ref A.a_law_mis_apart)
  F_law_mrow : Fun K "_law_mrow" "_law_mrow" s_law_mrow A.a_law_mrow A.fd_law_mrow
  b_law_mrow : Binds K A.fd_law_mrow ["stream", "crew", "most"] []
  g_law_mrow : mg "_law_mrow" = some (.ref A.a_law_mrow)
  F_law_mfronts : Fun K "_law_mfronts" "_law_mfronts" s_law_mfronts A.a_law_mfronts A.fd_law_mfronts
  b_law_mfronts : Binds K A.fd_law_mfronts ["crew", "row"] []
  g_law_mfronts : mg "_law_mfronts" = some (.ref A.a_law_mfronts)
  F_law_mleast : Fun K "_law_mleast" "_law_mleast" s_law_mleast A.a_law_mleast A.fd_law_mleast
  b_law_mleast : Binds K A.fd_law_mleast ["crew", "row"] []
  g_law_mleast : mg "_law_mleast" = some (.ref A.a_law_mleast)
  F_law_mshuffled : Fun K "_law_mshuffled" "_law_mshuffled" s_law_mshuffled A.a_law_mshuffled A.fd_law_mshuffled
  b_law_mshuffled : Binds K A.fd_law_mshuffled ["stream", "crew", "row"] []
  g_law_mshuffled : mg "_law_mshuffled" = some (.ref A.a_law_mshuffled)
  F_law_mtaken : Fun K "_law_mtaken" "_law_mtaken" s_law_mtaken A.a_law_mtaken A.fd_law_mtaken
  b_law_mtaken : Binds K A.fd_law_mtaken ["crew", "row", "deed"] []
  g_law_mtaken : mg "_law_mtaken" = some (.ref A.a_law_mtaken)
  F_law_mrest : Fun K "_law_mrest" "_law_mrest" s_law_mrest A.a_law_mrest A.fd_law_mrest
  b_law_mrest : Binds K A.fd_law_mrest ["crew", "row", "second"] []
  g_law_mrest : mg "_law_mrest" = some (.ref A.a_law_mrest)
  F_law_mbeginnings : Fun K "_law_mbeginnings" "_law_mbeginnings" s_law_mbeginnings A.a_law_mbeginnings A.fd_law_mbeginnings
  b_law_mbeginnings : Binds K A.fd_law_mbeginnings ["crew", "row"] []
  g_law_mbeginnings : mg "_law_mbeginnings" = some (.ref A.a_law_mbeginnings)
  F_law_mtwo : Fun K "_law_mtwo" "_law_mtwo" s_law_mtwo A.a_law_mtwo A.fd_law_mtwo
  b_law_mtwo : Binds K A.fd_law_mtwo ["ones", "others"] []
  g_law_mtwo : mg "_law_mtwo" = some (.ref A.a_law_mtwo)
  F_law_mhands : Fun K "_law_mhands" "_law_mhands" s_law_mhands A.a_law_mhands A.fd_law_mhands
  b_law_mhands : Binds K A.fd_law_mhands ["crew"] []
  g_law_mhands : mg "_law_mhands" = some (.ref A.a_law_mhands)
  F_law_same : Fun K "_law_same" "_law_same" s_law_same A.a_law_same A.fd_law_same
  b_law_same : Binds K A.fd_law_same ["found", "due"] []
  g_law_same : mg "_law_same" = some (.ref A.a_law_same)
  F_law : Fun K "law" "law" s_law A.a_law A.fd_law
  b_law : Binds K A.fd_law ["script"] []
  g_law : mg "law" = some (.ref A.a_law)
  m_all : mg "all" = none
  m_any : mg "any" = none
  m_bool : mg "bool" = none
  m_dict : mg "dict" = none
  m_enumerate : mg "enumerate" = none
  m_int : mg "int" = none
  m_isinstance : mg "isinstance" = none
  m_len : mg "len" = none
  m_list : mg "list" = none
  m_range : mg "range" = none
  m_sorted : mg "sorted" = none
  m_str : mg "str" = none
  m_tuple : mg "tuple" = none
  m_zip : mg "zip" = none
  g_Crew : mg "Crew" = some (.ref A.CCrew)
  g_FIGURES : ∃ t, mg "FIGURES" = some (.str "0123456789" t)
  g_LETTERS : ∃ t, mg "LETTERS" = some (.str "abcdefghijklmnopqrstuvwxyz" t)
  g_MOST_DEEDS : ∃ t, mg "MOST_DEEDS" = some (.int 8 t)
  g_MOST_HANDS : ∃ t, mg "MOST_HANDS" = some (.int 5 t)
  g_MOST_LONG : ∃ t, mg "MOST_LONG" = some (.int 200 t)
  mk_Crew : Mk K A.CCrew A.a_Crew_init
section
variable {P : Program} {w : World} {K : PySem.W.Frag} {mg : Str → Option Value} {base : Heap} {A : Ad}
theorem p_is_word (T : Tx K mg A) (cdv : Value) (A0 : Around) (outer : List Env) (s : Shared) (H : Hp) (E : XK) (hr : Room 0 (A0.deeper (PyProof.Rows.envOfC "is_word" (defScope s_is_word) s.heap.objs.size A.a_is_word cdv))) :
    PSs (cxOf CX0 P w K mg base ["thing", "sign"] "is_word" (defScope s_is_word) A.a_is_word cdv A0 outer s H E).nox (defBody s_is_word) (t_is_word K A) := by
  have hu := hu_of hr
  have hu64 := hr.units
  have sc := sc_is_word
  exact pss_cons (ps_if (PW.pt (pw_or (pt_not (pt_val (pe_callB call_isiA (by rfl) T.m_isinstance PyProof.Rows.boot_isinstance (pa_cons (pv 0) (pa_cons (pe_bltn rfl T.m_str PyProof.Rows.boot_str rfl) (pa_nil)))))) (pw_or (pt_cmpR (op_eqA hu64) (pv 0) (pe_str) (by first | exact nomark _ | rfl)) (pw_or1 (pt_cmpR (op_notInA hu) (pe_ix (ix_any hu) (pv 0) (pe_int) (fun _ _ => rfl)) (pe_glob rfl T.g_LETTERS.choose_spec ⟨_, rfl⟩) (by first | exact nomark _ | rfl)))))) (pss_one (ps_ret (pe_bl))) (pss_nil))
      (pss_one (ps_ret (pe_cmpR (op_eqA hu64) (pe_lc (own := [("sign", 1)]) rfl sc.nd (pi_str (pv 0)) (blkOk_by (by rfl)) (fun _ _ _ _ _ => pg_name (i := 1) sc.nd rfl (Or.inl rfl)) (fun _ _ _ _ _ => pts_one (pt_cmpR (op_notInA hu) (pv 1) (pe_op op_addA (pe_glob rfl T.g_LETTERS.choose_spec ⟨_, rfl⟩) (pe_glob rfl T.g_FIGURES.choose_spec ⟨_, rfl⟩)) (by first | exact nomark _ | rfl))) (fun _ _ _ _ _ => pv 1)) (pe_lst (pa_nil)) (by first | exact nomark _ | rfl))))
theorem p_is_name (T : Tx K mg A) {sp_is_word : Sp} (G_is_word : FnOk P w K mg base CX0 1 A.a_is_word A.fd_is_word ["thing"] sp_is_word) (cdv : Value) (A0 : Around) (outer : List Env) (s : Shared) (H : Hp) (E : XK) (hr : Room 1 (A0.deeper (PyProof.Rows.envOfC "is_name" (defScope s_is_name) s.heap.objs.size A.a_is_name cdv))) :
    PSs (cxOf CX0 P w K mg base ["thing"] "is_name" (defScope s_is_name) A.a_is_name cdv A0 outer s H E).nox (defBody s_is_name) (t_is_name K A sp_is_word) := by
  have hu := hu_of hr
  have hu64 := hr.units
  have sc := sc_is_name
  exact pss_one (ps_ret (pe_and (pe_call G_is_word (hr.mono (by first | exact Nat.le_refl _ | decide)) (by rfl) T.g_is_word T.F_is_word.kp T.b_is_word .nil pass0 (pa_cons (pv 0) (pa_nil))) (pe_one (pe_cmpR (op_le) (pe_callB call_lenA (by rfl) T.m_len PySem.boot_len (pa_cons (pv 0) (pa_nil))) (pe_int) (by first | exact nomark _ | rfl)))))
theorem p_are_hands (T : Tx K mg A) {sp_is_name : Sp} (G_is_name : FnOk P w K mg base CX0 2 A.a_is_name A.fd_is_name ["thing"] sp_is_name) (cdv : Value) (A0 : Around) (outer : List Env) (s : Shared) (H : Hp) (E : XK) (hr : Room 2 (A0.deeper (PyProof.Rows.envOfC "are_hands" (defScope s_are_hands) s.heap.objs.size A.a_are_hands cdv))) :
    PSs (cxOf CX0 P w K mg base ["thing", "part", "at"] "are_hands" (defScope s_are_hands) A.a_are_hands cdv A0 outer s H E).nox (defBody s_are_hands) (t_are_hands K A sp_is_name) := by
  have hu := hu_of hr
  have hu64 := hr.units
  have sc := sc_are_hands
  exact pss_cons (ps_if (PW.pt (pw_or (pt_not (pt_val (pe_callB call_isiA (by rfl) T.m_isinstance PyProof.Rows.boot_isinstance (pa_cons (pv 0) (pa_cons (pe_tup (pa_cons (pe_bltn rfl T.m_list PyProof.Rows.boot_list rfl) (pa_cons (pe_bltn rfl T.m_tuple PyProof.Rows.boot_tuple rfl) (pa_nil)))) (pa_nil)))))) (pw_or (pt_cmpR (op_eqA hu64) (pe_callB call_lenA (by rfl) T.m_len PySem.boot_len (pa_cons (pv 0) (pa_nil))) (pe_int) (by first | exact nomark _ | rfl)) (pw_or1 (pt_not (pt_val (pe_callB (cr_all rfl) (by rfl) T.m_all (by decide +kernel) (pa_cons (pe_lc (own := [("part", 1)]) rfl sc.nd (pi_seq (pv 0)) (blkOk_by (by rfl)) (fun _ _ _ _ _ => pg_name (i := 1) sc.nd rfl (Or.inl rfl)) (fun _ _ _ _ _ => pts_nil) (fun _ _ _ _ _ => pe_call G_is_name (hr.mono (by first | exact Nat.le_refl _ | decide)) (by rfl) T.g_is_name T.F_is_name.kp T.b_is_name .nil pass0 (pa_cons (pv 1) (pa_nil)))) (pa_nil))))))))) (pss_one (ps_ret (pe_bl))) (pss_nil))
      (pss_one (ps_ret (pe_callB (cr_all rfl) (by rfl) T.m_all (by decide +kernel) (pa_cons (pe_lc (own := [("at", 2), ("part", 1)]) rfl sc.nd (pi_enumA (by rfl) T.m_enumerate (pa_cons (pv 0) (pa_nil))) (blkOk_by (by rfl)) (fun _ _ _ _ _ => pg_tup rfl (pgs_cons (pg_name (i := 2) sc.nd rfl (Or.inl rfl)) (pgs_cons (pg_name (i := 1) sc.nd rfl (Or.inl rfl)) (pgs_nil)))) (fun _ _ _ _ _ => pts_nil) (fun _ _ _ _ _ => pe_cmpR (op_notInA hu) (pv 1) (pe_slice sl_any (pv 0) (po_none) (po_some (pv 2))) (by first | exact nomark _ | rfl))) (pa_nil)))))
theorem p_are_deeds (T : Tx K mg A) {sp_is_name : Sp} (G_is_name : FnOk P w K mg base CX0 2 A.a_is_name A.fd_is_name ["thing"] sp_is_name) {sp_are_hands : Sp} (G_are_hands : FnOk P w K mg base CX0 3 A.a_are_hands A.fd_are_hands ["thing"] sp_are_hands) (cdv : Value) (A0 : Around) (outer : List Env) (s : Shared) (H : Hp) (E : XK) (hr : Room 3 (A0.deeper (PyProof.Rows.envOfC "are_deeds" (defScope s_are_deeds) s.heap.objs.size A.a_are_deeds cdv))) :
    PSs (cxOf CX0 P w K mg base ["thing", "found", "deed", "hand"] "are_deeds" (defScope s_are_deeds) A.a_are_deeds cdv A0 outer s H E).nox (defBody s_are_deeds) (t_are_deeds K A sp_is_name sp_are_hands) := by
  have hu := hu_of hr
  have hu64 := hr.units
  have sc := sc_are_deeds
  exact pss_cons (ps_if (PW.pt (pw_or (pt_not (pt_val (pe_callB call_isiA (by rfl) T.m_isinstance PyProof.Rows.boot_isinstance (pa_cons (pv 0) (pa_cons (pe_bltn rfl T.m_dict PyProof.Rows.boot_dict rfl) (pa_nil)))))) (pw_or1 (pt_not (pt_chain (op_le) (op_le) (pe_int) (pe_callB call_lenA (by rfl) T.m_len PySem.boot_len (pa_cons (pv 0) (pa_nil))) (pe_glob rfl T.g_MOST_DEEDS.choose_spec ⟨_, rfl⟩)))))) (pss_one (ps_ret (pe_bl))) (pss_nil))
      (pss_cons (ps_if (pt_not (pt_val (pe_callB (cr_all rfl) (by rfl) T.m_all (by decide +kernel) (pa_cons (pe_lk (pe_lc (own := [("deed", 2)]) rfl sc.nd (pi_keys (pv 0)) (blkOk_by (by rfl)) (fun _ _ _ _ _ => pg_name (i := 2) sc.nd rfl (Or.inl rfl)) (fun _ _ _ _ _ => pts_nil) (fun _ _ _ _ _ => pe_and (pe_call G_is_name (hr.mono (by first | exact Nat.le_refl _ | decide)) (by rfl) T.g_is_name T.F_is_name.kp T.b_is_name .nil pass0 (pa_cons (pv 2) (pa_nil))) (pe_one (pe_call G_are_hands (hr.mono (by first | exact Nat.le_refl _ | decide)) (by rfl) T.g_are_hands T.F_are_hands.kp T.b_are_hands .nil pass0 (pa_cons (pe_ix (ix_any hu) (pv 0) (pv 2) (fun _ _ => rfl)) (pa_nil))))))) (pa_nil))))) (pss_one (ps_ret (pe_bl))) (pss_nil))
      (pss_cons (ps_set (i := 1) sc.nd rfl (Or.inl rfl) (pe_dnewK))
      (pss_cons (ps_lk (ps_for PassesOwn.never rfl (pi_keys (pv 0)) (pg_name (i := 2) sc.nd rfl (Or.inl rfl)) (pss_one (ps_expr (pe_bm PySem.F.plainAttrs_dict PySem.F.slot_dict_update PySem.F.type_dict_update mt_update (pv 1) (pa_cons (pe_dc (own := [("hand", 3)]) rfl sc.nd (pi_seq (pe_ix (ix_any hu) (pv 0) (pv 2) (fun _ _ => rfl))) (blkOk_by (by rfl)) (fun _ _ _ _ _ => pg_name (i := 3) sc.nd rfl (Or.inl rfl)) (fun _ _ _ _ _ => pts_nil) (fun _ _ _ _ _ => pv 3) (fun _ _ _ _ _ => pe_bl)) (pa_nil)))))))
      (pss_one (ps_ret (pe_cmpR (op_le) (pe_callB call_lenA (by rfl) T.m_len PySem.boot_len (pa_cons (pv 1) (pa_nil))) (pe_glob rfl T.g_MOST_HANDS.choose_spec ⟨_, rfl⟩) (by first | exact nomark _ | rfl)))))))
theorem p_Crew_init (T : Tx K mg A) {sp_are_deeds : Sp} (G_are_deeds : FnOk P w K mg base CX0 4 A.a_are_deeds A.fd_are_deeds ["thing"] sp_are_deeds) (cdv : Value) (A0 : Around) (outer : List Env) (s : Shared) (H : Hp) (E : XK) (hr : Room 4 (A0.deeper (PyProof.Rows.envOfC "Crew.__init__" (defScope s_Crew_init) s.heap.objs.size A.a_Crew_init cdv))) :
    PSs (cxOf CX0 P w K mg base ["self", "deeds", "found", "hands", "deed", "hand"] "Crew.__init__" (defScope s_Crew_init) A.a_Crew_init cdv A0 outer s H E).nox (defBody s_Crew_init) (t_Crew_init K A sp_are_deeds) := by
  have hu := hu_of hr
  have hu64 := hr.units
  have sc := sc_Crew_init
  exact pss_cons (ps_if (pt_not (pt_val (pe_call G_are_deeds (hr.mono (by first | exact Nat.le_refl _ | decide)) (by rfl) T.g_are_deeds T.F_are_deeds.kp T.b_are_deeds .nil pass0 (pa_cons (pv 1) (pa_nil))))) (pss_one (ps_never)) (pss_nil))
      (pss_cons (ps_fld (pv 0) (pe_dc (own := [("deed", 4)]) rfl sc.nd (pi_seq (pe_callB (cr_sortedA rfl) (by rfl) T.m_sorted PyProof.Rows.boot_sorted (pa_cons (pv 1) (pa_nil)))) (blkOk_by (by rfl)) (fun _ _ _ _ _ => pg_name (i := 4) sc.nd rfl (Or.inl rfl)) (fun _ _ _ _ _ => pts_nil) (fun _ _ _ _ _ => pv 4) (fun _ _ _ _ _ => pe_callTy call_tupA (by rfl) T.m_tuple PyProof.Rows.boot_tuple (pa_cons (pe_callB (cr_sortedA rfl) (by rfl) T.m_sorted PyProof.Rows.boot_sorted (pa_cons (pe_ix (ix_any hu) (pv 1) (pv 4) (fun _ _ => rfl)) (pa_nil))) (pa_nil)))) rfl)
      (pss_cons (ps_set (i := 2) sc.nd rfl (Or.inl rfl) (pe_dnewK))
      (pss_cons (ps_lk (ps_for PassesOwn.never rfl (pi_values (pe_fld (pv 0) rfl)) (pg_name (i := 3) sc.nd rfl (Or.inl rfl)) (pss_one (ps_expr (pe_bm PySem.F.plainAttrs_dict PySem.F.slot_dict_update PySem.F.type_dict_update mt_update (pv 2) (pa_cons (pe_dc (own := [("hand", 5)]) rfl sc.nd (pi_seq (pv 3)) (blkOk_by (by rfl)) (fun _ _ _ _ _ => pg_name (i := 5) sc.nd rfl (Or.inl rfl)) (fun _ _ _ _ _ => pts_nil) (fun _ _ _ _ _ => pv 5) (fun _ _ _ _ _ => pe_bl)) (pa_nil)))))))
      (pss_one (ps_fld (pv 0) (pe_callTy call_tupA (by rfl) T.m_tuple PyProof.Rows.boot_tuple (pa_cons (pe_callB (cr_sortedA rfl) (by rfl) T.m_sorted PyProof.Rows.boot_sorted (pa_cons (pv 2) (pa_nil))) (pa_nil))) rfl)))))
theorem p_apart (T : Tx K mg A) (cdv : Value) (A0 : Around) (outer : List Env) (s : Shared) (H : Hp) (E : XK) (hr : Room 0 (A0.deeper (PyProof.Rows.envOfC "apart" (defScope s_apart) s.heap.objs.size A.a_apart cdv))) :
    PSs (cxOf CX0 P w K mg base ["crew", "deed", "other", "hand"] "apart" (defScope s_apart) A.a_apart cdv A0 outer s H E).nox (defBody s_apart) (t_apart K A) := by
  have hu := hu_of hr
  have hu64 := hr.units
  have sc := sc_apart
  exact pss_one (ps_ret (pe_and (pe_cmpR (op_neA hu64) (pv 1) (pv 2) (by first | exact nomark _ | rfl)) (pe_one (pe_cmpR (op_eqA hu64) (pe_lc (own := [("hand", 3)]) rfl sc.nd (pi_seq (pe_ix (ix_any hu) (pe_fld (pv 0) rfl) (pv 1) (fun _ _ => rfl))) (blkOk_by (by rfl)) (fun _ _ _ _ _ => pg_name (i := 3) sc.nd rfl (Or.inl rfl)) (fun _ _ _ _ _ => pts_one (pt_cmpR (op_inA hu) (pv 3) (pe_ix (ix_any hu) (pe_fld (pv 0) rfl) (pv 2) (fun _ _ => rfl)) (by first | exact nomark _ | rfl))) (fun _ _ _ _ _ => pv 3)) (pe_lst (pa_nil)) (by first | exact nomark _ | rfl)))))
theorem p_need_crew (T : Tx K mg A) (cdv : Value) (A0 : Around) (outer : List Env) (s : Shared) (H : Hp) (E : XK) (hr : Room 0 (A0.deeper (PyProof.Rows.envOfC "need_crew" (defScope s_need_crew) s.heap.objs.size A.a_need_crew cdv))) :
    PSs (cxOf CX0 P w K mg base ["crew"] "need_crew" (defScope s_need_crew) A.a_need_crew cdv A0 outer s H E).nox (defBody s_need_crew) (t_need_crew K A) := by
  have hu := hu_of hr
  have hu64 := hr.units
  have sc := sc_need_crew
  exact pss_cons (ps_if (pt_not (pt_val (pe_callB call_isiA (by rfl) T.m_isinstance PyProof.Rows.boot_isinstance (pa_cons (pv 0) (pa_cons (pe_glob rfl T.g_Crew rfl) (pa_nil)))))) (pss_one (ps_never)) (pss_nil))
      (pss_one (ps_ret (pv 0)))
theorem p_is_row (T : Tx K mg A) (cdv : Value) (A0 : Around) (outer : List Env) (s : Shared) (H : Hp) (E : XK) (hr : Room 0 (A0.deeper (PyProof.Rows.envOfC "is_row" (defScope s_is_row) s.heap.objs.size A.a_is_row cdv))) :
    PSs (cxOf CX0 P w K mg base ["crew", "thing", "deed"] "is_row" (defScope s_is_row) A.a_is_row cdv A0 outer s H E).nox (defBody s_is_row) (t_is_row K A) := by
  have hu := hu_of hr
  have hu64 := hr.units
  have sc := sc_is_row
  exact pss_cons (ps_if (PW.pt (pw_or (pt_not (pt_val (pe_callB call_isiA (by rfl) T.m_isinstance PyProof.Rows.boot_isinstance (pa_cons (pv 1) (pa_cons (pe_tup (pa_cons (pe_bltn rfl T.m_list PyProof.Rows.boot_list rfl) (pa_cons (pe_bltn rfl T.m_tuple PyProof.Rows.boot_tuple rfl) (pa_nil)))) (pa_nil)))))) (pw_or1 (pt_cmpR (op_gt) (pe_callB call_lenA (by rfl) T.m_len PySem.boot_len (pa_cons (pv 1) (pa_nil))) (pe_glob rfl T.g_MOST_LONG.choose_spec ⟨_, rfl⟩) (by first | exact nomark _ | rfl))))) (pss_one (ps_ret (pe_bl))) (pss_nil))
      (pss_one (ps_ret (pe_callB (cr_all rfl) (by rfl) T.m_all (by decide +kernel) (pa_cons (pe_lc (own := [("deed", 2)]) rfl sc.nd (pi_seq (pv 1)) (blkOk_by (by rfl)) (fun _ _ _ _ _ => pg_name (i := 2) sc.nd rfl (Or.inl rfl)) (fun _ _ _ _ _ => pts_nil) (fun _ _ _ _ _ => pe_and (pe_callB call_isiA (by rfl) T.m_isinstance PyProof.Rows.boot_isinstance (pa_cons (pv 2) (pa_cons (pe_bltn rfl T.m_str PyProof.Rows.boot_str rfl) (pa_nil)))) (pe_one (pe_cmpR (op_inA hu) (pv 2) (pe_fld (pv 0) rfl) (by first | exact nomark _ | rfl))))) (pa_nil)))))
theorem p_need_row (T : Tx K mg A) {sp_is_row : Sp} (G_is_row : FnOk P w K mg base CX0 1 A.a_is_row A.fd_is_row ["crew", "thing"] sp_is_row) {sp_need_crew : Sp} (G_need_crew : FnOk P w K mg base CX0 1 A.a_need_crew A.fd_need_crew ["crew"] sp_need_crew) (cdv : Value) (A0 : Around) (outer : List Env) (s : Shared) (H : Hp) (E : XK) (hr : Room 1 (A0.deeper (PyProof.Rows.envOfC "need_row" (defScope s_need_row) s.heap.objs.size A.a_need_row cdv))) :
    PSs (cxOf CX0 P w K mg base ["crew", "row"] "need_row" (defScope s_need_row) A.a_need_row cdv A0 outer s H E).nox (defBody s_need_row) (t_need_row K A sp_is_row sp_need_crew) := by
  have hu := hu_of hr
  have hu64 := hr.units
  have sc := sc_need_row
  exact pss_cons (ps_if (pt_not (pt_val (pe_call G_is_row (hr.mono (by first | exact Nat.le_refl _ | decide)) (by rfl) T.g_is_row T.F_is_row.kp T.b_is_row .nil pass0 (pa_cons (pe_call G_need_crew (hr.mono (by first | exact Nat.le_refl _ | decide)) (by rfl) T.g_need_crew T.F_need_crew.kp T.b_need_crew .nil pass0 (pa_cons (pv 0) (pa_nil))) (pa_cons (pv 1) (pa_nil)))))) (pss_one (ps_never)) (pss_nil))
      (pss_one (ps_ret (pe_callTy call_tupA (by rfl) T.m_tuple PyProof.Rows.boot_tuple (pa_cons (pv 1) (pa_nil)))))
theorem p_need_second (T : Tx K mg A) {sp_is_row : Sp} (G_is_row : FnOk P w K mg base CX0 1 A.a_is_row A.fd_is_row ["crew", "thing"] sp_is_row) (cdv : Value) (A0 : Around) (outer : List Env) (s : Shared) (H : Hp) (E : XK) (hr : Room 1 (A0.deeper (PyProof.Rows.envOfC "need_second" (defScope s_need_second) s.heap.objs.size A.a_need_second cdv))) :
    PSs (cxOf CX0 P w K mg base ["crew", "second"] "need_second" (defScope s_need_second) A.a_need_second cdv A0 outer s H E).nox (defBody s_need_second) (t_need_second K A sp_is_row) := by
  have hu := hu_of hr
  have hu64 := hr.units
  have sc := sc_need_second
  exact pss_cons (ps_if (pt_not (pt_val (pe_call G_is_row (hr.mono (by first | exact Nat.le_refl _ | decide)) (by rfl) T.g_is_row T.F_is_row.kp T.b_is_row .nil pass0 (pa_cons (pv 0) (pa_cons (pv 1) (pa_nil)))))) (pss_one (ps_never)) (pss_nil))
      (pss_one (ps_ret (pe_callTy call_tupA (by rfl) T.m_tuple PyProof.Rows.boot_tuple (pa_cons (pv 1) (pa_nil)))))
theorem p_seen_by (T : Tx K mg A) (cdv : Value) (A0 : Around) (outer : List Env) (s : Shared) (H : Hp) (E : XK) (hr : Room 0 (A0.deeper (PyProof.Rows.envOfC "seen_by" (defScope s_seen_by) s.heap.objs.size A.a_seen_by cdv))) :
    PSs (cxOf CX0 P w K mg base ["crew", "row", "hand", "deed"] "seen_by" (defScope s_seen_by) A.a_seen_by cdv A0 outer s H E).nox (defBody s_seen_by) (t_seen_by K A) := by
  have hu := hu_of hr
  have hu64 := hr.units
  have sc := sc_seen_by
  exact pss_one (ps_ret (pe_lc (own := [("deed", 3)]) rfl sc.nd (pi_seq (pv 1)) (blkOk_by (by rfl)) (fun _ _ _ _ _ => pg_name (i := 3) sc.nd rfl (Or.inl rfl)) (fun _ _ _ _ _ => pts_one (pt_cmpR (op_inA hu) (pv 2) (pe_ix (ix_any hu) (pe_fld (pv 0) rfl) (pv 3) (fun _ _ => rfl)) (by first | exact nomark _ | rfl))) (fun _ _ _ _ _ => pv 3)))
theorem p_least_of (T : Tx K mg A) {sp_seen_by : Sp} (G_seen_by : FnOk P w K mg base CX0 1 A.a_seen_by A.fd_seen_by ["crew", "row", "hand"] sp_seen_by) (cdv : Value) (A0 : Around) (outer : List Env) (s : Shared) (H : Hp) (E : XK) (hr : Room 1 (A0.deeper (PyProof.Rows.envOfC "least_of" (defScope s_least_of) s.heap.objs.size A.a_least_of cdv))) :
    PSs (cxOf CX0 P w K mg base ["crew", "row", "logs", "spots", "found", "deed", "hands", "hand"] "least_of" (defScope s_least_of) A.a_least_of cdv A0 outer s H E).nox (defBody s_least_of) (t_least_of K A sp_seen_by) := by
  have hu := hu_of hr
  have hu64 := hr.units
  have sc := sc_least_of
  exact pss_cons (ps_set (i := 2) sc.nd rfl (Or.inr rfl) (pe_dc (own := [("hand", 7)]) rfl sc.nd (pi_seq (pe_fld (pv 0) rfl)) (blkOk_by (by rfl)) (fun _ _ _ _ _ => pg_name (i := 7) sc.nd rfl (Or.inl rfl)) (fun _ _ _ _ _ => pts_nil) (fun _ _ _ _ _ => pv 7) (fun _ _ _ _ _ => pe_call G_seen_by (hr.mono (by first | exact Nat.le_refl _ | decide)) (by rfl) T.g_seen_by T.F_seen_by.kp T.b_seen_by .nil pass0 (pa_cons (pv 0) (pa_cons (pv 1) (pa_cons (pv 7) (pa_nil)))))))
      (pss_cons (ps_asg (pe_tup (pa_cons (pe_dc (own := [("hand", 7)]) rfl sc.nd (pi_seq (pe_fld (pv 0) rfl)) (blkOk_by (by rfl)) (fun _ _ _ _ _ => pg_name (i := 7) sc.nd rfl (Or.inl rfl)) (fun _ _ _ _ _ => pts_nil) (fun _ _ _ _ _ => pv 7) (fun _ _ _ _ _ => pe_int)) (pa_cons (pe_lst (pa_nil)) (pa_nil)))) (pg_tup rfl (pgs_cons (pg_name (i := 3) sc.nd rfl (Or.inr rfl)) (pgs_cons (pg_name (i := 4) sc.nd rfl (Or.inl rfl)) (pgs_nil)))))
      (pss_cons (ps_while PassesOwn.never (pt_cmpR (op_lt) (pe_callB call_lenA (by rfl) T.m_len PySem.boot_len (pa_cons (pv 4) (pa_nil))) (pe_callB call_lenA (by rfl) T.m_len PySem.boot_len (pa_cons (pv 1) (pa_nil))) (by first | exact nomark _ | rfl)) (pss_cons (ps_lk (ps_for PassesOwn.never rfl (pi_items (pe_fld (pv 0) rfl)) (pg_tup rfl (pgs_cons (pg_name (i := 5) sc.nd rfl (Or.inr rfl)) (pgs_cons (pg_name (i := 6) sc.nd rfl (Or.inl rfl)) (pgs_nil)))) (pss_one (ps_if (pt_val (pe_callB (cr_all rfl) (by rfl) T.m_all (by decide +kernel) (pa_cons (pe_lc (own := [("hand", 7)]) rfl sc.nd (pi_seq (pv 6)) (blkOk_by (by rfl)) (fun _ _ _ _ _ => pg_name (i := 7) sc.nd rfl (Or.inl rfl)) (fun _ _ _ _ _ => pts_nil) (fun _ _ _ _ _ => pe_cmpR (op_eqA hu64) (pe_slice sl_any (pe_ix (ix_any hu) (pv 2) (pv 7) (fun _ _ => rfl)) (po_some (pe_ix (ix_any hu) (pv 3) (pv 7) (fun _ _ => rfl))) (po_some (pe_op op_addA (pe_ix (ix_any hu) (pv 3) (pv 7) (fun _ _ => rfl)) (pe_int)))) (pe_lst (pa_cons (pv 5) (pa_nil))) (by first | exact nomark _ | rfl))) (pa_nil)))) (pss_one (ps_break)) (pss_nil)))))
      (pss_cons (ps_expr (pe_bm PySem.F.plainAttrs_dict PySem.F.slot_dict_update PySem.F.type_dict_update mt_update (pv 3) (pa_cons (pe_dc (own := [("hand", 7)]) rfl sc.nd (pi_seq (pv 6)) (blkOk_by (by rfl)) (fun _ _ _ _ _ => pg_name (i := 7) sc.nd rfl (Or.inl rfl)) (fun _ _ _ _ _ => pts_nil) (fun _ _ _ _ _ => pv 7) (fun _ _ _ _ _ => pe_op op_addA (pe_ix (ix_any hu) (pv 3) (pv 7) (fun _ _ => rfl)) (pe_int))) (pa_nil))))
      (pss_one (ps_expr (pe_bm PySem.F.plainAttrs_list PySem.F.slot_list_append PySem.F.type_list_append mt_append (pv 4) (pa_cons (pv 5) (pa_nil))))))))
      (pss_one (ps_ret (pe_callTy call_tupA (by rfl) T.m_tuple PyProof.Rows.boot_tuple (pa_cons (pv 4) (pa_nil)))))))
theorem p_taken (T : Tx K mg A) {sp_apart : Sp} (G_apart : FnOk P w K mg base CX0 1 A.a_apart A.fd_apart ["crew", "deed", "other"] sp_apart) (cdv : Value) (A0 : Around) (outer : List Env) (s : Shared) (H : Hp) (E : XK) (hr : Room 1 (A0.deeper (PyProof.Rows.envOfC "taken" (defScope s_taken) s.heap.objs.size A.a_taken cdv))) :
    PSs (cxOf CX0 P w K mg base ["crew", "row", "deed", "at", "other"] "taken" (defScope s_taken) A.a_taken cdv A0 outer s H E).nox (defBody s_taken) (t_taken K A sp_apart) := by
  have hu := hu_of hr
  have hu64 := hr.units
  have sc := sc_taken
  exact pss_cons (ps_for PassesOwn.never rfl (pi_enumA (by rfl) T.m_enumerate (pa_cons (pv 1) (pa_nil))) (pg_tup rfl (pgs_cons (pg_name (i := 3) sc.nd rfl (Or.inl rfl)) (pgs_cons (pg_name (i := 4) sc.nd rfl (Or.inl rfl)) (pgs_nil)))) (pss_cons (ps_if (pt_cmpR (op_eqA hu64) (pv 4) (pv 2) (by first | exact nomark _ | rfl)) (pss_one (ps_ret (pe_op op_addA (pe_slice sl_any (pv 1) (po_none) (po_some (pv 3))) (pe_slice sl_any (pv 1) (po_some (pe_op op_addA (pv 3) (pe_int))) (po_none))))) (pss_nil))
      (pss_one (ps_if (pt_not (pt_val (pe_call G_apart (hr.mono (by first | exact Nat.le_refl _ | decide)) (by rfl) T.g_apart T.F_apart.kp T.b_apart .nil pass0 (pa_cons (pv 0) (pa_cons (pv 2) (pa_cons (pv 4) (pa_nil))))))) (pss_one (ps_ret (pe_non))) (pss_nil)))))
      (pss_one (ps_ret (pe_non)))
theorem p_rest_by (T : Tx K mg A) {sp_taken : Sp} (G_taken : FnOk P w K mg base CX0 2 A.a_taken A.fd_taken ["crew", "row", "deed"] sp_taken) (cdv : Value) (A0 : Around) (outer : List Env) (s : Shared) (H : Hp) (E : XK) (hr : Room 2 (A0.deeper (PyProof.Rows.envOfC "rest_by" (defScope s_rest_by) s.heap.objs.size A.a_rest_by cdv))) :
    PSs (cxOf CX0 P w K mg base ["crew", "row", "second", "deed"] "rest_by" (defScope s_rest_by) A.a_rest_by cdv A0 outer s H E).nox (defBody s_rest_by) (t_rest_by K A sp_taken) := by
  have hu := hu_of hr
  have hu64 := hr.units
  have sc := sc_rest_by
  exact pss_cons (ps_for PassesOwn.never rfl (pi_seq (pv 2)) (pg_name (i := 3) sc.nd rfl (Or.inl rfl)) (pss_one (ps_set (i := 1) sc.nd rfl (Or.inl rfl) (pe_ifExp (pt_cmp (pc_isN (pv 1))) (pe_non) (pe_call G_taken (hr.mono (by first | exact Nat.le_refl _ | decide)) (by rfl) T.g_taken T.F_taken.kp T.b_taken .nil pass0 (pa_cons (pv 0) (pa_cons (pv 1) (pa_cons (pv 3) (pa_nil)))))))))
      (pss_one (ps_ret (pv 1)))
theorem p_begun (T : Tx K mg A) {sp_taken : Sp} (G_taken : FnOk P w K mg base CX0 2 A.a_taken A.fd_taken ["crew", "row", "deed"] sp_taken) (cdv : Value) (A0 : Around) (outer : List Env) (s : Shared) (H : Hp) (E : XK) (hr : Room 2 (A0.deeper (PyProof.Rows.envOfC "begun" (defScope s_begun) s.heap.objs.size A.a_begun cdv))) :
    PSs (cxOf CX0 P w K mg base ["crew", "row", "second", "found", "more", "deed", "near", "far"] "begun" (defScope s_begun) A.a_begun cdv A0 outer s H E).nox (defBody s_begun) (t_begun K A sp_taken) := by
  have hu := hu_of hr
  have hu64 := hr.units
  have sc := sc_begun
  exact pss_cons (ps_asg (pe_tup (pa_cons (pe_tup (pa_nil)) (pa_cons (pe_bl) (pa_nil)))) (pg_tup rfl (pgs_cons (pg_name (i := 3) sc.nd rfl (Or.inl rfl)) (pgs_cons (pg_name (i := 4) sc.nd rfl (Or.inl rfl)) (pgs_nil)))))
      (pss_cons (ps_while PassesOwn.never (pt_val (pv 4)) (pss_cons (ps_set (i := 4) sc.nd rfl (Or.inl rfl) (pe_bl))
      (pss_one (ps_for PassesOwn.never rfl (pi_seq (pe_callB (cr_sortedA rfl) (by rfl) T.m_sorted PyProof.Rows.boot_sorted (pa_cons (pe_dc (own := [("deed", 5)]) rfl sc.nd (pi_seq (pv 1)) (blkOk_by (by rfl)) (fun _ _ _ _ _ => pg_name (i := 5) sc.nd rfl (Or.inl rfl)) (fun _ _ _ _ _ => pts_nil) (fun _ _ _ _ _ => pv 5) (fun _ _ _ _ _ => pe_bl)) (pa_nil)))) (pg_name (i := 5) sc.nd rfl (Or.inl rfl)) (pss_cons (ps_par (i := 6) (j := 7) rfl sc.nd rfl rfl (by decide) rfl rfl (pa_cons (pe_call G_taken (hr.mono (by first | exact Nat.le_refl _ | decide)) (by rfl) T.g_taken T.F_taken.kp T.b_taken .nil pass0 (pa_cons (pv 0) (pa_cons (pv 1) (pa_cons (pv 5) (pa_nil))))) (pa_cons (pe_call G_taken (hr.mono (by first | exact Nat.le_refl _ | decide)) (by rfl) T.g_taken T.F_taken.kp T.b_taken .nil pass0 (pa_cons (pv 0) (pa_cons (pv 2) (pa_cons (pv 5) (pa_nil))))) (pa_nil))) rfl)
      (pss_one (ps_if (PW.pt (pw_and (pt_cmp (pc_notN (pv 6))) (pw_and1 (pt_cmp (pc_notN (pv 7)))))) (pss_cons (ps_asg (pe_tup (pa_cons (pe_op op_addA (pv 3) (pe_tup (pa_cons (pv 5) (pa_nil)))) (pa_cons (pv 6) (pa_cons (pv 7) (pa_cons (pe_bl) (pa_nil)))))) (pg_tup rfl (pgs_cons (pg_name (i := 3) sc.nd rfl (Or.inl rfl)) (pgs_cons (pg_name (i := 1) sc.nd rfl (Or.inl rfl)) (pgs_cons (pg_name (i := 2) sc.nd rfl (Or.inl rfl)) (pgs_cons (pg_name (i := 4) sc.nd rfl (Or.inl rfl)) (pgs_nil)))))))
      (pss_one (ps_break))) (pss_nil))))))))
      (pss_one (ps_ret (pe_tup (pa_cons (pv 3) (pa_cons (pv 1) (pa_cons (pv 2) (pa_nil))))))))
theorem p_told (T : Tx K mg A) {sp_least_of : Sp} (G_least_of : FnOk P w K mg base CX0 2 A.a_least_of A.fd_least_of ["crew", "row"] sp_least_of) (cdv : Value) (A0 : Around) (outer : List Env) (s : Shared) (H : Hp) (E : XK) (hr : Room 2 (A0.deeper (PyProof.Rows.envOfC "told" (defScope s_told) s.heap.objs.size A.a_told cdv))) :
    PSs (cxOf CX0 P w K mg base ["crew", "row"] "told" (defScope s_told) A.a_told cdv A0 outer s H E).nox (defBody s_told) (t_told K A sp_least_of) := by
  have hu := hu_of hr
  have hu64 := hr.units
  have sc := sc_told
  exact pss_one (ps_ret (pe_ifExp (pt_cmp (pc_isN (pv 1))) (pe_non) (pe_callTy (call_listA rfl) (by rfl) T.m_list PyProof.Rows.boot_list (pa_cons (pe_call G_least_of (hr.mono (by first | exact Nat.le_refl _ | decide)) (by rfl) T.g_least_of T.F_least_of.kp T.b_least_of .nil pass0 (pa_cons (pv 0) (pa_cons (pv 1) (pa_nil)))) (pa_nil)))))
theorem p_rest_of (T : Tx K mg A) {sp_need_second : Sp} (G_need_second : FnOk P w K mg base CX0 2 A.a_need_second A.fd_need_second ["crew", "second"] sp_need_second) {sp_need_row : Sp} (G_need_row : FnOk P w K mg base CX0 2 A.a_need_row A.fd_need_row ["crew", "row"] sp_need_row) {sp_told : Sp} (G_told : FnOk P w K mg base CX0 3 A.a_told A.fd_told ["crew", "row"] sp_told) {sp_rest_by : Sp} (G_rest_by : FnOk P w K mg base CX0 3 A.a_rest_by A.fd_rest_by ["crew", "row", "second"] sp_rest_by) (cdv : Value) (A0 : Around) (outer : List Env) (s : Shared) (H : Hp) (E : XK) (hr : Room 3 (A0.deeper (PyProof.Rows.envOfC "rest_of" (defScope s_rest_of) s.heap.objs.size A.a_rest_of cdv))) :
    PSs (cxOf CX0 P w K mg base ["crew", "row", "second", "one", "two"] "rest_of" (defScope s_rest_of) A.a_rest_of cdv A0 outer s H E).nox (defBody s_rest_of) (t_rest_of K A sp_need_second sp_need_row sp_told sp_rest_by) := by
  have hu := hu_of hr
  have hu64 := hr.units
  have sc := sc_rest_of
  exact pss_cons (ps_par (i := 3) (j := 4) rfl sc.nd rfl rfl (by decide) rfl rfl (pa_cons (pe_call G_need_row (hr.mono (by first | exact Nat.le_refl _ | decide)) (by rfl) T.g_need_row T.F_need_row.kp T.b_need_row .nil pass0 (pa_cons (pv 0) (pa_cons (pv 1) (pa_nil)))) (pa_cons (pe_call G_need_second (hr.mono (by first | exact Nat.le_refl _ | decide)) (by rfl) T.g_need_second T.F_need_second.kp T.b_need_second .nil pass0 (pa_cons (pv 0) (pa_cons (pv 2) (pa_nil)))) (pa_nil))) rfl)
      (pss_one (ps_ret (pe_call G_told (hr.mono (by first | exact Nat.le_refl _ | decide)) (by rfl) T.g_told T.F_told.kp T.b_told .nil pass0 (pa_cons (pv 0) (pa_cons (pe_call G_rest_by (hr.mono (by first | exact Nat.le_refl _ | decide)) (by rfl) T.g_rest_by T.F_rest_by.kp T.b_rest_by .nil pass0 (pa_cons (pv 0) (pa_cons (pv 3) (pa_cons (pv 4) (pa_nil))))) (pa_nil))))))
theorem p_common_begin (T : Tx K mg A) {sp_need_second : Sp} (G_need_second : FnOk P w K mg base CX0 2 A.a_need_second A.fd_need_second ["crew", "second"] sp_need_second) {sp_need_row : Sp} (G_need_row : FnOk P w K mg base CX0 2 A.a_need_row A.fd_need_row ["crew", "row"] sp_need_row) {sp_told : Sp} (G_told : FnOk P w K mg base CX0 3 A.a_told A.fd_told ["crew", "row"] sp_told) {sp_begun : Sp} (G_begun : FnOk P w K mg base CX0 3 A.a_begun A.fd_begun ["crew", "row", "second"] sp_begun) (cdv : Value) (A0 : Around) (outer : List Env) (s : Shared) (H : Hp) (E : XK) (hr : Room 3 (A0.deeper (PyProof.Rows.envOfC "common_begin" (defScope s_common_begin) s.heap.objs.size A.a_common_begin cdv))) :
    PSs (cxOf CX0 P w K mg base ["crew", "row", "second", "one", "two"] "common_begin" (defScope s_common_begin) A.a_common_begin cdv A0 outer s H E).nox (defBody s_common_begin) (t_common_begin K A sp_need_second sp_need_row sp_told sp_begun) := by
  have hu := hu_of hr
  have hu64 := hr.units
  have sc := sc_common_begin
  exact pss_cons (ps_par (i := 3) (j := 4) rfl sc.nd rfl rfl (by decide) rfl rfl (pa_cons (pe_call G_need_row (hr.mono (by first | exact Nat.le_refl _ | decide)) (by rfl) T.g_need_row T.F_need_row.kp T.b_need_row .nil pass0 (pa_cons (pv 0) (pa_cons (pv 1) (pa_nil)))) (pa_cons (pe_call G_need_second (hr.mono (by first | exact Nat.le_refl _ | decide)) (by rfl) T.g_need_second T.F_need_second.kp T.b_need_second .nil pass0 (pa_cons (pv 0) (pa_cons (pv 2) (pa_nil)))) (pa_nil))) rfl)
      (pss_one (ps_ret (pe_call G_told (hr.mono (by first | exact Nat.le_refl _ | decide)) (by rfl) T.g_told T.F_told.kp T.b_told .nil pass0 (pa_cons (pv 0) (pa_cons (pe_ix (ix_any hu) (pe_call G_begun (hr.mono (by first | exact Nat.le_refl _ | decide)) (by rfl) T.g_begun T.F_begun.kp T.b_begun .nil pass0 (pa_cons (pv 0) (pa_cons (pv 3) (pa_cons (pv 4) (pa_nil))))) (pe_int) (fun _ _ => rfl)) (pa_nil))))))
theorem p_continued (T : Tx K mg A) {sp_need_second : Sp} (G_need_second : FnOk P w K mg base CX0 2 A.a_need_second A.fd_need_second ["crew", "second"] sp_need_second) {sp_need_row : Sp} (G_need_row : FnOk P w K mg base CX0 2 A.a_need_row A.fd_need_row ["crew", "row"] sp_need_row) {sp_begun : Sp} (G_begun : FnOk P w K mg base CX0 3 A.a_begun A.fd_begun ["crew", "row", "second"] sp_begun) {sp_least_of : Sp} (G_least_of : FnOk P w K mg base CX0 2 A.a_least_of A.fd_least_of ["crew", "row"] sp_least_of) {sp_apart : Sp} (G_apart : FnOk P w K mg base CX0 1 A.a_apart A.fd_apart ["crew", "deed", "other"] sp_apart) {sp_told : Sp} (G_told : FnOk P w K mg base CX0 3 A.a_told A.fd_told ["crew", "row"] sp_told) (cdv : Value) (A0 : Around) (outer : List Env) (s : Shared) (H : Hp) (E : XK) (hr : Room 3 (A0.deeper (PyProof.Rows.envOfC "continued" (defScope s_continued) s.heap.objs.size A.a_continued cdv))) :
    PSs (cxOf CX0 P w K mg base ["crew", "row", "second", "one", "two", "found", "near", "far", "deed", "other"] "continued" (defScope s_continued) A.a_continued cdv A0 outer s H E).nox (defBody s_continued) (t_continued K A sp_need_second sp_need_row sp_begun sp_least_of sp_apart sp_told) := by
  have hu := hu_of hr
  have hu64 := hr.units
  have sc := sc_continued
  exact pss_cons (ps_par (i := 3) (j := 4) rfl sc.nd rfl rfl (by decide) rfl rfl (pa_cons (pe_call G_need_row (hr.mono (by first | exact Nat.le_refl _ | decide)) (by rfl) T.g_need_row T.F_need_row.kp T.b_need_row .nil pass0 (pa_cons (pv 0) (pa_cons (pv 1) (pa_nil)))) (pa_cons (pe_call G_need_second (hr.mono (by first | exact Nat.le_refl _ | decide)) (by rfl) T.g_need_second T.F_need_second.kp T.b_need_second .nil pass0 (pa_cons (pv 0) (pa_cons (pv 2) (pa_nil)))) (pa_nil))) rfl)
      (pss_cons (ps_asg (pe_call G_begun (hr.mono (by first | exact Nat.le_refl _ | decide)) (by rfl) T.g_begun T.F_begun.kp T.b_begun .nil pass0 (pa_cons (pv 0) (pa_cons (pv 3) (pa_cons (pv 4) (pa_nil))))) (pg_tup rfl (pgs_cons (pg_name (i := 5) sc.nd rfl (Or.inl rfl)) (pgs_cons (pg_name (i := 6) sc.nd rfl (Or.inl rfl)) (pgs_cons (pg_name (i := 7) sc.nd rfl (Or.inl rfl)) (pgs_nil))))))
      (pss_cons (ps_par (i := 6) (j := 7) rfl sc.nd rfl rfl (by decide) rfl rfl (pa_cons (pe_call G_least_of (hr.mono (by first | exact Nat.le_refl _ | decide)) (by rfl) T.g_least_of T.F_least_of.kp T.b_least_of .nil pass0 (pa_cons (pv 0) (pa_cons (pv 6) (pa_nil)))) (pa_cons (pe_call G_least_of (hr.mono (by first | exact Nat.le_refl _ | decide)) (by rfl) T.g_least_of T.F_least_of.kp T.b_least_of .nil pass0 (pa_cons (pv 0) (pa_cons (pv 7) (pa_nil)))) (pa_nil))) rfl)
      (pss_cons (ps_for PassesOwn.never rfl (pi_seq (pv 6)) (pg_name (i := 8) sc.nd rfl (Or.inl rfl)) (pss_one (ps_for PassesOwn.never rfl (pi_seq (pv 7)) (pg_name (i := 9) sc.nd rfl (Or.inl rfl)) (pss_one (ps_if (pt_not (pt_val (pe_call G_apart (hr.mono (by first | exact Nat.le_refl _ | decide)) (by rfl) T.g_apart T.F_apart.kp T.b_apart .nil pass0 (pa_cons (pv 0) (pa_cons (pv 8) (pa_cons (pv 9) (pa_nil))))))) (pss_one (ps_ret (pe_tup (pa_cons (pe_str) (pa_cons (pv 8) (pa_cons (pv 9) (pa_nil))))))) (pss_nil))))))
      (pss_one (ps_ret (pe_tup (pa_cons (pe_str) (pa_cons (pe_call G_told (hr.mono (by first | exact Nat.le_refl _ | decide)) (by rfl) T.g_told T.F_told.kp T.b_told .nil pass0 (pa_cons (pv 0) (pa_cons (pe_op op_addA (pe_op op_addA (pv 5) (pv 6)) (pv 7)) (pa_nil)))) (pa_nil)))))))))
theorem p_logs_of (T : Tx K mg A) {sp_need_row : Sp} (G_need_row : FnOk P w K mg base CX0 2 A.a_need_row A.fd_need_row ["crew", "row"] sp_need_row) {sp_seen_by : Sp} (G_seen_by : FnOk P w K mg base CX0 1 A.a_seen_by A.fd_seen_by ["crew", "row", "hand"] sp_seen_by) (cdv : Value) (A0 : Around) (outer : List Env) (s : Shared) (H : Hp) (E : XK) (hr : Room 2 (A0.deeper (PyProof.Rows.envOfC "logs_of" (defScope s_logs_of) s.heap.objs.size A.a_logs_of cdv))) :
    PSs (cxOf CX0 P w K mg base ["crew", "row", "plain", "hand"] "logs_of" (defScope s_logs_of) A.a_logs_of cdv A0 outer s H E).nox (defBody s_logs_of) (t_logs_of K A sp_need_row sp_seen_by) := by
  have hu := hu_of hr
  have hu64 := hr.units
  have sc := sc_logs_of
  exact pss_cons (ps_set (i := 2) sc.nd rfl (Or.inr rfl) (pe_call G_need_row (hr.mono (by first | exact Nat.le_refl _ | decide)) (by rfl) T.g_need_row T.F_need_row.kp T.b_need_row .nil pass0 (pa_cons (pv 0) (pa_cons (pv 1) (pa_nil)))))
      (pss_one (ps_ret (pe_dc (own := [("hand", 3)]) rfl sc.nd (pi_seq (pe_fld (pv 0) rfl)) (blkOk_by (by rfl)) (fun _ _ _ _ _ => pg_name (i := 3) sc.nd rfl (Or.inl rfl)) (fun _ _ _ _ _ => pts_nil) (fun _ _ _ _ _ => pv 3) (fun _ _ _ _ _ => pe_call G_seen_by (hr.mono (by first | exact Nat.le_refl _ | decide)) (by rfl) T.g_seen_by T.F_seen_by.kp T.b_seen_by .nil pass0 (pa_cons (pv 0) (pa_cons (pv 2) (pa_cons (pv 3) (pa_nil))))))))
theorem p_is_log (T : Tx K mg A) (cdv : Value) (A0 : Around) (outer : List Env) (s : Shared) (H : Hp) (E : XK) (hr : Room 0 (A0.deeper (PyProof.Rows.envOfC "is_log" (defScope s_is_log) s.heap.objs.size A.a_is_log cdv))) :
    PSs (cxOf CX0 P w K mg base ["crew", "hand", "thing", "deed"] "is_log" (defScope s_is_log) A.a_is_log cdv A0 outer s H E).nox (defBody s_is_log) (t_is_log K A) := by
  have hu := hu_of hr
  have hu64 := hr.units
  have sc := sc_is_log
  exact pss_cons (ps_if (PW.pt (pw_or (pt_not (pt_val (pe_callB call_isiA (by rfl) T.m_isinstance PyProof.Rows.boot_isinstance (pa_cons (pv 2) (pa_cons (pe_tup (pa_cons (pe_bltn rfl T.m_list PyProof.Rows.boot_list rfl) (pa_cons (pe_bltn rfl T.m_tuple PyProof.Rows.boot_tuple rfl) (pa_nil)))) (pa_nil)))))) (pw_or1 (pt_cmpR (op_gt) (pe_callB call_lenA (by rfl) T.m_len PySem.boot_len (pa_cons (pv 2) (pa_nil))) (pe_glob rfl T.g_MOST_LONG.choose_spec ⟨_, rfl⟩) (by first | exact nomark _ | rfl))))) (pss_one (ps_ret (pe_bl))) (pss_nil))
      (pss_one (ps_ret (pe_callB (cr_all rfl) (by rfl) T.m_all (by decide +kernel) (pa_cons (pe_lc (own := [("deed", 3)]) rfl sc.nd (pi_seq (pv 2)) (blkOk_by (by rfl)) (fun _ _ _ _ _ => pg_name (i := 3) sc.nd rfl (Or.inl rfl)) (fun _ _ _ _ _ => pts_nil) (fun _ _ _ _ _ => pe_and (pe_callB call_isiA (by rfl) T.m_isinstance PyProof.Rows.boot_isinstance (pa_cons (pv 3) (pa_cons (pe_bltn rfl T.m_str PyProof.Rows.boot_str rfl) (pa_nil)))) (pe_and (pe_cmpR (op_inA hu) (pv 3) (pe_fld (pv 0) rfl) (by first | exact nomark _ | rfl)) (pe_one (pe_cmpR (op_inA hu) (pv 1) (pe_ix (ix_any hu) (pe_fld (pv 0) rfl) (pv 3) (fun _ _ => rfl)) (by first | exact nomark _ | rfl)))))) (pa_nil)))))
theorem p_are_logs (T : Tx K mg A) {sp_is_log : Sp} (G_is_log : FnOk P w K mg base CX0 1 A.a_is_log A.fd_is_log ["crew", "hand", "thing"] sp_is_log) (cdv : Value) (A0 : Around) (outer : List Env) (s : Shared) (H : Hp) (E : XK) (hr : Room 1 (A0.deeper (PyProof.Rows.envOfC "are_logs" (defScope s_are_logs) s.heap.objs.size A.a_are_logs cdv))) :
    PSs (cxOf CX0 P w K mg base ["crew", "logs", "hand"] "are_logs" (defScope s_are_logs) A.a_are_logs cdv A0 outer s H E).nox (defBody s_are_logs) (t_are_logs K A sp_is_log) := by
  have hu := hu_of hr
  have hu64 := hr.units
  have sc := sc_are_logs
  exact pss_cons (ps_if (PW.pt (pw_or (pt_not (pt_val (pe_callB call_isiA (by rfl) T.m_isinstance PyProof.Rows.boot_isinstance (pa_cons (pv 1) (pa_cons (pe_bltn rfl T.m_dict PyProof.Rows.boot_dict rfl) (pa_nil)))))) (pw_or1 (pt_cmpR (op_neA hu64) (pe_callB call_lenA (by rfl) T.m_len PySem.boot_len (pa_cons (pv 1) (pa_nil))) (pe_callB call_lenA (by rfl) T.m_len PySem.boot_len (pa_cons (pe_fld (pv 0) rfl) (pa_nil))) (by first | exact nomark _ | rfl))))) (pss_one (ps_ret (pe_bl))) (pss_nil))
      (pss_one (ps_ret (pe_callB (cr_all rfl) (by rfl) T.m_all (by decide +kernel) (pa_cons (pe_lc (own := [("hand", 2)]) rfl sc.nd (pi_seq (pe_fld (pv 0) rfl)) (blkOk_by (by rfl)) (fun _ _ _ _ _ => pg_name (i := 2) sc.nd rfl (Or.inl rfl)) (fun _ _ _ _ _ => pts_nil) (fun _ _ _ _ _ => pe_and (pe_cmpR (op_inA hu) (pv 2) (pv 1) (by first | exact nomark _ | rfl)) (pe_one (pe_call G_is_log (hr.mono (by first | exact Nat.le_refl _ | decide)) (by rfl) T.g_is_log T.F_is_log.kp T.b_is_log .nil pass0 (pa_cons (pv 0) (pa_cons (pv 2) (pa_cons (pe_ix (ix_any hu) (pv 1) (pv 2) (fun _ _ => rfl)) (pa_nil)))))))) (pa_nil)))))
theorem p_need_logs (T : Tx K mg A) {sp_are_logs : Sp} (G_are_logs : FnOk P w K mg base CX0 2 A.a_are_logs A.fd_are_logs ["crew", "logs"] sp_are_logs) {sp_need_crew : Sp} (G_need_crew : FnOk P w K mg base CX0 1 A.a_need_crew A.fd_need_crew ["crew"] sp_need_crew) (cdv : Value) (A0 : Around) (outer : List Env) (s : Shared) (H : Hp) (E : XK) (hr : Room 2 (A0.deeper (PyProof.Rows.envOfC "need_logs" (defScope s_need_logs) s.heap.objs.size A.a_need_logs cdv))) :
    PSs (cxOf CX0 P w K mg base ["crew", "logs", "hand"] "need_logs" (defScope s_need_logs) A.a_need_logs cdv A0 outer s H E).nox (defBody s_need_logs) (t_need_logs K A sp_are_logs sp_need_crew) := by
  have hu := hu_of hr
  have hu64 := hr.units
  have sc := sc_need_logs
  exact pss_cons (ps_if (pt_not (pt_val (pe_call G_are_logs (hr.mono (by first | exact Nat.le_refl _ | decide)) (by rfl) T.g_are_logs T.F_are_logs.kp T.b_are_logs .nil pass0 (pa_cons (pe_call G_need_crew (hr.mono (by first | exact Nat.le_refl _ | decide)) (by rfl) T.g_need_crew T.F_need_crew.kp T.b_need_crew .nil pass0 (pa_cons (pv 0) (pa_nil))) (pa_cons (pv 1) (pa_nil)))))) (pss_one (ps_never)) (pss_nil))
      (pss_one (ps_ret (pe_dc (own := [("hand", 2)]) rfl sc.nd (pi_seq (pe_fld (pv 0) rfl)) (blkOk_by (by rfl)) (fun _ _ _ _ _ => pg_name (i := 2) sc.nd rfl (Or.inl rfl)) (fun _ _ _ _ _ => pts_nil) (fun _ _ _ _ _ => pv 2) (fun _ _ _ _ _ => pe_callTy call_tupA (by rfl) T.m_tuple PyProof.Rows.boot_tuple (pa_cons (pe_ix (ix_any hu) (pv 1) (pv 2) (fun _ _ => rfl)) (pa_nil))))))
theorem p_is_ready (T : Tx K mg A) (cdv : Value) (A0 : Around) (outer : List Env) (s : Shared) (H : Hp) (E : XK) (hr : Room 0 (A0.deeper (PyProof.Rows.envOfC "is_ready" (defScope s_is_ready) s.heap.objs.size A.a_is_ready cdv))) :
    PSs (cxOf CX0 P w K mg base ["crew", "logs", "deed", "hand"] "is_ready" (defScope s_is_ready) A.a_is_ready cdv A0 outer s H E).nox (defBody s_is_ready) (t_is_ready K A) := by
  have hu := hu_of hr
  have hu64 := hr.units
  have sc := sc_is_ready
  exact pss_one (ps_ret (pe_callB (cr_all rfl) (by rfl) T.m_all (by decide +kernel) (pa_cons (pe_lc (own := [("hand", 3)]) rfl sc.nd (pi_seq (pe_ix (ix_any hu) (pe_fld (pv 0) rfl) (pv 2) (fun _ _ => rfl))) (blkOk_by (by rfl)) (fun _ _ _ _ _ => pg_name (i := 3) sc.nd rfl (Or.inl rfl)) (fun _ _ _ _ _ => pts_nil) (fun _ _ _ _ _ => pe_cmpR (op_eqA hu64) (pe_slice sl_any (pe_ix (ix_any hu) (pv 1) (pv 3) (fun _ _ => rfl)) (po_none) (po_some (pe_int))) (pe_lst (pa_cons (pv 2) (pa_nil))) (by first | exact nomark _ | rfl))) (pa_nil))))
theorem p_done_by (T : Tx K mg A) {sp_is_ready : Sp} (G_is_ready : FnOk P w K mg base CX0 1 A.a_is_ready A.fd_is_ready ["crew", "logs", "deed"] sp_is_ready) (cdv : Value) (A0 : Around) (outer : List Env) (s : Shared) (H : Hp) (E : XK) (hr : Room 1 (A0.deeper (PyProof.Rows.envOfC "done_by" (defScope s_done_by) s.heap.objs.size A.a_done_by cdv))) :
    PSs (cxOf CX0 P w K mg base ["crew", "told", "logs", "found", "grown", "deed", "hand"] "done_by" (defScope s_done_by) A.a_done_by cdv A0 outer s H E).nox (defBody s_done_by) (t_done_by K A sp_is_ready) := by
  have hu := hu_of hr
  have hu64 := hr.units
  have sc := sc_done_by
  exact pss_cons (ps_par3 (i := 2) (j := 3) (l := 4) rfl sc.nd rfl rfl rfl (by decide) (by decide) (by decide) rfl rfl rfl (pa_cons (pe_lk (pe_dc (own := [("hand", 6)]) rfl sc.nd (pi_keys (pv 1)) (blkOk_by (by rfl)) (fun _ _ _ _ _ => pg_name (i := 6) sc.nd rfl (Or.inl rfl)) (fun _ _ _ _ _ => pts_nil) (fun _ _ _ _ _ => pv 6) (fun _ _ _ _ _ => pe_callTy (call_listA rfl) (by rfl) T.m_list PyProof.Rows.boot_list (pa_cons (pe_ix (ix_any hu) (pv 1) (pv 6) (fun _ _ => rfl)) (pa_nil))))) (pa_cons (pe_lst (pa_nil)) (pa_cons (pe_bl) (pa_nil)))) rfl)
      (pss_cons (ps_while PassesOwn.never (pt_val (pv 4)) (pss_cons (ps_set (i := 4) sc.nd rfl (Or.inl rfl) (pe_bl))
      (pss_one (ps_lk (ps_for PassesOwn.never rfl (pi_keys (pe_fld (pv 0) rfl)) (pg_name (i := 5) sc.nd rfl (Or.inl rfl)) (pss_one (ps_while PassesOwn.never (pt_val (pe_call G_is_ready (hr.mono (by first | exact Nat.le_refl _ | decide)) (by rfl) T.g_is_ready T.F_is_ready.kp T.b_is_ready .nil pass0 (pa_cons (pv 0) (pa_cons (pv 2) (pa_cons (pv 5) (pa_nil)))))) (pss_cons (ps_for PassesOwn.never rfl (pi_seq (pe_ix (ix_any hu) (pe_fld (pv 0) rfl) (pv 5) (fun _ _ => rfl))) (pg_name (i := 6) sc.nd rfl (Or.inl rfl)) (pss_one (ps_expr (pe_bm PySem.F.plainAttrs_list PySem.F.slot_list_pop PySem.F.type_list_pop mt_popAt (pe_ix (ix_any hu) (pv 2) (pv 6) (fun _ _ => rfl)) (pa_cons (pe_int) (pa_nil))))))
      (pss_cons (ps_expr (pe_bm PySem.F.plainAttrs_list PySem.F.slot_list_append PySem.F.type_list_append mt_append (pv 3) (pa_cons (pv 5) (pa_nil))))
      (pss_one (ps_set (i := 4) sc.nd rfl (Or.inl rfl) (pe_bl))))))))))))
      (pss_one (ps_ret (pe_tup (pa_cons (pv 3) (pa_cons (pv 2) (pa_nil)))))))
theorem p_joined (T : Tx K mg A) {sp_done_by : Sp} (G_done_by : FnOk P w K mg base CX0 2 A.a_done_by A.fd_done_by ["crew", "told"] sp_done_by) {sp_need_logs : Sp} (G_need_logs : FnOk P w K mg base CX0 3 A.a_need_logs A.fd_need_logs ["crew", "logs"] sp_need_logs) {sp_least_of : Sp} (G_least_of : FnOk P w K mg base CX0 2 A.a_least_of A.fd_least_of ["crew", "row"] sp_least_of) (cdv : Value) (A0 : Around) (outer : List Env) (s : Shared) (H : Hp) (E : XK) (hr : Room 3 (A0.deeper (PyProof.Rows.envOfC "joined" (defScope s_joined) s.heap.objs.size A.a_joined cdv))) :
    PSs (cxOf CX0 P w K mg base ["crew", "logs", "found", "left"] "joined" (defScope s_joined) A.a_joined cdv A0 outer s H E).nox (defBody s_joined) (t_joined K A sp_done_by sp_need_logs sp_least_of) := by
  have hu := hu_of hr
  have hu64 := hr.units
  have sc := sc_joined
  exact pss_cons (ps_asg (pe_call G_done_by (hr.mono (by first | exact Nat.le_refl _ | decide)) (by rfl) T.g_done_by T.F_done_by.kp T.b_done_by .nil pass0 (pa_cons (pv 0) (pa_cons (pe_call G_need_logs (hr.mono (by first | exact Nat.le_refl _ | decide)) (by rfl) T.g_need_logs T.F_need_logs.kp T.b_need_logs .nil pass0 (pa_cons (pv 0) (pa_cons (pv 1) (pa_nil)))) (pa_nil)))) (pg_tup rfl (pgs_cons (pg_name (i := 2) sc.nd rfl (Or.inl rfl)) (pgs_cons (pg_name (i := 3) sc.nd rfl (Or.inl rfl)) (pgs_nil)))))
      (pss_cons (ps_if (pt_not (pt_val (pe_anyVals rfl (pv 3) (by rfl) T.m_any))) (pss_one (ps_ret (pe_tup (pa_cons (pe_str) (pa_cons (pe_callTy (call_listA rfl) (by rfl) T.m_list PyProof.Rows.boot_list (pa_cons (pe_call G_least_of (hr.mono (by first | exact Nat.le_refl _ | decide)) (by rfl) T.g_least_of T.F_least_of.kp T.b_least_of .nil pass0 (pa_cons (pv 0) (pa_cons (pv 2) (pa_nil)))) (pa_nil))) (pa_nil)))))) (pss_nil))
      (pss_one (ps_never)))
theorem p_law_start (T : Tx K mg A) (cdv : Value) (A0 : Around) (outer : List Env) (s : Shared) (H : Hp) (E : XK) (hr : Room 0 (A0.deeper (PyProof.Rows.envOfC "_law_start" (defScope s_law_start) s.heap.objs.size A.a_law_start cdv))) :
    PSs (cxOf CX0 P w K mg base ["script"] "_law_start" (defScope s_law_start) A.a_law_start cdv A0 outer s H E).nox (defBody s_law_start) (t_law_start K A) := by
  have hu := hu_of hr
  have hu64 := hr.units
  have sc := sc_law_start
  exact pss_one (ps_ret (pe_lst (pa_cons (pe_callTy (call_listA rfl) (by rfl) T.m_list PyProof.Rows.boot_list (pa_cons (pv 0) (pa_nil))) (pa_cons (pe_int) (pa_cons (pe_int) (pa_cons (pe_int) (pa_nil)))))))
theorem p_law_below (T : Tx K mg A) (cdv : Value) (A0 : Around) (outer : List Env) (s : Shared) (H : Hp) (E : XK) (hr : Room 0 (A0.deeper (PyProof.Rows.envOfC "_law_below" (defScope s_law_below) s.heap.objs.size A.a_law_below cdv))) :
    PSs (cxOf CX0 P w K mg base ["stream", "many", "cell", "digit", "mixed"] "_law_below" (defScope s_law_below) A.a_law_below cdv A0 outer s H E).nox (defBody s_law_below) (t_law_below K A) := by
  have hu := hu_of hr
  have hu64 := hr.units
  have sc := sc_law_below
  exact pss_cons (ps_asg (pe_op op_addA (pe_ix (ix_any hu) (pv 0) (pe_int) (fun _ _ => rfl)) (pe_int)) (pg_sub (pv 0) (pe_int) set_list))
      (pss_cons (ps_while PassesOwn.never (PW.pt (pw_and (pt_cmpR (op_eqA hu64) (pe_ix (ix_any hu) (pv 0) (pe_int) (fun _ _ => rfl)) (pe_int) (by first | exact nomark _ | rfl)) (pw_and1 (pt_cmpR (op_neA hu64) (pe_ix (ix_any hu) (pv 0) (pe_int) (fun _ _ => rfl)) (pe_lst (pa_nil)) (by first | exact nomark _ | rfl))))) (pss_cons (ps_set (i := 2) sc.nd rfl (Or.inl rfl) (pe_bm PySem.F.plainAttrs_list PySem.F.slot_list_pop PySem.F.type_list_pop mt_popAt (pe_ix (ix_any hu) (pv 0) (pe_int) (fun _ _ => rfl)) (pa_cons (pe_int) (pa_nil))))
      (pss_cons (ps_asg (pe_op op_modN (pe_callTy call_intA (by rfl) T.m_int PyProof.Rows.boot_int (pa_cons (pe_op op_addA (pe_op op_addA (pe_op op_mul (pe_ix (ix_any hu) (pv 0) (pe_int) (fun _ _ => rfl)) (pe_int)) (pv 2)) (pe_int)) (pa_nil))) (pe_int)) (pg_sub (pv 0) (pe_int) set_list))
      (pss_one (ps_asg (pe_ifExp (pt_cmpR (op_ge) (pv 2) (pe_op op_pow (pe_int) (pe_int)) (by first | exact nomark _ | rfl)) (pv 2) (pe_int)) (pg_sub (pv 0) (pe_int) set_list))))))
      (pss_cons (ps_if (pt_cmpR (op_gt) (pe_ix (ix_any hu) (pv 0) (pe_int) (fun _ _ => rfl)) (pe_int) (by first | exact nomark _ | rfl)) (pss_cons (ps_set (i := 3) sc.nd rfl (Or.inl rfl) (pe_op op_modN (pe_callTy call_intA (by rfl) T.m_int PyProof.Rows.boot_int (pa_cons (pe_ix (ix_any hu) (pv 0) (pe_int) (fun _ _ => rfl)) (pa_nil))) (pv 1)))
      (pss_cons (ps_asg (pe_op op_fdivN (pe_ix (ix_any hu) (pv 0) (pe_int) (fun _ _ => rfl)) (pv 1)) (pg_sub (pv 0) (pe_int) set_list))
      (pss_one (ps_ret (pv 3))))) (pss_nil))
      (pss_cons (ps_set (i := 4) sc.nd rfl (Or.inl rfl) (pe_op op_modN (pe_callTy call_intA (by rfl) T.m_int PyProof.Rows.boot_int (pa_cons (pe_op op_pow (pe_op op_addA (pe_op op_addA (pe_ix (ix_any hu) (pv 0) (pe_int) (fun _ _ => rfl)) (pe_op op_mul (pe_int) (pe_ix (ix_any hu) (pv 0) (pe_int) (fun _ _ => rfl)))) (pe_int)) (pe_int)) (pa_nil))) (pe_int)))
      (pss_one (ps_ret (pe_op op_modN (pe_op op_modN (pe_callTy call_intA (by rfl) T.m_int PyProof.Rows.boot_int (pa_cons (pe_op op_pow (pe_op op_addA (pe_op op_addA (pe_op op_mul (pv 4) (pe_int)) (pe_op op_mul (pe_int) (pe_ix (ix_any hu) (pv 0) (pe_int) (fun _ _ => rfl)))) (pe_int)) (pe_int)) (pa_nil))) (pe_int)) (pv 1)))))))
theorem p_law_pick (T : Tx K mg A) {sp_law_below : Sp} (G_law_below : FnOk P w K mg base CX0 1 A.a_law_below A.fd_law_below ["stream", "many"] sp_law_below) (cdv : Value) (A0 : Around) (outer : List Env) (s : Shared) (H : Hp) (E : XK) (hr : Room 1 (A0.deeper (PyProof.Rows.envOfC "_law_pick" (defScope s_law_pick) s.heap.objs.size A.a_law_pick cdv))) :
    PSs (cxOf CX0 P w K mg base ["stream", "some"] "_law_pick" (defScope s_law_pick) A.a_law_pick cdv A0 outer s H E).nox (defBody s_law_pick) (t_law_pick K A sp_law_below) := by
  have hu := hu_of hr
  have hu64 := hr.units
  have sc := sc_law_pick
  exact pss_one (ps_ret (pe_ix (ix_any hu) (pv 1) (pe_call G_law_below (hr.mono (by first | exact Nat.le_refl _ | decide)) (by rfl) T.g_law_below T.F_law_below.kp T.b_law_below .nil pass0 (pa_cons (pv 0) (pa_cons (pe_callB call_lenA (by rfl) T.m_len PySem.boot_len (pa_cons (pv 1) (pa_nil))) (pa_nil)))) (fun _ _ => rfl)))
theorem p_law_mixed (T : Tx K mg A) {sp_law_below : Sp} (G_law_below : FnOk P w K mg base CX0 1 A.a_law_below A.fd_law_below ["stream", "many"] sp_law_below) (cdv : Value) (A0 : Around) (outer : List Env) (s : Shared) (H : Hp) (E : XK) (hr : Room 1 (A0.deeper (PyProof.Rows.envOfC "_law_mixed" (defScope s_law_mixed) s.heap.objs.size A.a_law_mixed cdv))) :
    PSs (cxOf CX0 P w K mg base ["stream", "some", "left", "k"] "_law_mixed" (defScope s_law_mixed) A.a_law_mixed cdv A0 outer s H E).nox (defBody s_law_mixed) (t_law_mixed K A sp_law_below) := by
  have hu := hu_of hr
  have hu64 := hr.units
  have sc := sc_law_mixed
  exact pss_cons (ps_set (i := 2) sc.nd rfl (Or.inr rfl) (pe_callTy (call_listA rfl) (by rfl) T.m_list PyProof.Rows.boot_list (pa_cons (pv 1) (pa_nil))))
      (pss_one (ps_ret (pe_lc (own := [("k", 3)]) rfl sc.nd (pi_range1 (by rfl) T.m_range (pa_cons (pe_callB call_lenA (by rfl) T.m_len PySem.boot_len (pa_cons (pv 2) (pa_nil))) (pa_nil))) (blkOk_by (by rfl)) (fun _ _ _ _ _ => pg_name (i := 3) sc.nd rfl (Or.inl rfl)) (fun _ _ _ _ _ => pts_nil) (fun _ _ _ _ _ => pe_bm PySem.F.plainAttrs_list PySem.F.slot_list_pop PySem.F.type_list_pop mt_popAt (pv 2) (pa_cons (pe_call G_law_below (hr.mono (by first | exact Nat.le_refl _ | decide)) (by rfl) T.g_law_below T.F_law_below.kp T.b_law_below .nil pass0 (pa_cons (pv 0) (pa_cons (pe_callB call_lenA (by rfl) T.m_len PySem.boot_len (pa_cons (pv 2) (pa_nil))) (pa_nil)))) (pa_nil))))))
theorem p_law_mcrew (T : Tx K mg A) {sp_law_mixed : Sp} (G_law_mixed : FnOk P w K mg base CX0 2 A.a_law_mixed A.fd_law_mixed ["stream", "some"] sp_law_mixed) {sp_law_below : Sp} (G_law_below : FnOk P w K mg base CX0 1 A.a_law_below A.fd_law_below ["stream", "many"] sp_law_below) {sp_law_pick : Sp} (G_law_pick : FnOk P w K mg base CX0 2 A.a_law_pick A.fd_law_pick ["stream", "some"] sp_law_pick) (cdv : Value) (A0 : Around) (outer : List Env) (s : Shared) (H : Hp) (E : XK) (hr : Room 2 (A0.deeper (PyProof.Rows.envOfC "_law_mcrew" (defScope s_law_mcrew) s.heap.objs.size A.a_law_mcrew cdv))) :
    PSs (cxOf CX0 P w K mg base ["stream", "most", "deeds", "hands", "crew", "deed"] "_law_mcrew" (defScope s_law_mcrew) A.a_law_mcrew cdv A0 outer s H E).nox (defBody s_law_mcrew) (t_law_mcrew K A sp_law_mixed sp_law_below sp_law_pick) := by
  have hu := hu_of hr
  have hu64 := hr.units
  have sc := sc_law_mcrew
  exact pss_cons (ps_set (i := 2) sc.nd rfl (Or.inl rfl) (pe_slice sl_any (pe_call G_law_mixed (hr.mono (by first | exact Nat.le_refl _ | decide)) (by rfl) T.g_law_mixed T.F_law_mixed.kp T.b_law_mixed .nil pass0 (pa_cons (pv 0) (pa_cons (pe_lst (pa_cons (pe_str) (pa_cons (pe_str) (pa_cons (pe_str) (pa_cons (pe_str) (pa_cons (pe_str) (pa_cons (pe_str) (pa_cons (pe_str) (pa_cons (pe_str) (pa_nil)))))))))) (pa_nil)))) (po_none) (po_some (pe_op op_addA (pe_int) (pe_call G_law_below (hr.mono (by first | exact Nat.le_refl _ | decide)) (by rfl) T.g_law_below T.F_law_below.kp T.b_law_below .nil pass0 (pa_cons (pv 0) (pa_cons (pe_op op_sub (pv 1) (pe_int)) (pa_nil))))))))
      (pss_cons (ps_par (i := 3) (j := 4) rfl sc.nd rfl rfl (by decide) rfl rfl (pa_cons (pe_slice sl_any (pe_call G_law_mixed (hr.mono (by first | exact Nat.le_refl _ | decide)) (by rfl) T.g_law_mixed T.F_law_mixed.kp T.b_law_mixed .nil pass0 (pa_cons (pv 0) (pa_cons (pe_lst (pa_cons (pe_str) (pa_cons (pe_str) (pa_cons (pe_str) (pa_cons (pe_str) (pa_cons (pe_str) (pa_nil))))))) (pa_nil)))) (po_none) (po_some (pe_op op_addA (pe_int) (pe_call G_law_below (hr.mono (by first | exact Nat.le_refl _ | decide)) (by rfl) T.g_law_below T.F_law_below.kp T.b_law_below .nil pass0 (pa_cons (pv 0) (pa_cons (pe_int) (pa_nil))))))) (pa_cons (pe_dnewK) (pa_nil))) rfl)
      (pss_cons (ps_for PassesOwn.never rfl (pi_seq (pe_callB (cr_sortedA rfl) (by rfl) T.m_sorted PyProof.Rows.boot_sorted (pa_cons (pv 2) (pa_nil)))) (pg_name (i := 5) sc.nd rfl (Or.inl rfl)) (pss_one (ps_dput hu (pv 4) (pv 5) (pe_callTy call_tupA (by rfl) T.m_tuple PyProof.Rows.boot_tuple (pa_cons (pe_callB (cr_sortedA rfl) (by rfl) T.m_sorted PyProof.Rows.boot_sorted (pa_cons (pe_slice sl_any (pe_call G_law_mixed (hr.mono (by first | exact Nat.le_refl _ | decide)) (by rfl) T.g_law_mixed T.F_law_mixed.kp T.b_law_mixed .nil pass0 (pa_cons (pv 0) (pa_cons (pv 3) (pa_nil)))) (po_none) (po_some (pe_call G_law_pick (hr.mono (by first | exact Nat.le_refl _ | decide)) (by rfl) T.g_law_pick T.F_law_pick.kp T.b_law_pick .nil pass0 (pa_cons (pv 0) (pa_cons (pe_lst (pa_cons (pe_int) (pa_cons (pe_int) (pa_cons (pe_int) (pa_cons (pe_int) (pa_cons (pe_int) (pa_cons (pe_int) (pa_nil)))))))) (pa_nil)))))) (pa_nil))) (pa_nil))) rfl)))
      (pss_one (ps_ret (pv 4)))))
theorem p_law_mmade_crew (T : Tx K mg A) {sp_Crew_init : Sp} (G_Crew_init : FnOk P w K mg base CX0 5 A.a_Crew_init A.fd_Crew_init ["self", "deeds"] sp_Crew_init) (cdv : Value) (A0 : Around) (outer : List Env) (s : Shared) (H : Hp) (E : XK) (hr : Room 6 (A0.deeper (PyProof.Rows.envOfC "_law_mmade_crew" (defScope s_law_mmade_crew) s.heap.objs.size A.a_law_mmade_crew cdv))) :
    PSs (cxOf CX0 P w K mg base ["crew", "deed"] "_law_mmade_crew" (defScope s_law_mmade_crew) A.a_law_mmade_crew cdv A0 outer s H E).nox (defBody s_law_mmade_crew) (t_law_mmade_crew K A sp_Crew_init) := by
  have hu := hu_of hr
  have hu64 := hr.units
  have sc := sc_law_mmade_crew
  exact pss_one (ps_ret (pe_make T.mk_Crew G_Crew_init (hr.mono (by first | exact Nat.le_refl _ | decide)) (by rfl) T.g_Crew T.b_Crew_init .nil pass0 (pa_cons (pe_callTy (call_dictA rfl) (by rfl) T.m_dict PyProof.Rows.boot_dict (pa_cons (pe_lk (pe_lc (own := [("deed", 1)]) rfl sc.nd (pi_keys (pv 0)) (blkOk_by (by rfl)) (fun _ _ _ _ _ => pg_name (i := 1) sc.nd rfl (Or.inl rfl)) (fun _ _ _ _ _ => pts_nil) (fun _ _ _ _ _ => pe_tup (pa_cons (pv 1) (pa_cons (pe_callTy (call_listA rfl) (by rfl) T.m_list PyProof.Rows.boot_list (pa_cons (pe_ix (ix_any hu) (pv 0) (pv 1) (fun _ _ => rfl)) (pa_nil))) (pa_nil)))))) (pa_nil))) (pa_nil))))
theorem p_law_mis_apart (T : Tx K mg A) (cdv : Value) (A0 : Around) (outer : List Env) (s : Shared) (H : Hp) (E : XK) (hr : Room 0 (A0.deeper (PyProof.Rows.envOfC "_law_mis_apart" (defScope s_law_mis_apart) s.heap.objs.size A.a_law_mis_apart cdv))) :
    PSs (cxOf CX0 P w K mg base ["crew", "one", "two", "hand"] "_law_mis_apart" (defScope s_law_mis_apart) A.a_law_mis_apart cdv A0 outer s H E).nox (defBody s_law_mis_apart) (t_law_mis_apart K A) := by
  have hu := hu_of hr
  have hu64 := hr.units
  have sc := sc_law_mis_apart
  exact pss_one (ps_ret (pe_cmpR (op_eqA hu64) (pe_lc (own := [("hand", 3)]) rfl sc.nd (pi_seq (pe_ix (ix_any hu) (pv 0) (pv 1) (fun _ _ => rfl))) (blkOk_by (by rfl)) (fun _ _ _ _ _ => pg_name (i := 3) sc.nd rfl (Or.inl rfl)) (fun _ _ _ _ _ => pts_one (pt_cmpR (op_inA hu) (pv 3) (pe_ix (ix_any hu) (pv 0) (pv 2) (fun _ _ => rfl)) (by first | exact nomark _ | rfl))) (fun _ _ _ _ _ => pv 3)) (pe_lst (pa_nil)) (by first | exact nomark _ | rfl)))
theorem p_law_mrow (T : Tx K mg A) {sp_law_below : Sp} (G_law_below : FnOk P w K mg base CX0 1 A.a_law_below A.fd_law_below ["stream", "many"] sp_law_below) {sp_law_pick : Sp} (G_law_pick : FnOk P w K mg base CX0 2 A.a_law_pick A.fd_law_pick ["stream", "some"] sp_law_pick) (cdv : Value) (A0 : Around) (outer : List Env) (s : Shared) (H : Hp) (E : XK) (hr : Room 2 (A0.deeper (PyProof.Rows.envOfC "_law_mrow" (defScope s_law_mrow) s.heap.objs.size A.a_law_mrow cdv))) :
    PSs (cxOf CX0 P w K mg base ["stream", "crew", "most", "k"] "_law_mrow" (defScope s_law_mrow) A.a_law_mrow cdv A0 outer s H E).nox (defBody s_law_mrow) (t_law_mrow K A sp_law_below sp_law_pick) := by
  have hu := hu_of hr
  have hu64 := hr.units
  have sc := sc_law_mrow
  exact pss_one (ps_ret (pe_lc (own := [("k", 3)]) rfl sc.nd (pi_range1 (by rfl) T.m_range (pa_cons (pe_call G_law_below (hr.mono (by first | exact Nat.le_refl _ | decide)) (by rfl) T.g_law_below T.F_law_below.kp T.b_law_below .nil pass0 (pa_cons (pv 0) (pa_cons (pe_op op_addA (pv 2) (pe_int)) (pa_nil)))) (pa_nil))) (blkOk_by (by rfl)) (fun _ _ _ _ _ => pg_name (i := 3) sc.nd rfl (Or.inl rfl)) (fun _ _ _ _ _ => pts_nil) (fun _ _ _ _ _ => pe_call G_law_pick (hr.mono (by first | exact Nat.le_refl _ | decide)) (by rfl) T.g_law_pick T.F_law_pick.kp T.b_law_pick .nil pass0 (pa_cons (pv 0) (pa_cons (pe_callB (cr_sortedA rfl) (by rfl) T.m_sorted PyProof.Rows.boot_sorted (pa_cons (pv 1) (pa_nil))) (pa_nil))))))
theorem p_law_mfronts (T : Tx K mg A) {sp_law_mis_apart : Sp} (G_law_mis_apart : FnOk P w K mg base CX0 1 A.a_law_mis_apart A.fd_law_mis_apart ["crew", "one", "two"] sp_law_mis_apart) (cdv : Value) (A0 : Around) (outer : List Env) (s : Shared) (H : Hp) (E : XK) (hr : Room 1 (A0.deeper (PyProof.Rows.envOfC "_law_mfronts" (defScope s_law_mfronts) s.heap.objs.size A.a_law_mfronts cdv))) :
    PSs (cxOf CX0 P w K mg base ["crew", "row", "found", "at", "deed", "other"] "_law_mfronts" (defScope s_law_mfronts) A.a_law_mfronts cdv A0 outer s H E).nox (defBody s_law_mfronts) (t_law_mfronts K A sp_law_mis_apart) := by
  have hu := hu_of hr
  have hu64 := hr.units
  have sc := sc_law_mfronts
  exact pss_cons (ps_set (i := 2) sc.nd rfl (Or.inl rfl) (pe_lst (pa_nil)))
      (pss_cons (ps_for PassesOwn.never rfl (pi_enumA (by rfl) T.m_enumerate (pa_cons (pv 1) (pa_nil))) (pg_tup rfl (pgs_cons (pg_name (i := 3) sc.nd rfl (Or.inl rfl)) (pgs_cons (pg_name (i := 4) sc.nd rfl (Or.inr rfl)) (pgs_nil)))) (pss_one (ps_if (pt_cmpR (op_eqA hu64) (pe_lc (own := [("other", 5)]) rfl sc.nd (pi_seq (pe_slice sl_any (pv 1) (po_none) (po_some (pv 3)))) (blkOk_by (by rfl)) (fun _ _ _ _ _ => pg_name (i := 5) sc.nd rfl (Or.inl rfl)) (fun _ _ _ _ _ => pts_one (pt_not (pt_val (pe_call G_law_mis_apart (hr.mono (by first | exact Nat.le_refl _ | decide)) (by rfl) T.g_law_mis_apart T.F_law_mis_apart.kp T.b_law_mis_apart .nil pass0 (pa_cons (pv 0) (pa_cons (pv 4) (pa_cons (pv 5) (pa_nil)))))))) (fun _ _ _ _ _ => pv 5)) (pe_lst (pa_nil)) (by first | exact nomark _ | rfl)) (pss_one (ps_expr (pe_bm PySem.F.plainAttrs_list PySem.F.slot_list_append PySem.F.type_list_append mt_append (pv 2) (pa_cons (pv 3) (pa_nil))))) (pss_nil))))
      (pss_one (ps_ret (pv 2))))
theorem p_law_mleast (T : Tx K mg A) {sp_law_mfronts : Sp} (G_law_mfronts : FnOk P w K mg base CX0 2 A.a_law_mfronts A.fd_law_mfronts ["crew", "row"] sp_law_mfronts) (cdv : Value) (A0 : Around) (outer : List Env) (s : Shared) (H : Hp) (E : XK) (hr : Room 2 (A0.deeper (PyProof.Rows.envOfC "_law_mleast" (defScope s_law_mleast) s.heap.objs.size A.a_law_mleast cdv))) :
    PSs (cxOf CX0 P w K mg base ["crew", "row", "left", "found", "turn", "at"] "_law_mleast" (defScope s_law_mleast) A.a_law_mleast cdv A0 outer s H E).nox (defBody s_law_mleast) (t_law_mleast K A sp_law_mfronts) := by
  have hu := hu_of hr
  have hu64 := hr.units
  have sc := sc_law_mleast
  exact pss_cons (ps_asg (pe_tup (pa_cons (pe_callTy (call_listA rfl) (by rfl) T.m_list PyProof.Rows.boot_list (pa_cons (pv 1) (pa_nil))) (pa_cons (pe_lst (pa_nil)) (pa_nil)))) (pg_tup rfl (pgs_cons (pg_name (i := 2) sc.nd rfl (Or.inr rfl)) (pgs_cons (pg_name (i := 3) sc.nd rfl (Or.inl rfl)) (pgs_nil)))))
      (pss_cons (ps_for PassesOwn.never rfl (pi_range1 (by rfl) T.m_range (pa_cons (pe_callB call_lenA (by rfl) T.m_len PySem.boot_len (pa_cons (pv 1) (pa_nil))) (pa_nil))) (pg_name (i := 4) sc.nd rfl (Or.inl rfl)) (pss_cons (ps_set (i := 5) sc.nd rfl (Or.inl rfl) (pe_ix (ix_any hu) (pe_ix (ix_any hu) (pe_callB cr_sortedSI (by rfl) T.m_sorted PyProof.Rows.boot_sorted (pa_cons (pe_lc (own := [("at", 5)]) rfl sc.nd (pi_seq (pe_call G_law_mfronts (hr.mono (by first | exact Nat.le_refl _ | decide)) (by rfl) T.g_law_mfronts T.F_law_mfronts.kp T.b_law_mfronts .nil pass0 (pa_cons (pv 0) (pa_cons (pv 2) (pa_nil))))) (blkOk_by (by rfl)) (fun _ _ _ _ _ => pg_name (i := 5) sc.nd rfl (Or.inl rfl)) (fun _ _ _ _ _ => pts_nil) (fun _ _ _ _ _ => pe_tup (pa_cons (pe_ix (ix_any hu) (pv 2) (pv 5) (fun _ _ => rfl)) (pa_cons (pv 5) (pa_nil))))) (pa_nil))) (pe_int) (fun _ _ => rfl)) (pe_int) (fun _ _ => rfl)))
      (pss_cons (ps_expr (pe_bm PySem.F.plainAttrs_list PySem.F.slot_list_append PySem.F.type_list_append mt_append (pv 3) (pa_cons (pe_ix (ix_any hu) (pv 2) (pv 5) (fun _ _ => rfl)) (pa_nil))))
      (pss_one (ps_set (i := 2) sc.nd rfl (Or.inr rfl) (pe_op op_addA (pe_slice sl_any (pv 2) (po_none) (po_some (pv 5))) (pe_slice sl_any (pv 2) (po_some (pe_op op_addA (pv 5) (pe_int))) (po_none))))))))
      (pss_one (ps_ret (pv 3))))
theorem p_law_mshuffled (T : Tx K mg A) {sp_law_pick : Sp} (G_law_pick : FnOk P w K mg base CX0 2 A.a_law_pick A.fd_law_pick ["stream", "some"] sp_law_pick) {sp_law_mfronts : Sp} (G_law_mfronts : FnOk P w K mg base CX0 2 A.a_law_mfronts A.fd_law_mfronts ["crew", "row"] sp_law_mfronts) (cdv : Value) (A0 : Around) (outer : List Env) (s : Shared) (H : Hp) (E : XK) (hr : Room 2 (A0.deeper (PyProof.Rows.envOfC "_law_mshuffled" (defScope s_law_mshuffled) s.heap.objs.size A.a_law_mshuffled cdv))) :
    PSs (cxOf CX0 P w K mg base ["stream", "crew", "row", "left", "found", "turn", "at"] "_law_mshuffled" (defScope s_law_mshuffled) A.a_law_mshuffled cdv A0 outer s H E).nox (defBody s_law_mshuffled) (t_law_mshuffled K A sp_law_pick sp_law_mfronts) := by
  have hu := hu_of hr
  have hu64 := hr.units
  have sc := sc_law_mshuffled
  exact pss_cons (ps_par (i := 3) (j := 4) rfl sc.nd rfl rfl (by decide) rfl rfl (pa_cons (pe_callTy (call_listA rfl) (by rfl) T.m_list PyProof.Rows.boot_list (pa_cons (pv 2) (pa_nil))) (pa_cons (pe_lst (pa_nil)) (pa_nil))) rfl)
      (pss_cons (ps_for PassesOwn.never rfl (pi_range1 (by rfl) T.m_range (pa_cons (pe_callB call_lenA (by rfl) T.m_len PySem.boot_len (pa_cons (pv 2) (pa_nil))) (pa_nil))) (pg_name (i := 5) sc.nd rfl (Or.inl rfl)) (pss_cons (ps_set (i := 6) sc.nd rfl (Or.inl rfl) (pe_call G_law_pick (hr.mono (by first | exact Nat.le_refl _ | decide)) (by rfl) T.g_law_pick T.F_law_pick.kp T.b_law_pick .nil pass0 (pa_cons (pv 0) (pa_cons (pe_call G_law_mfronts (hr.mono (by first | exact Nat.le_refl _ | decide)) (by rfl) T.g_law_mfronts T.F_law_mfronts.kp T.b_law_mfronts .nil pass0 (pa_cons (pv 1) (pa_cons (pv 3) (pa_nil)))) (pa_nil)))))
      (pss_cons (ps_expr (pe_bm PySem.F.plainAttrs_list PySem.F.slot_list_append PySem.F.type_list_append mt_append (pv 4) (pa_cons (pe_ix (ix_any hu) (pv 3) (pv 6) (fun _ _ => rfl)) (pa_nil))))
      (pss_one (ps_set (i := 3) sc.nd rfl (Or.inl rfl) (pe_op op_addA (pe_slice sl_any (pv 3) (po_none) (po_some (pv 6))) (pe_slice sl_any (pv 3) (po_some (pe_op op_addA (pv 6) (pe_int))) (po_none))))))))
      (pss_one (ps_ret (pv 4))))
theorem p_law_mtaken (T : Tx K mg A) {sp_law_mfronts : Sp} (G_law_mfronts : FnOk P w K mg base CX0 2 A.a_law_mfronts A.fd_law_mfronts ["crew", "row"] sp_law_mfronts) (cdv : Value) (A0 : Around) (outer : List Env) (s : Shared) (H : Hp) (E : XK) (hr : Room 2 (A0.deeper (PyProof.Rows.envOfC "_law_mtaken" (defScope s_law_mtaken) s.heap.objs.size A.a_law_mtaken cdv))) :
    PSs (cxOf CX0 P w K mg base ["crew", "row", "deed", "places", "at"] "_law_mtaken" (defScope s_law_mtaken) A.a_law_mtaken cdv A0 outer s H E).nox (defBody s_law_mtaken) (t_law_mtaken K A sp_law_mfronts) := by
  have hu := hu_of hr
  have hu64 := hr.units
  have sc := sc_law_mtaken
  exact pss_cons (ps_setLc (i := 3) (own := [("at", 4)]) rfl sc.nd rfl rfl (sw_true rfl rfl rfl (by rfl)) (pi_seq (pe_call G_law_mfronts (hr.mono (by first | exact Nat.le_refl _ | decide)) (by rfl) T.g_law_mfronts T.F_law_mfronts.kp T.b_law_mfronts .nil pass0 (pa_cons (pv 0) (pa_cons (pv 1) (pa_nil))))) (blkOk_by (by rfl)) (fun _ _ _ _ _ => pg_name (i := 4) sc.nd rfl (Or.inl rfl)) (fun _ _ _ _ _ => pts_one (pt_cmpR (op_eqA hu64) (pe_ix (ix_any hu) (pv 1) (pv 4) (fun _ _ => rfl)) (pv 2) (by first | exact nomark _ | rfl))) (fun _ _ _ _ _ => pv 4))
      (pss_one (ps_ret (pe_ifExp (pt_cmpR (op_neA hu64) (pv 3) (pe_lst (pa_nil)) (by first | exact nomark _ | rfl)) (pe_op op_addA (pe_callTy (call_listA rfl) (by rfl) T.m_list PyProof.Rows.boot_list (pa_cons (pe_slice sl_any (pv 1) (po_none) (po_some (pe_ix (ix_any hu) (pv 3) (pe_int) (fun _ _ => rfl)))) (pa_nil))) (pe_callTy (call_listA rfl) (by rfl) T.m_list PyProof.Rows.boot_list (pa_cons (pe_slice sl_any (pv 1) (po_some (pe_op op_addA (pe_ix (ix_any hu) (pv 3) (pe_int) (fun _ _ => rfl)) (pe_int))) (po_none)) (pa_nil)))) (pe_non))))
theorem p_law_mrest (T : Tx K mg A) {sp_law_mtaken : Sp} (G_law_mtaken : FnOk P w K mg base CX0 3 A.a_law_mtaken A.fd_law_mtaken ["crew", "row", "deed"] sp_law_mtaken) (cdv : Value) (A0 : Around) (outer : List Env) (s : Shared) (H : Hp) (E : XK) (hr : Room 3 (A0.deeper (PyProof.Rows.envOfC "_law_mrest" (defScope s_law_mrest) s.heap.objs.size A.a_law_mrest cdv))) :
    PSs (cxOf CX0 P w K mg base ["crew", "row", "second", "left", "deed"] "_law_mrest" (defScope s_law_mrest) A.a_law_mrest cdv A0 outer s H E).nox (defBody s_law_mrest) (t_law_mrest K A sp_law_mtaken) := by
  have hu := hu_of hr
  have hu64 := hr.units
  have sc := sc_law_mrest
  exact pss_cons (ps_set (i := 3) sc.nd rfl (Or.inl rfl) (pe_callTy (call_listA rfl) (by rfl) T.m_list PyProof.Rows.boot_list (pa_cons (pv 1) (pa_nil))))
      (pss_cons (ps_for PassesOwn.never rfl (pi_seq (pv 2)) (pg_name (i := 4) sc.nd rfl (Or.inl rfl)) (pss_one (ps_set (i := 3) sc.nd rfl (Or.inl rfl) (pe_ifExp (pt_cmp (pc_isN (pv 3))) (pe_non) (pe_call G_law_mtaken (hr.mono (by first | exact Nat.le_refl _ | decide)) (by rfl) T.g_law_mtaken T.F_law_mtaken.kp T.b_law_mtaken .nil pass0 (pa_cons (pv 0) (pa_cons (pv 3) (pa_cons (pv 4) (pa_nil)))))))))
      (pss_one (ps_ret (pv 3))))
theorem p_law_mbeginnings (T : Tx K mg A) {sp_law_mfronts : Sp} (G_law_mfronts : FnOk P w K mg base CX0 2 A.a_law_mfronts A.fd_law_mfronts ["crew", "row"] sp_law_mfronts) {sp_law_mleast : Sp} (G_law_mleast : FnOk P w K mg base CX0 3 A.a_law_mleast A.fd_law_mleast ["crew", "row"] sp_law_mleast) (cdv : Value) (A0 : Around) (outer : List Env) (s : Shared) (H : Hp) (E : XK) (hr : Room 3 (A0.deeper (PyProof.Rows.envOfC "_law_mbeginnings" (defScope s_law_mbeginnings) s.heap.objs.size A.a_law_mbeginnings cdv))) :
    PSs (cxOf CX0 P w K mg base ["crew", "row", "found", "known", "turn", "ahead", "left", "at", "one"] "_law_mbeginnings" (defScope s_law_mbeginnings) A.a_law_mbeginnings cdv A0 outer s H E).nox (defBody s_law_mbeginnings) (t_law_mbeginnings K A sp_law_mfronts sp_law_mleast) := by
  have hu := hu_of hr
  have hu64 := hr.units
  have sc := sc_law_mbeginnings
  exact pss_cons (ps_par (i := 2) (j := 3) rfl sc.nd rfl rfl (by decide) rfl rfl (pa_cons (pe_lst (pa_cons (pe_tup (pa_cons (pe_tup (pa_nil)) (pa_cons (pe_callTy call_tupA (by rfl) T.m_tuple PyProof.Rows.boot_tuple (pa_cons (pv 1) (pa_nil))) (pa_nil)))) (pa_nil))) (pa_cons (pe_dispT hu (pe_tup (pa_nil)) (pe_int)) (pa_nil))) rfl)
      (pss_cons (ps_for PassesOwn.never rfl (pi_range1 (by rfl) T.m_range (pa_cons (pe_int) (pa_nil))) (pg_name (i := 4) sc.nd rfl (Or.inl rfl)) (pss_cons (ps_if (pt_cmpR (op_ge) (pv 4) (pe_callB call_lenA (by rfl) T.m_len PySem.boot_len (pa_cons (pv 2) (pa_nil))) (by first | exact nomark _ | rfl)) (pss_one (ps_break)) (pss_nil))
      (pss_cons (ps_asg (pe_ix (ix_any hu) (pv 2) (pv 4) (fun _ _ => rfl)) (pg_tup rfl (pgs_cons (pg_name (i := 5) sc.nd rfl (Or.inl rfl)) (pgs_cons (pg_name (i := 6) sc.nd rfl (Or.inl rfl)) (pgs_nil)))))
      (pss_one (ps_for PassesOwn.never rfl (pi_seq (pe_call G_law_mfronts (hr.mono (by first | exact Nat.le_refl _ | decide)) (by rfl) T.g_law_mfronts T.F_law_mfronts.kp T.b_law_mfronts .nil pass0 (pa_cons (pv 0) (pa_cons (pv 6) (pa_nil))))) (pg_name (i := 7) sc.nd rfl (Or.inl rfl)) (pss_cons (ps_set (i := 8) sc.nd rfl (Or.inl rfl) (pe_callTy call_tupA (by rfl) T.m_tuple PyProof.Rows.boot_tuple (pa_cons (pe_call G_law_mleast (hr.mono (by first | exact Nat.le_refl _ | decide)) (by rfl) T.g_law_mleast T.F_law_mleast.kp T.b_law_mleast .nil pass0 (pa_cons (pv 0) (pa_cons (pe_op op_addA (pv 5) (pe_tup (pa_cons (pe_ix (ix_any hu) (pv 6) (pv 7) (fun _ _ => rfl)) (pa_nil)))) (pa_nil)))) (pa_nil))))
      (pss_one (ps_if (pt_cmpR (op_notInA hu) (pv 8) (pv 3) (by first | exact nomark _ | rfl)) (pss_cons (ps_dput hu (pv 3) (pv 8) (pe_int) rfl)
      (pss_one (ps_expr (pe_bm PySem.F.plainAttrs_list PySem.F.slot_list_append PySem.F.type_list_append mt_append (pv 2) (pa_cons (pe_tup (pa_cons (pv 8) (pa_cons (pe_op op_addA (pe_slice sl_any (pv 6) (po_none) (po_some (pv 7))) (pe_slice sl_any (pv 6) (po_some (pe_op op_addA (pv 7) (pe_int))) (po_none))) (pa_nil)))) (pa_nil)))))) (pss_nil)))))))))
      (pss_one (ps_ret (pe_lc (own := [("one", 8), ("left", 6)]) rfl sc.nd (pi_seq (pv 2)) (blkOk_by (by rfl)) (fun _ _ _ _ _ => pg_tup rfl (pgs_cons (pg_name (i := 8) sc.nd rfl (Or.inl rfl)) (pgs_cons (pg_name (i := 6) sc.nd rfl (Or.inl rfl)) (pgs_nil)))) (fun _ _ _ _ _ => pts_nil) (fun _ _ _ _ _ => pe_callTy (call_listA rfl) (by rfl) T.m_list PyProof.Rows.boot_list (pa_cons (pv 8) (pa_nil)))))))
theorem p_law_mtwo (T : Tx K mg A) (cdv : Value) (A0 : Around) (outer : List Env) (s : Shared) (H : Hp) (E : XK) (hr : Room 0 (A0.deeper (PyProof.Rows.envOfC "_law_mtwo" (defScope s_law_mtwo) s.heap.objs.size A.a_law_mtwo cdv))) :
    PSs (cxOf CX0 P w K mg base ["ones", "others", "found", "one", "other"] "_law_mtwo" (defScope s_law_mtwo) A.a_law_mtwo cdv A0 outer s H E).nox (defBody s_law_mtwo) (t_law_mtwo K A) := by
  have hu := hu_of hr
  have hu64 := hr.units
  have sc := sc_law_mtwo
  exact pss_cons (ps_set (i := 2) sc.nd rfl (Or.inl rfl) (pe_lst (pa_nil)))
      (pss_cons (ps_for PassesOwn.never rfl (pi_seq (pv 0)) (pg_name (i := 3) sc.nd rfl (Or.inr rfl)) (pss_one (ps_set (i := 2) sc.nd rfl (Or.inl rfl) (pe_op op_addA (pv 2) (pe_lc (own := [("other", 4)]) rfl sc.nd (pi_seq (pv 1)) (blkOk_by (by rfl)) (fun _ _ _ _ _ => pg_name (i := 4) sc.nd rfl (Or.inl rfl)) (fun _ _ _ _ _ => pts_nil) (fun _ _ _ _ _ => pe_tup (pa_cons (pv 3) (pa_cons (pv 4) (pa_nil)))))))))
      (pss_one (ps_ret (pv 2))))
theorem p_law_mhands (T : Tx K mg A) (cdv : Value) (A0 : Around) (outer : List Env) (s : Shared) (H : Hp) (E : XK) (hr : Room 0 (A0.deeper (PyProof.Rows.envOfC "_law_mhands" (defScope s_law_mhands) s.heap.objs.size A.a_law_mhands cdv))) :
    PSs (cxOf CX0 P w K mg base ["crew", "found", "deed", "hand"] "_law_mhands" (defScope s_law_mhands) A.a_law_mhands cdv A0 outer s H E).nox (defBody s_law_mhands) (t_law_mhands K A) := by
  have hu := hu_of hr
  have hu64 := hr.units
  have sc := sc_law_mhands
  exact pss_cons (ps_set (i := 1) sc.nd rfl (Or.inr rfl) (pe_lst (pa_nil)))
      (pss_cons (ps_lk (ps_for PassesOwn.never rfl (pi_keys (pv 0)) (pg_name (i := 2) sc.nd rfl (Or.inl rfl)) (pss_one (ps_set (i := 1) sc.nd rfl (Or.inr rfl) (pe_op op_addA (pv 1) (pe_lc (own := [("hand", 3)]) rfl sc.nd (pi_seq (pe_ix (ix_any hu) (pv 0) (pv 2) (fun _ _ => rfl))) (blkOk_by (by rfl)) (fun _ _ _ _ _ => pg_name (i := 3) sc.nd rfl (Or.inl rfl)) (fun _ _ _ _ _ => pts_one (pt_cmpR (op_notInA hu) (pv 3) (pv 1) (by first | exact nomark _ | rfl))) (fun _ _ _ _ _ => pv 3)))))))
      (pss_one (ps_ret (pe_callB (cr_sortedA rfl) (by rfl) T.m_sorted PyProof.Rows.boot_sorted (pa_cons (pv 1) (pa_nil))))))
theorem p_law_same (T : Tx K mg A) {n : Nat} {sp_law_same : Sp} (G_law_same : FnOk P w K mg base CX0 n A.a_law_same A.fd_law_same ["found", "due"] sp_law_same) (cdv : Value) (A0 : Around) (outer : List Env) (s : Shared) (H : Hp) (E : XK) (hr : Room n (A0.deeper (PyProof.Rows.envOfC "_law_same" (defScope s_law_same) s.heap.objs.size A.a_law_same cdv))) :
    PSs (cxOf CX0 P w K mg base ["found", "due", "x", "y"] "_law_same" (defScope s_law_same) A.a_law_same cdv A0 outer s H E).nox (defBody s_law_same) (t_law_same K A sp_law_same) := by
  have hu := hu_of hr
  have hu64 := hr.units
  have sc := sc_law_same
  exact pss_cons (ps_if (pt_val (pe_callB call_isiA (by rfl) T.m_isinstance PyProof.Rows.boot_isinstance (pa_cons (pv 1) (pa_cons (pe_tup (pa_cons (pe_bltn rfl T.m_list PyProof.Rows.boot_list rfl) (pa_cons (pe_bltn rfl T.m_tuple PyProof.Rows.boot_tuple rfl) (pa_nil)))) (pa_nil))))) (pss_cons (ps_if (PW.pt (pw_or (pt_cmpR (op_neA hu64) (pe_callB call_isiA (by rfl) T.m_isinstance PyProof.Rows.boot_isinstance (pa_cons (pv 0) (pa_cons (pe_bltn rfl T.m_list PyProof.Rows.boot_list rfl) (pa_nil)))) (pe_callB call_isiA (by rfl) T.m_isinstance PyProof.Rows.boot_isinstance (pa_cons (pv 1) (pa_cons (pe_bltn rfl T.m_list PyProof.Rows.boot_list rfl) (pa_nil)))) (by first | exact nomark _ | rfl)) (pw_or1 (pt_cmpR (op_neA hu64) (pe_callB call_isiA (by rfl) T.m_isinstance PyProof.Rows.boot_isinstance (pa_cons (pv 0) (pa_cons (pe_bltn rfl T.m_tuple PyProof.Rows.boot_tuple rfl) (pa_nil)))) (pe_callB call_isiA (by rfl) T.m_isinstance PyProof.Rows.boot_isinstance (pa_cons (pv 1) (pa_cons (pe_bltn rfl T.m_tuple PyProof.Rows.boot_tuple rfl) (pa_nil)))) (by first | exact nomark _ | rfl))))) (pss_one (ps_ret (pe_bl))) (pss_nil))
      (pss_one (ps_ret (pe_and (pe_cmpR (op_eqA hu64) (pe_callB call_lenA (by rfl) T.m_len PySem.boot_len (pa_cons (pv 0) (pa_nil))) (pe_callB call_lenA (by rfl) T.m_len PySem.boot_len (pa_cons (pv 1) (pa_nil))) (by first | exact nomark _ | rfl)) (pe_one (pe_callB (cr_all rfl) (by rfl) T.m_all (by decide +kernel) (pa_cons (pe_lc (own := [("x", 2), ("y", 3)]) rfl sc.nd (RZ.pi_zipA (by rfl) T.m_zip (pa_cons (pv 0) (pa_cons (pv 1) (pa_nil)))) (blkOk_by (by rfl)) (fun _ _ _ _ _ => pg_tup rfl (pgs_cons (pg_name (i := 2) sc.nd rfl (Or.inl rfl)) (pgs_cons (pg_name (i := 3) sc.nd rfl (Or.inl rfl)) (pgs_nil)))) (fun _ _ _ _ _ => pts_nil) (fun _ _ _ _ _ => pe_call G_law_same (hr.mono (by first | exact Nat.le_refl _ | decide)) (by rfl) T.g_law_same T.F_law_same.kp T.b_law_same .nil pass0 (pa_cons (pv 2) (pa_cons (pv 3) (pa_nil))))) (pa_nil)))))))) (pss_nil))
      (pss_cons (ps_if (pt_val (pe_callB call_isiA (by rfl) T.m_isinstance PyProof.Rows.boot_isinstance (pa_cons (pv 1) (pa_cons (pe_bltn rfl T.m_dict PyProof.Rows.boot_dict rfl) (pa_nil))))) (pss_one (ps_ret (pe_and (pe_callB call_isiA (by rfl) T.m_isinstance PyProof.Rows.boot_isinstance (pa_cons (pv 0) (pa_cons (pe_bltn rfl T.m_dict PyProof.Rows.boot_dict rfl) (pa_nil)))) (pe_one (pe_call G_law_same (hr.mono (by first | exact Nat.le_refl _ | decide)) (by rfl) T.g_law_same T.F_law_same.kp T.b_law_same .nil pass0 (pa_cons (pe_listItemsR rfl (pv 0) (by rfl) T.m_list PyProof.Rows.boot_list) (pa_cons (pe_listItemsR rfl (pv 1) (by rfl) T.m_list PyProof.Rows.boot_list) (pa_nil)))))))) (pss_nil))
      (pss_cons (ps_if (pt_val (pe_callB call_isiA (by rfl) T.m_isinstance PyProof.Rows.boot_isinstance (pa_cons (pv 1) (pa_cons (pe_bltn rfl T.m_int PyProof.Rows.boot_int rfl) (pa_nil))))) (pss_one (ps_ret (pe_and (pe_callB call_isiA (by rfl) T.m_isinstance PyProof.Rows.boot_isinstance (pa_cons (pv 0) (pa_cons (pe_bltn rfl T.m_int PyProof.Rows.boot_int rfl) (pa_nil)))) (pe_and (pe_cmpR (op_eqA hu64) (pe_callB call_isiA (by rfl) T.m_isinstance PyProof.Rows.boot_isinstance (pa_cons (pv 0) (pa_cons (pe_bltn rfl T.m_bool PyProof.Rows.boot_bool rfl) (pa_nil)))) (pe_callB call_isiA (by rfl) T.m_isinstance PyProof.Rows.boot_isinstance (pa_cons (pv 1) (pa_cons (pe_bltn rfl T.m_bool PyProof.Rows.boot_bool rfl) (pa_nil)))) (by first | exact nomark _ | rfl)) (pe_one (pe_cmpR (op_eqA hu64) (pv 0) (pv 1) (by first | exact nomark _ | rfl))))))) (pss_nil))
      (pss_cons (ps_if (pt_cmp (pc_isN (pv 1))) (pss_one (ps_ret (pe_cmp (pc_isN (pv 0))))) (pss_nil))
      (pss_cons (ps_if (pt_val (pe_callB call_isiA (by rfl) T.m_isinstance PyProof.Rows.boot_isinstance (pa_cons (pv 1) (pa_cons (pe_bltn rfl T.m_str PyProof.Rows.boot_str rfl) (pa_nil))))) (pss_one (ps_ret (pe_and (pe_callB call_isiA (by rfl) T.m_isinstance PyProof.Rows.boot_isinstance (pa_cons (pv 0) (pa_cons (pe_bltn rfl T.m_str PyProof.Rows.boot_str rfl) (pa_nil)))) (pe_one (pe_cmpR (op_eqA hu64) (pv 0) (pv 1) (by first | exact nomark _ | rfl)))))) (pss_nil))
      (pss_one (ps_never))))))
theorem p_law (T : Tx K mg A) {sp_law_start : Sp} (G_law_start : FnOk P w K mg base CX0 1 A.a_law_start A.fd_law_start ["script"] sp_law_start) {sp_law_mcrew : Sp} (G_law_mcrew : FnOk P w K mg base CX0 3 A.a_law_mcrew A.fd_law_mcrew ["stream", "most"] sp_law_mcrew) {sp_law_mmade_crew : Sp} (G_law_mmade_crew : FnOk P w K mg base CX0 7 A.a_law_mmade_crew A.fd_law_mmade_crew ["crew"] sp_law_mmade_crew) {sp_law_mrow : Sp} (G_law_mrow : FnOk P w K mg base CX0 3 A.a_law_mrow A.fd_law_mrow ["stream", "crew", "most"] sp_law_mrow) {sp_law_below : Sp} (G_law_below : FnOk P w K mg base CX0 1 A.a_law_below A.fd_law_below ["stream", "many"] sp_law_below) {sp_law_pick : Sp} (G_law_pick : FnOk P w K mg base CX0 2 A.a_law_pick A.fd_law_pick ["stream", "some"] sp_law_pick) {sp_law_mbeginnings : Sp} (G_law_mbeginnings : FnOk P w K mg base CX0 4 A.a_law_mbeginnings A.fd_law_mbeginnings ["crew", "row"] sp_law_mbeginnings) {sp_law_mshuffled : Sp} (G_law_mshuffled : FnOk P w K mg base CX0 3 A.a_law_mshuffled A.fd_law_mshuffled ["stream", "crew", "row"] sp_law_mshuffled) {sp_logs_of : Sp} (G_logs_of : FnOk P w K mg base CX0 3 A.a_logs_of A.fd_logs_of ["crew", "row"] sp_logs_of) {sp_law_mhands : Sp} (G_law_mhands : FnOk P w K mg base CX0 1 A.a_law_mhands A.fd_law_mhands ["crew"] sp_law_mhands) {sp_law_same : Sp} (G_law_same : FnOk P w K mg base CX0 7 A.a_law_same A.fd_law_same ["found", "due"] sp_law_same) {sp_rest_of : Sp} (G_rest_of : FnOk P w K mg base CX0 4 A.a_rest_of A.fd_rest_of ["crew", "row", "second"] sp_rest_of) {sp_law_mrest : Sp} (G_law_mrest : FnOk P w K mg base CX0 4 A.a_law_mrest A.fd_law_mrest ["crew", "row", "second"] sp_law_mrest) {sp_joined : Sp} (G_joined : FnOk P w K mg base CX0 4 A.a_joined A.fd_joined ["crew", "logs"] sp_joined) {sp_law_mleast : Sp} (G_law_mleast : FnOk P w K mg base CX0 3 A.a_law_mleast A.fd_law_mleast ["crew", "row"] sp_law_mleast) {sp_common_begin : Sp} (G_common_begin : FnOk P w K mg base CX0 4 A.a_common_begin A.fd_common_begin ["crew", "row", "second"] sp_common_begin) {sp_law_mtwo : Sp} (G_law_mtwo : FnOk P w K mg base CX0 1 A.a_law_mtwo A.fd_law_mtwo ["ones", "others"] sp_law_mtwo) {sp_continued : Sp} (G_continued : FnOk P w K mg base CX0 4 A.a_continued A.fd_continued ["crew", "row", "second"] sp_continued) (cdv : Value) (A0 : Around) (outer : List Env) (s : Shared) (H : Hp) (E : XK) (hr : Room 7 (A0.deeper (PyProof.Rows.envOfC "law" (defScope s_law) s.heap.objs.size A.a_law cdv))) :
    PSs (cxOf CX0 P w K mg base ["script", "stream", "turn", "crew", "team", "look", "row", "second", "lots", "hands", "dues", "begins", "rest", "left", "whole", "common", "some", "told_v", "longer", "one", "hand", "deed", "lot"] "law" (defScope s_law) A.a_law cdv A0 outer s H E).nox (defBody s_law) (t_law K A sp_law_start sp_law_mcrew sp_law_mmade_crew sp_law_mrow sp_law_below sp_law_pick sp_law_mbeginnings sp_law_mshuffled sp_logs_of sp_law_mhands sp_law_same sp_rest_of sp_law_mrest sp_joined sp_law_mleast sp_common_begin sp_law_mtwo sp_continued) := by
  have hu := hu_of hr
  have hu64 := hr.units
  have sc := sc_law
  exact pss_cons (ps_set (i := 1) sc.nd rfl (Or.inl rfl) (pe_call G_law_start (hr.mono (by first | exact Nat.le_refl _ | decide)) (by rfl) T.g_law_start T.F_law_start.kp T.b_law_start .nil pass0 (pa_cons (pv 0) (pa_nil))))
      (pss_cons (ps_for PassesOwn.never rfl (pi_range1 (by rfl) T.m_range (pa_cons (pe_int) (pa_nil))) (pg_name (i := 2) sc.nd rfl (Or.inl rfl)) (pss_cons (ps_set (i := 3) sc.nd rfl (Or.inr rfl) (pe_call G_law_mcrew (hr.mono (by first | exact Nat.le_refl _ | decide)) (by rfl) T.g_law_mcrew T.F_law_mcrew.kp T.b_law_mcrew .nil pass0 (pa_cons (pv 1) (pa_cons (pe_int) (pa_nil)))))
      (pss_cons (ps_set (i := 4) sc.nd rfl (Or.inr rfl) (pe_call G_law_mmade_crew (hr.mono (by first | exact Nat.le_refl _ | decide)) (by rfl) T.g_law_mmade_crew T.F_law_mmade_crew.kp T.b_law_mmade_crew .nil pass0 (pa_cons (pv 3) (pa_nil))))
      (pss_one (ps_for PassesOwn.never rfl (pi_range1 (by rfl) T.m_range (pa_cons (pe_int) (pa_nil))) (pg_name (i := 5) sc.nd rfl (Or.inl rfl)) (pss_cons (ps_set (i := 6) sc.nd rfl (Or.inl rfl) (pe_call G_law_mrow (hr.mono (by first | exact Nat.le_refl _ | decide)) (by rfl) T.g_law_mrow T.F_law_mrow.kp T.b_law_mrow .nil pass0 (pa_cons (pv 1) (pa_cons (pv 3) (pa_cons (pe_int) (pa_nil))))))
      (pss_cons (ps_set (i := 7) sc.nd rfl (Or.inl rfl) (pe_ifExp (pt_cmpR (op_eqA hu64) (pe_call G_law_below (hr.mono (by first | exact Nat.le_refl _ | decide)) (by rfl) T.g_law_below T.F_law_below.kp T.b_law_below .nil pass0 (pa_cons (pv 1) (pa_cons (pe_int) (pa_nil)))) (pe_int) (by first | exact nomark _ | rfl)) (pe_callTy (call_listA rfl) (by rfl) T.m_list PyProof.Rows.boot_list (pa_cons (pe_call G_law_pick (hr.mono (by first | exact Nat.le_refl _ | decide)) (by rfl) T.g_law_pick T.F_law_pick.kp T.b_law_pick .nil pass0 (pa_cons (pv 1) (pa_cons (pe_call G_law_mbeginnings (hr.mono (by first | exact Nat.le_refl _ | decide)) (by rfl) T.g_law_mbeginnings T.F_law_mbeginnings.kp T.b_law_mbeginnings .nil pass0 (pa_cons (pv 3) (pa_cons (pv 6) (pa_nil)))) (pa_nil)))) (pa_nil))) (pe_call G_law_mrow (hr.mono (by first | exact Nat.le_refl _ | decide)) (by rfl) T.g_law_mrow T.F_law_mrow.kp T.b_law_mrow .nil pass0 (pa_cons (pv 1) (pa_cons (pv 3) (pa_cons (pe_int) (pa_nil)))))))
      (pss_cons (ps_set (i := 7) sc.nd rfl (Or.inl rfl) (pe_call G_law_mshuffled (hr.mono (by first | exact Nat.le_refl _ | decide)) (by rfl) T.g_law_mshuffled T.F_law_mshuffled.kp T.b_law_mshuffled .nil pass0 (pa_cons (pv 1) (pa_cons (pv 3) (pa_cons (pv 7) (pa_nil))))))
      (pss_cons (ps_setLc (i := 8) (own := [("one", 19)]) rfl sc.nd rfl rfl (sw_true rfl rfl rfl (by rfl)) (pi_seq (pe_tup (pa_cons (pv 6) (pa_cons (pv 7) (pa_nil))))) (blkOk_by (by rfl)) (fun _ _ _ _ _ => pg_name (i := 19) sc.nd rfl (Or.inl rfl)) (fun _ _ _ _ _ => pts_nil) (fun _ _ _ _ _ => pe_call G_logs_of (hr.mono (by first | exact Nat.le_refl _ | decide)) (by rfl) T.g_logs_of T.F_logs_of.kp T.b_logs_of .nil pass0 (pa_cons (pv 4) (pa_cons (pe_callTy (call_listA rfl) (by rfl) T.m_list PyProof.Rows.boot_list (pa_cons (pv 19) (pa_nil))) (pa_nil)))))
      (pss_cons (ps_set (i := 9) sc.nd rfl (Or.inr rfl) (pe_call G_law_mhands (hr.mono (by first | exact Nat.le_refl _ | decide)) (by rfl) T.g_law_mhands T.F_law_mhands.kp T.b_law_mhands .nil pass0 (pa_cons (pv 3) (pa_nil))))
      (pss_cons (ps_set (i := 10) sc.nd rfl (Or.inr rfl) (pe_lc (own := [("one", 19)]) rfl sc.nd (pi_seq (pe_tup (pa_cons (pv 6) (pa_cons (pv 7) (pa_nil))))) (blkOk_by (by rfl)) (fun _ _ _ _ _ => pg_name (i := 19) sc.nd rfl (Or.inr rfl)) (fun _ _ _ _ _ => pts_nil) (fun _ _ _ _ _ => pe_callTy (call_dictA rfl) (by rfl) T.m_dict PyProof.Rows.boot_dict (pa_cons (pe_lc (own := [("hand", 20)]) rfl sc.nd (pi_seq (pv 9)) (blkOk_by (by rfl)) (fun _ _ _ _ _ => pg_name (i := 20) sc.nd rfl (Or.inr rfl)) (fun _ _ _ _ _ => pts_nil) (fun _ _ _ _ _ => pe_tup (pa_cons (pv 20) (pa_cons (pe_lc (own := [("deed", 21)]) rfl sc.nd (pi_seq (pv 19)) (blkOk_by (by rfl)) (fun _ _ _ _ _ => pg_name (i := 21) sc.nd rfl (Or.inl rfl)) (fun _ _ _ _ _ => pts_one (pt_cmpR (op_inA hu) (pv 20) (pe_ix (ix_any hu) (pv 3) (pv 21) (fun _ _ => rfl)) (by first | exact nomark _ | rfl))) (fun _ _ _ _ _ => pv 21)) (pa_nil))))) (pa_nil)))))
      (pss_cons (ps_if (pt_not (pt_val (pe_call G_law_same (hr.mono (by first | exact Nat.le_refl _ | decide)) (by rfl) T.g_law_same T.F_law_same.kp T.b_law_same .nil pass0 (pa_cons (pv 8) (pa_cons (pv 10) (pa_nil)))))) (pss_one (ps_ret (pe_bl))) (pss_nil))
      (pss_cons (ps_set (i := 11) sc.nd rfl (Or.inl rfl) (pe_cmpR (op_eqA hu64) (pe_lc (own := [("hand", 20)]) rfl sc.nd (pi_seq (pv 9)) (blkOk_by (by rfl)) (fun _ _ _ _ _ => pg_name (i := 20) sc.nd rfl (Or.inl rfl)) (fun _ _ _ _ _ => pts_one (pt_cmpR (op_neA hu64) (pe_slice sl_any (pe_ix (ix_any hu) (pe_ix (ix_any hu) (pv 10) (pe_int) (fun _ _ => rfl)) (pv 20) (fun _ _ => rfl)) (po_none) (po_some (pe_callB call_lenA (by rfl) T.m_len PySem.boot_len (pa_cons (pe_ix (ix_any hu) (pe_ix (ix_any hu) (pv 10) (pe_int) (fun _ _ => rfl)) (pv 20) (fun _ _ => rfl)) (pa_nil))))) (pe_ix (ix_any hu) (pe_ix (ix_any hu) (pv 10) (pe_int) (fun _ _ => rfl)) (pv 20) (fun _ _ => rfl)) (by first | exact nomark _ | rfl))) (fun _ _ _ _ _ => pv 20)) (pe_lst (pa_nil)) (by first | exact nomark _ | rfl)))
      (pss_cons (ps_set (i := 12) sc.nd rfl (Or.inl rfl) (pe_call G_rest_of (hr.mono (by first | exact Nat.le_refl _ | decide)) (by rfl) T.g_rest_of T.F_rest_of.kp T.b_rest_of .nil pass0 (pa_cons (pv 4) (pa_cons (pe_callTy (call_listA rfl) (by rfl) T.m_list PyProof.Rows.boot_list (pa_cons (pv 6) (pa_nil))) (pa_cons (pe_callTy (call_listA rfl) (by rfl) T.m_list PyProof.Rows.boot_list (pa_cons (pv 7) (pa_nil))) (pa_nil))))))
      (pss_cons (ps_if (PW.pt (pw_or (pt_cmpR (op_neA hu64) (pe_cmp (pc_notN (pv 12))) (pv 11) (by first | exact nomark _ | rfl)) (pw_or1 (pt_cmpR (op_neA hu64) (pv 11) (pe_cmp (pc_notN (pe_call G_law_mrest (hr.mono (by first | exact Nat.le_refl _ | decide)) (by rfl) T.g_law_mrest T.F_law_mrest.kp T.b_law_mrest .nil pass0 (pa_cons (pv 3) (pa_cons (pv 6) (pa_cons (pv 7) (pa_nil))))))) (by first | exact nomark _ | rfl))))) (pss_one (ps_ret (pe_bl))) (pss_nil))
      (pss_cons (ps_if (pt_val (pv 11)) (pss_cons (ps_set (i := 13) sc.nd rfl (Or.inl rfl) (pe_callTy (call_dictA rfl) (by rfl) T.m_dict PyProof.Rows.boot_dict (pa_cons (pe_lc (own := [("hand", 20)]) rfl sc.nd (pi_seq (pv 9)) (blkOk_by (by rfl)) (fun _ _ _ _ _ => pg_name (i := 20) sc.nd rfl (Or.inl rfl)) (fun _ _ _ _ _ => pts_nil) (fun _ _ _ _ _ => pe_tup (pa_cons (pv 20) (pa_cons (pe_slice sl_any (pe_ix (ix_any hu) (pe_ix (ix_any hu) (pv 10) (pe_int) (fun _ _ => rfl)) (pv 20) (fun _ _ => rfl)) (po_some (pe_callB call_lenA (by rfl) T.m_len PySem.boot_len (pa_cons (pe_ix (ix_any hu) (pe_ix (ix_any hu) (pv 10) (pe_int) (fun _ _ => rfl)) (pv 20) (fun _ _ => rfl)) (pa_nil)))) (po_none)) (pa_nil))))) (pa_nil))))
      (pss_one (ps_if (pt_not (pt_val (pe_call G_law_same (hr.mono (by first | exact Nat.le_refl _ | decide)) (by rfl) T.g_law_same T.F_law_same.kp T.b_law_same .nil pass0 (pa_cons (pe_call G_joined (hr.mono (by first | exact Nat.le_refl _ | decide)) (by rfl) T.g_joined T.F_joined.kp T.b_joined .nil pass0 (pa_cons (pv 4) (pa_cons (pv 13) (pa_nil)))) (pa_cons (pe_tup (pa_cons (pe_str) (pa_cons (pv 12) (pa_nil)))) (pa_nil)))))) (pss_one (ps_ret (pe_bl))) (pss_nil)))) (pss_nil))
      (pss_cons (ps_set (i := 14) sc.nd rfl (Or.inl rfl) (pe_callTy (call_dictA rfl) (by rfl) T.m_dict PyProof.Rows.boot_dict (pa_cons (pe_lc (own := [("hand", 20)]) rfl sc.nd (pi_seq (pv 9)) (blkOk_by (by rfl)) (fun _ _ _ _ _ => pg_name (i := 20) sc.nd rfl (Or.inl rfl)) (fun _ _ _ _ _ => pts_nil) (fun _ _ _ _ _ => pe_tup (pa_cons (pv 20) (pa_cons (pe_op op_addA (pe_ix (ix_any hu) (pe_ix (ix_any hu) (pv 10) (pe_int) (fun _ _ => rfl)) (pv 20) (fun _ _ => rfl)) (pe_ix (ix_any hu) (pe_ix (ix_any hu) (pv 10) (pe_int) (fun _ _ => rfl)) (pv 20) (fun _ _ => rfl))) (pa_nil))))) (pa_nil))))
      (pss_cons (ps_if (pt_not (pt_val (pe_call G_law_same (hr.mono (by first | exact Nat.le_refl _ | decide)) (by rfl) T.g_law_same T.F_law_same.kp T.b_law_same .nil pass0 (pa_cons (pe_call G_joined (hr.mono (by first | exact Nat.le_refl _ | decide)) (by rfl) T.g_joined T.F_joined.kp T.b_joined .nil pass0 (pa_cons (pv 4) (pa_cons (pv 14) (pa_nil)))) (pa_cons (pe_tup (pa_cons (pe_str) (pa_cons (pe_call G_law_mleast (hr.mono (by first | exact Nat.le_refl _ | decide)) (by rfl) T.g_law_mleast T.F_law_mleast.kp T.b_law_mleast .nil pass0 (pa_cons (pv 3) (pa_cons (pe_op op_addA (pv 7) (pv 6)) (pa_nil)))) (pa_nil)))) (pa_nil)))))) (pss_one (ps_ret (pe_bl))) (pss_nil))
      (pss_cons (ps_set (i := 15) sc.nd rfl (Or.inl rfl) (pe_call G_common_begin (hr.mono (by first | exact Nat.le_refl _ | decide)) (by rfl) T.g_common_begin T.F_common_begin.kp T.b_common_begin .nil pass0 (pa_cons (pv 4) (pa_cons (pe_callTy (call_listA rfl) (by rfl) T.m_list PyProof.Rows.boot_list (pa_cons (pv 6) (pa_nil))) (pa_cons (pe_callTy (call_listA rfl) (by rfl) T.m_list PyProof.Rows.boot_list (pa_cons (pv 7) (pa_nil))) (pa_nil))))))
      (pss_cons (ps_set (i := 16) sc.nd rfl (Or.inr rfl) (pe_call G_logs_of (hr.mono (by first | exact Nat.le_refl _ | decide)) (by rfl) T.g_logs_of T.F_logs_of.kp T.b_logs_of .nil pass0 (pa_cons (pv 4) (pa_cons (pe_callTy (call_listA rfl) (by rfl) T.m_list PyProof.Rows.boot_list (pa_cons (pv 15) (pa_nil))) (pa_nil)))))
      (pss_cons (ps_if (pt_cmpR (op_neA hu64) (pe_lc (own := [("hand", 20), ("lot", 22)]) rfl sc.nd (pi_seq (pe_call G_law_mtwo (hr.mono (by first | exact Nat.le_refl _ | decide)) (by rfl) T.g_law_mtwo T.F_law_mtwo.kp T.b_law_mtwo .nil pass0 (pa_cons (pv 9) (pa_cons (pv 10) (pa_nil))))) (blkOk_by (by rfl)) (fun _ _ _ _ _ => pg_tup rfl (pgs_cons (pg_name (i := 20) sc.nd rfl (Or.inl rfl)) (pgs_cons (pg_name (i := 22) sc.nd rfl (Or.inl rfl)) (pgs_nil)))) (fun _ _ _ _ _ => pts_one (pt_cmpR (op_neA hu64) (pe_slice sl_any (pe_ix (ix_any hu) (pv 22) (pv 20) (fun _ _ => rfl)) (po_none) (po_some (pe_callB call_lenA (by rfl) T.m_len PySem.boot_len (pa_cons (pe_ix (ix_any hu) (pv 16) (pv 20) (fun _ _ => rfl)) (pa_nil))))) (pe_ix (ix_any hu) (pv 16) (pv 20) (fun _ _ => rfl)) (by first | exact nomark _ | rfl))) (fun _ _ _ _ _ => pv 20)) (pe_lst (pa_nil)) (by first | exact nomark _ | rfl)) (pss_one (ps_ret (pe_bl))) (pss_nil))
      (pss_cons (ps_set (i := 17) sc.nd rfl (Or.inl rfl) (pe_call G_continued (hr.mono (by first | exact Nat.le_refl _ | decide)) (by rfl) T.g_continued T.F_continued.kp T.b_continued .nil pass0 (pa_cons (pv 4) (pa_cons (pe_callTy (call_listA rfl) (by rfl) T.m_list PyProof.Rows.boot_list (pa_cons (pv 6) (pa_nil))) (pa_cons (pe_callTy (call_listA rfl) (by rfl) T.m_list PyProof.Rows.boot_list (pa_cons (pv 7) (pa_nil))) (pa_nil))))))
      (pss_one (ps_if (pt_cmpR (op_eqA hu64) (pe_ix (ix_any hu) (pv 17) (pe_int) (fun _ _ => rfl)) (pe_str) (by first | exact nomark _ | rfl)) (pss_cons (ps_set (i := 18) sc.nd rfl (Or.inr rfl) (pe_call G_logs_of (hr.mono (by first | exact Nat.le_refl _ | decide)) (by rfl) T.g_logs_of T.F_logs_of.kp T.b_logs_of .nil pass0 (pa_cons (pv 4) (pa_cons (pe_callTy (call_listA rfl) (by rfl) T.m_list PyProof.Rows.boot_list (pa_cons (pe_ix (ix_any hu) (pv 17) (pe_int) (fun _ _ => rfl)) (pa_nil))) (pa_nil)))))
      (pss_one (ps_if (pt_cmpR (op_neA hu64) (pe_lc (own := [("hand", 20), ("lot", 22)]) rfl sc.nd (pi_seq (pe_call G_law_mtwo (hr.mono (by first | exact Nat.le_refl _ | decide)) (by rfl) T.g_law_mtwo T.F_law_mtwo.kp T.b_law_mtwo .nil pass0 (pa_cons (pv 9) (pa_cons (pv 10) (pa_nil))))) (blkOk_by (by rfl)) (fun _ _ _ _ _ => pg_tup rfl (pgs_cons (pg_name (i := 20) sc.nd rfl (Or.inl rfl)) (pgs_cons (pg_name (i := 22) sc.nd rfl (Or.inl rfl)) (pgs_nil)))) (fun _ _ _ _ _ => pts_one (pt_cmpR (op_neA hu64) (pe_slice sl_any (pe_ix (ix_any hu) (pv 18) (pv 20) (fun _ _ => rfl)) (po_none) (po_some (pe_callB call_lenA (by rfl) T.m_len PySem.boot_len (pa_cons (pe_ix (ix_any hu) (pv 22) (pv 20) (fun _ _ => rfl)) (pa_nil))))) (pe_ix (ix_any hu) (pv 22) (pv 20) (fun _ _ => rfl)) (by first | exact nomark _ | rfl))) (fun _ _ _ _ _ => pv 20)) (pe_lst (pa_nil)) (by first | exact nomark _ | rfl)) (pss_one (ps_ret (pe_bl))) (pss_nil)))) (pss_nil)))))))))))))))))))))))))
      (pss_one (ps_ret (pe_bl))))
end
end K61

set_option Elab.async false
set_option linter.all false
set_option maxRecDepth 100000
namespace K61
open PySem PySem.Spec L2 DL
theorem hO_s (s : Sq) (K : PySem.W.Frag) (G H : Hp) (v : V) (fp : List Addr) (h : (ownS s).R K G H v fp) : v = .ref s.p ∧ fp.Nodup := by
  obtain ⟨ns, a, c, m, e1, e2, e0, _⟩ := h
  exact ⟨e1, by rw [e2]; simp [e0]⟩
def spLaw (K : PySem.W.Frag) : Sp := spP K preLaw postTrue
theorem law_end {K : PySem.W.Frag} {H : Hp} {a : Addr} {ns : List Int} (hS : SqL K H a (ns.map V.int)) (hl : ns.length ≤ 63) : spLaw K [.ref a] H (fun v _ => v = .bl true) fun _ _ _ => False :=
  ⟨H, [.kl (ns.map D.int)], Ex.refl H, ⟨.ref a, [], rfl, ⟨a, _, rfl, hS, reps_ints.mpr rfl⟩, rfl⟩, ⟨ns, rfl, hl⟩, fun d v G' H' hd _ _ _ _ _ r => by cases hd; exact r⟩
theorem hA_law_below (s : Sq) (ds : List D) (s' : Sq) (d : D) (_ : preBelow s ds) (h : postBelow s ds s' d) : s'.p = s.p := by rw [h.1]; rfl
theorem hA_law_pick (s : Sq) (ds : List D) (s' : Sq) (d : D) (_ : prePick s ds) (h : postPick s ds s' d) : s'.p = s.p := by rw [h.1]; rfl
theorem hA_law_mixed (s : Sq) (ds : List D) (s' : Sq) (d : D) (hp : preMixed s ds) (h : postMixed s ds s' d) : s'.p = s.p := by
  obtain ⟨_, xs, e, _⟩ := hp
  rw [(h xs e).1]; rfl
theorem hA_law_mcrew (s : Sq) (ds : List D) (s' : Sq) (d : D) (_ : preMcrew s ds) (h : postMcrew s ds s' d) : s'.p = s.p := by
  obtain ⟨⟨k, _, e⟩, _⟩ := h
  rw [e]; rfl
theorem hA_law_mrow (s : Sq) (ds : List D) (s' : Sq) (d : D) (hp : preMrow s ds) (h : postMrow s ds s' d) : s'.p = s.p := by
  obtain ⟨_, cr, m, G, e, _⟩ := hp
  obtain ⟨l, _, _, _, e2⟩ := h cr m G e
  rw [e2]; rfl
theorem hA_law_mshuffled (s : Sq) (ds : List D) (s' : Sq) (d : D) (hp : preMsh s ds) (h : postMsh s ds s' d) : s'.p = s.p := by
  obtain ⟨_, cr, l, G, e, _⟩ := hp
  rw [(h cr l G e).1]; rfl
section
variable {P : Program} {w : World} {K : PySem.W.Frag} {mg : Str → Option Value} {base : Heap} {A : Ad}
theorem ok_is_word (Q : CrewOk K A) (T : Tx K mg A) : FnOk P w K mg base CX0 1 A.a_is_word A.fd_is_word ["thing"] (sp_is_word K) :=
  fn_pure T.F_is_word sc_is_word (fun ds h => by first | (obtain ⟨rfl⟩ := h; rfl) | (obtain ⟨rfl, _⟩ := h; rfl) | (obtain ⟨_, rfl⟩ := h; rfl) | (obtain ⟨_, rfl, _⟩ := h; rfl) | (obtain ⟨_, _, rfl⟩ := h; rfl) | (obtain ⟨_, _, rfl, _⟩ := h; rfl) | (obtain ⟨_, _, _, rfl⟩ := h; rfl) | (obtain ⟨_, _, _, rfl, _⟩ := h; rfl) | (obtain ⟨_, _, _, _, rfl⟩ := h; rfl) | (obtain ⟨_, _, _, _, rfl, _⟩ := h; rfl) | (obtain ⟨_, _, _, _, _, rfl⟩ := h; rfl) | (obtain ⟨_, _, _, _, _, rfl, _⟩ := h; rfl) | (obtain ⟨_, _, _, _, _, _, rfl⟩ := h; rfl) | (obtain ⟨_, _, _, _, _, _, rfl, _⟩ := h; rfl)) (fun cdv A0 outer s H E ds hr hp => ⟨t_is_word K A, p_is_word T cdv A0 outer s H E hr, w_is_word hp⟩)
theorem ok_is_name (Q : CrewOk K A) (T : Tx K mg A) : FnOk P w K mg base CX0 2 A.a_is_name A.fd_is_name ["thing"] (sp_is_name K) :=
  fn_pure T.F_is_name sc_is_name (fun ds h => by first | (obtain ⟨rfl⟩ := h; rfl) | (obtain ⟨rfl, _⟩ := h; rfl) | (obtain ⟨_, rfl⟩ := h; rfl) | (obtain ⟨_, rfl, _⟩ := h; rfl) | (obtain ⟨_, _, rfl⟩ := h; rfl) | (obtain ⟨_, _, rfl, _⟩ := h; rfl) | (obtain ⟨_, _, _, rfl⟩ := h; rfl) | (obtain ⟨_, _, _, rfl, _⟩ := h; rfl) | (obtain ⟨_, _, _, _, rfl⟩ := h; rfl) | (obtain ⟨_, _, _, _, rfl, _⟩ := h; rfl) | (obtain ⟨_, _, _, _, _, rfl⟩ := h; rfl) | (obtain ⟨_, _, _, _, _, rfl, _⟩ := h; rfl) | (obtain ⟨_, _, _, _, _, _, rfl⟩ := h; rfl) | (obtain ⟨_, _, _, _, _, _, rfl, _⟩ := h; rfl)) (fun cdv A0 outer s H E ds hr hp => ⟨t_is_name K A (sp_is_word K), p_is_name T (ok_is_word Q T) cdv A0 outer s H E hr, w_is_name hp⟩)
theorem ok_are_hands (Q : CrewOk K A) (T : Tx K mg A) : FnOk P w K mg base CX0 3 A.a_are_hands A.fd_are_hands ["thing"] (sp_are_hands K) :=
  fn_pure T.F_are_hands sc_are_hands (fun ds h => by first | (obtain ⟨rfl⟩ := h; rfl) | (obtain ⟨rfl, _⟩ := h; rfl) | (obtain ⟨_, rfl⟩ := h; rfl) | (obtain ⟨_, rfl, _⟩ := h; rfl) | (obtain ⟨_, _, rfl⟩ := h; rfl) | (obtain ⟨_, _, rfl, _⟩ := h; rfl) | (obtain ⟨_, _, _, rfl⟩ := h; rfl) | (obtain ⟨_, _, _, rfl, _⟩ := h; rfl) | (obtain ⟨_, _, _, _, rfl⟩ := h; rfl) | (obtain ⟨_, _, _, _, rfl, _⟩ := h; rfl) | (obtain ⟨_, _, _, _, _, rfl⟩ := h; rfl) | (obtain ⟨_, _, _, _, _, rfl, _⟩ := h; rfl) | (obtain ⟨_, _, _, _, _, _, rfl⟩ := h; rfl) | (obtain ⟨_, _, _, _, _, _, rfl, _⟩ := h; rfl)) (fun cdv A0 outer s H E ds hr hp => ⟨t_are_hands K A (sp_is_name K), p_are_hands T (ok_is_name Q T) cdv A0 outer s H E hr, w_are_hands hp⟩)
theorem ok_are_deeds (Q : CrewOk K A) (T : Tx K mg A) : FnOk P w K mg base CX0 4 A.a_are_deeds A.fd_are_deeds ["thing"] (sp_are_deeds K) :=
  fn_pure T.F_are_deeds sc_are_deeds (fun ds h => by first | (obtain ⟨rfl⟩ := h; rfl) | (obtain ⟨rfl, _⟩ := h; rfl) | (obtain ⟨_, rfl⟩ := h; rfl) | (obtain ⟨_, rfl, _⟩ := h; rfl) | (obtain ⟨_, _, rfl⟩ := h; rfl) | (obtain ⟨_, _, rfl, _⟩ := h; rfl) | (obtain ⟨_, _, _, rfl⟩ := h; rfl) | (obtain ⟨_, _, _, rfl, _⟩ := h; rfl) | (obtain ⟨_, _, _, _, rfl⟩ := h; rfl) | (obtain ⟨_, _, _, _, rfl, _⟩ := h; rfl) | (obtain ⟨_, _, _, _, _, rfl⟩ := h; rfl) | (obtain ⟨_, _, _, _, _, rfl, _⟩ := h; rfl) | (obtain ⟨_, _, _, _, _, _, rfl⟩ := h; rfl) | (obtain ⟨_, _, _, _, _, _, rfl, _⟩ := h; rfl)) (fun cdv A0 outer s H E ds hr hp => ⟨t_are_deeds K A (sp_is_name K) (sp_are_hands K), p_are_deeds T (ok_is_name Q T) (ok_are_hands Q T) cdv A0 outer s H E hr, w_are_deeds hp⟩)
theorem ok_Crew_init (Q : CrewOk K A) (T : Tx K mg A) : FnOk P w K mg base CX0 5 A.a_Crew_init A.fd_Crew_init ["self", "deeds"] (sp_Crew_init K A) :=
  fn_strP T.F_Crew_init sc_Crew_init (fun s : Addr × List (Str × D) => s.1) (fun s ds h => by obtain ⟨_, _, _, rfl⟩ := h; rfl) (fun s K G H v fp h => by obtain ⟨dx, ws, e1, e2, _⟩ := h; exact ⟨e1, by rw [e2]; simp⟩) (fun s ds s' d _ h => h.2.1) (fun cdv A0 outer s H E st0 ds hr hp => ⟨t_Crew_init K A (sp_are_deeds K), p_Crew_init T (ok_are_deeds Q T) cdv A0 outer s H E hr, w_Crew_init Q hp⟩)
theorem ok_apart (Q : CrewOk K A) (T : Tx K mg A) : FnOk P w K mg base CX0 1 A.a_apart A.fd_apart ["crew", "deed", "other"] (sp_apart K A) :=
  fn_pure T.F_apart sc_apart (fun ds h => by first | (obtain ⟨rfl⟩ := h; rfl) | (obtain ⟨rfl, _⟩ := h; rfl) | (obtain ⟨_, rfl⟩ := h; rfl) | (obtain ⟨_, rfl, _⟩ := h; rfl) | (obtain ⟨_, _, rfl⟩ := h; rfl) | (obtain ⟨_, _, rfl, _⟩ := h; rfl) | (obtain ⟨_, _, _, rfl⟩ := h; rfl) | (obtain ⟨_, _, _, rfl, _⟩ := h; rfl) | (obtain ⟨_, _, _, _, rfl⟩ := h; rfl) | (obtain ⟨_, _, _, _, rfl, _⟩ := h; rfl) | (obtain ⟨_, _, _, _, _, rfl⟩ := h; rfl) | (obtain ⟨_, _, _, _, _, rfl, _⟩ := h; rfl) | (obtain ⟨_, _, _, _, _, _, rfl⟩ := h; rfl) | (obtain ⟨_, _, _, _, _, _, rfl, _⟩ := h; rfl)) (fun cdv A0 outer s H E ds hr hp => ⟨t_apart K A, p_apart T cdv A0 outer s H E hr, w_apart Q hp⟩)
theorem ok_need_crew (Q : CrewOk K A) (T : Tx K mg A) : FnOk P w K mg base CX0 1 A.a_need_crew A.fd_need_crew ["crew"] (sp_need_crew K A) :=
  fn_pure T.F_need_crew sc_need_crew (fun ds h => by first | (obtain ⟨rfl⟩ := h; rfl) | (obtain ⟨rfl, _⟩ := h; rfl) | (obtain ⟨_, rfl⟩ := h; rfl) | (obtain ⟨_, rfl, _⟩ := h; rfl) | (obtain ⟨_, _, rfl⟩ := h; rfl) | (obtain ⟨_, _, rfl, _⟩ := h; rfl) | (obtain ⟨_, _, _, rfl⟩ := h; rfl) | (obtain ⟨_, _, _, rfl, _⟩ := h; rfl) | (obtain ⟨_, _, _, _, rfl⟩ := h; rfl) | (obtain ⟨_, _, _, _, rfl, _⟩ := h; rfl) | (obtain ⟨_, _, _, _, _, rfl⟩ := h; rfl) | (obtain ⟨_, _, _, _, _, rfl, _⟩ := h; rfl) | (obtain ⟨_, _, _, _, _, _, rfl⟩ := h; rfl) | (obtain ⟨_, _, _, _, _, _, rfl, _⟩ := h; rfl)) (fun cdv A0 outer s H E ds hr hp => ⟨t_need_crew K A, p_need_crew T cdv A0 outer s H E hr, w_need_crew Q hp⟩)
theorem ok_is_row (Q : CrewOk K A) (T : Tx K mg A) : FnOk P w K mg base CX0 1 A.a_is_row A.fd_is_row ["crew", "thing"] (sp_is_row K A) :=
  fn_pure T.F_is_row sc_is_row (fun ds h => by first | (obtain ⟨rfl⟩ := h; rfl) | (obtain ⟨rfl, _⟩ := h; rfl) | (obtain ⟨_, rfl⟩ := h; rfl) | (obtain ⟨_, rfl, _⟩ := h; rfl) | (obtain ⟨_, _, rfl⟩ := h; rfl) | (obtain ⟨_, _, rfl, _⟩ := h; rfl) | (obtain ⟨_, _, _, rfl⟩ := h; rfl) | (obtain ⟨_, _, _, rfl, _⟩ := h; rfl) | (obtain ⟨_, _, _, _, rfl⟩ := h; rfl) | (obtain ⟨_, _, _, _, rfl, _⟩ := h; rfl) | (obtain ⟨_, _, _, _, _, rfl⟩ := h; rfl) | (obtain ⟨_, _, _, _, _, rfl, _⟩ := h; rfl) | (obtain ⟨_, _, _, _, _, _, rfl⟩ := h; rfl) | (obtain ⟨_, _, _, _, _, _, rfl, _⟩ := h; rfl)) (fun cdv A0 outer s H E ds hr hp => ⟨t_is_row K A, p_is_row T cdv A0 outer s H E hr, w_is_row Q hp⟩)
theorem ok_need_row (Q : CrewOk K A) (T : Tx K mg A) : FnOk P w K mg base CX0 2 A.a_need_row A.fd_need_row ["crew", "row"] (sp_need_row K A) :=
  fn_pure T.F_need_row sc_need_row (fun ds h => by first | (obtain ⟨rfl⟩ := h; rfl) | (obtain ⟨rfl, _⟩ := h; rfl) | (obtain ⟨_, rfl⟩ := h; rfl) | (obtain ⟨_, rfl, _⟩ := h; rfl) | (obtain ⟨_, _, rfl⟩ := h; rfl) | (obtain ⟨_, _, rfl, _⟩ := h; rfl) | (obtain ⟨_, _, _, rfl⟩ := h; rfl) | (obtain ⟨_, _, _, rfl, _⟩ := h; rfl) | (obtain ⟨_, _, _, _, rfl⟩ := h; rfl) | (obtain ⟨_, _, _, _, rfl, _⟩ := h; rfl) | (obtain ⟨_, _, _, _, _, rfl⟩ := h; rfl) | (obtain ⟨_, _, _, _, _, rfl, _⟩ := h; rfl) | (obtain ⟨_, _, _, _, _, _, rfl⟩ := h; rfl) | (obtain ⟨_, _, _, _, _, _, rfl, _⟩ := h; rfl)) (fun cdv A0 outer s H E ds hr hp => ⟨t_need_row K A (sp_is_row K A) (sp_need_crew K A), p_need_row T (ok_is_row Q T) (ok_need_crew Q T) cdv A0 outer s H E hr, w_need_row Q hp⟩)
theorem ok_need_second (Q : CrewOk K A) (T : Tx K mg A) : FnOk P w K mg base CX0 2 A.a_need_second A.fd_need_second ["crew", "second"] (sp_need_second K A) :=
  fn_pure T.F_need_second sc_need_second (fun ds h => by first | (obtain ⟨rfl⟩ := h; rfl) | (obtain ⟨rfl, _⟩ := h; rfl) | (obtain ⟨_, rfl⟩ := h; rfl) | (obtain ⟨_, rfl, _⟩ := h; rfl) | (obtain ⟨_, _, rfl⟩ := h; rfl) | (obtain ⟨_, _, rfl, _⟩ := h; rfl) | (obtain ⟨_, _, _, rfl⟩ := h; rfl) | (obtain ⟨_, _, _, rfl, _⟩ := h; rfl) | (obtain ⟨_, _, _, _, rfl⟩ := h; rfl) | (obtain ⟨_, _, _, _, rfl, _⟩ := h; rfl) | (obtain ⟨_, _, _, _, _, rfl⟩ := h; rfl) | (obtain ⟨_, _, _, _, _, rfl, _⟩ := h; rfl) | (obtain ⟨_, _, _, _, _, _, rfl⟩ := h; rfl) | (obtain ⟨_, _, _, _, _, _, rfl, _⟩ := h; rfl)) (fun cdv A0 outer s H E ds hr hp => ⟨t_need_second K A (sp_is_row K A), p_need_second T (ok_is_row Q T) cdv A0 outer s H E hr, w_need_second Q hp⟩)
theorem ok_seen_by (Q : CrewOk K A) (T : Tx K mg A) : FnOk P w K mg base CX0 1 A.a_seen_by A.fd_seen_by ["crew", "row", "hand"] (sp_seen_by K A) :=
  fn_pure T.F_seen_by sc_seen_by (fun ds h => by first | (obtain ⟨rfl⟩ := h; rfl) | (obtain ⟨rfl, _⟩ := h; rfl) | (obtain ⟨_, rfl⟩ := h; rfl) | (obtain ⟨_, rfl, _⟩ := h; rfl) | (obtain ⟨_, _, rfl⟩ := h; rfl) | (obtain ⟨_, _, rfl, _⟩ := h; rfl) | (obtain ⟨_, _, _, rfl⟩ := h; rfl) | (obtain ⟨_, _, _, rfl, _⟩ := h; rfl) | (obtain ⟨_, _, _, _, rfl⟩ := h; rfl) | (obtain ⟨_, _, _, _, rfl, _⟩ := h; rfl) | (obtain ⟨_, _, _, _, _, rfl⟩ := h; rfl) | (obtain ⟨_, _, _, _, _, rfl, _⟩ := h; rfl) | (obtain ⟨_, _, _, _, _, _, rfl⟩ := h; rfl) | (obtain ⟨_, _, _, _, _, _, rfl, _⟩ := h; rfl)) (fun cdv A0 outer s H E ds hr hp => ⟨t_seen_by K A, p_seen_by T cdv A0 outer s H E hr, w_seen_by Q hp⟩)
theorem ok_least_of (Q : CrewOk K A) (T : Tx K mg A) : FnOk P w K mg base CX0 2 A.a_least_of A.fd_least_of ["crew", "row"] (sp_least_of K A) :=
  fn_pure T.F_least_of sc_least_of (fun ds h => by first | (obtain ⟨rfl⟩ := h; rfl) | (obtain ⟨rfl, _⟩ := h; rfl) | (obtain ⟨_, rfl⟩ := h; rfl) | (obtain ⟨_, rfl, _⟩ := h; rfl) | (obtain ⟨_, _, rfl⟩ := h; rfl) | (obtain ⟨_, _, rfl, _⟩ := h; rfl) | (obtain ⟨_, _, _, rfl⟩ := h; rfl) | (obtain ⟨_, _, _, rfl, _⟩ := h; rfl) | (obtain ⟨_, _, _, _, rfl⟩ := h; rfl) | (obtain ⟨_, _, _, _, rfl, _⟩ := h; rfl) | (obtain ⟨_, _, _, _, _, rfl⟩ := h; rfl) | (obtain ⟨_, _, _, _, _, rfl, _⟩ := h; rfl) | (obtain ⟨_, _, _, _, _, _, rfl⟩ := h; rfl) | (obtain ⟨_, _, _, _, _, _, rfl, _⟩ := h; rfl)) (fun cdv A0 outer s H E ds hr hp => ⟨t_least_of K A (sp_seen_by K A), p_least_of T (ok_seen_by Q T) cdv A0 outer s H E hr, w_least_of Q hp⟩)
theorem ok_taken (Q : CrewOk K A) (T : Tx K mg A) : FnOk P w K mg base CX0 2 A.a_taken A.fd_taken ["crew", "row", "deed"] (sp_taken K A) :=
  fn_pure T.F_taken sc_taken (fun ds h => by first | (obtain ⟨rfl⟩ := h; rfl) | (obtain ⟨rfl, _⟩ := h; rfl) | (obtain ⟨_, rfl⟩ := h; rfl) | (obtain ⟨_, rfl, _⟩ := h; rfl) | (obtain ⟨_, _, rfl⟩ := h; rfl) | (obtain ⟨_, _, rfl, _⟩ := h; rfl) | (obtain ⟨_, _, _, rfl⟩ := h; rfl) | (obtain ⟨_, _, _, rfl, _⟩ := h; rfl) | (obtain ⟨_, _, _, _, rfl⟩ := h; rfl) | (obtain ⟨_, _, _, _, rfl, _⟩ := h; rfl) | (obtain ⟨_, _, _, _, _, rfl⟩ := h; rfl) | (obtain ⟨_, _, _, _, _, rfl, _⟩ := h; rfl) | (obtain ⟨_, _, _, _, _, _, rfl⟩ := h; rfl) | (obtain ⟨_, _, _, _, _, _, rfl, _⟩ := h; rfl)) (fun cdv A0 outer s H E ds hr hp => ⟨t_taken K A (sp_apart K A), p_taken T (ok_apart Q T) cdv A0 outer s H E hr, w_taken Q hp⟩)
theorem ok_rest_by (Q : CrewOk K A) (T : Tx K mg A) : FnOk P w K mg base CX0 3 A.a_rest_by A.fd_rest_by ["crew", "row", "second"] (sp_rest_by K A) :=
  fn_pure T.F_rest_by sc_rest_by (fun ds h => by first | (obtain ⟨rfl⟩ := h; rfl) | (obtain ⟨rfl, _⟩ := h; rfl) | (obtain ⟨_, rfl⟩ := h; rfl) | (obtain ⟨_, rfl, _⟩ := h; rfl) | (obtain ⟨_, _, rfl⟩ := h; rfl) | (obtain ⟨_, _, rfl, _⟩ := h; rfl) | (obtain ⟨_, _, _, rfl⟩ := h; rfl) | (obtain ⟨_, _, _, rfl, _⟩ := h; rfl) | (obtain ⟨_, _, _, _, rfl⟩ := h; rfl) | (obtain ⟨_, _, _, _, rfl, _⟩ := h; rfl) | (obtain ⟨_, _, _, _, _, rfl⟩ := h; rfl) | (obtain ⟨_, _, _, _, _, rfl, _⟩ := h; rfl) | (obtain ⟨_, _, _, _, _, _, rfl⟩ := h; rfl) | (obtain ⟨_, _, _, _, _, _, rfl, _⟩ := h; rfl)) (fun cdv A0 outer s H E ds hr hp => ⟨t_rest_by K A (sp_taken K A), p_rest_by T (ok_taken Q T) cdv A0 outer s H E hr, w_rest_by Q hp⟩)
theorem ok_begun (Q : CrewOk K A) (T : Tx K mg A) : FnOk P w K mg base CX0 3 A.a_begun A.fd_begun ["crew", "row", "second"] (sp_begun K A) :=
  fn_pure T.F_begun sc_begun (fun ds h => by first | (obtain ⟨rfl⟩ := h; rfl) | (obtain ⟨rfl, _⟩ := h; rfl) | (obtain ⟨_, rfl⟩ := h; rfl) | (obtain ⟨_, rfl, _⟩ := h; rfl) | (obtain ⟨_, _, rfl⟩ := h; rfl) | (obtain ⟨_, _, rfl, _⟩ := h; rfl) | (obtain ⟨_, _, _, rfl⟩ := h; rfl) | (obtain ⟨_, _, _, rfl, _⟩ := h; rfl) | (obtain ⟨_, _, _, _, rfl⟩ := h; rfl) | (obtain ⟨_, _, _, _, rfl, _⟩ := h; rfl) | (obtain ⟨_, _, _, _, _, rfl⟩ := h; rfl) | (obtain ⟨_, _, _, _, _, rfl, _⟩ := h; rfl) | (obtain ⟨_, _, _, _, _, _, rfl⟩ := h; rfl) | (obtain ⟨_, _, _, _, _, _, rfl, _⟩ := h; rfl)) (fun cdv A0 outer s H E ds hr hp => ⟨t_begun K A (sp_taken K A), p_begun T (ok_taken Q T) cdv A0 outer s H E hr, w_begun Q hp⟩)
theorem ok_told (Q : CrewOk K A) (T : Tx K mg A) : FnOk P w K mg base CX0 3 A.a_told A.fd_told ["crew", "row"] (sp_told K A) :=
  fn_pure T.F_told sc_told (fun ds h => by first | (obtain ⟨rfl⟩ := h; rfl) | (obtain ⟨rfl, _⟩ := h; rfl) | (obtain ⟨_, rfl⟩ := h; rfl) | (obtain ⟨_, rfl, _⟩ := h; rfl) | (obtain ⟨_, _, rfl⟩ := h; rfl) | (obtain ⟨_, _, rfl, _⟩ := h; rfl) | (obtain ⟨_, _, _, rfl⟩ := h; rfl) | (obtain ⟨_, _, _, rfl, _⟩ := h; rfl) | (obtain ⟨_, _, _, _, rfl⟩ := h; rfl) | (obtain ⟨_, _, _, _, rfl, _⟩ := h; rfl) | (obtain ⟨_, _, _, _, _, rfl⟩ := h; rfl) | (obtain ⟨_, _, _, _, _, rfl, _⟩ := h; rfl) | (obtain ⟨_, _, _, _, _, _, rfl⟩ := h; rfl) | (obtain ⟨_, _, _, _, _, _, rfl, _⟩ := h; rfl)) (fun cdv A0 outer s H E ds hr hp => ⟨t_told K A (sp_least_of K A), p_told T (ok_least_of Q T) cdv A0 outer s H E hr, w_told Q hp⟩)
theorem ok_rest_of (Q : CrewOk K A) (T : Tx K mg A) : FnOk P w K mg base CX0 4 A.a_rest_of A.fd_rest_of ["crew", "row", "second"] (sp_rest_of K A) :=
  fn_pure T.F_rest_of sc_rest_of (fun ds h => by first | (obtain ⟨rfl⟩ := h; rfl) | (obtain ⟨rfl, _⟩ := h; rfl) | (obtain ⟨_, rfl⟩ := h; rfl) | (obtain ⟨_, rfl, _⟩ := h; rfl) | (obtain ⟨_, _, rfl⟩ := h; rfl) | (obtain ⟨_, _, rfl, _⟩ := h; rfl) | (obtain ⟨_, _, _, rfl⟩ := h; rfl) | (obtain ⟨_, _, _, rfl, _⟩ := h; rfl) | (obtain ⟨_, _, _, _, rfl⟩ := h; rfl) | (obtain ⟨_, _, _, _, rfl, _⟩ := h; rfl) | (obtain ⟨_, _, _, _, _, rfl⟩ := h; rfl) | (obtain ⟨_, _, _, _, _, rfl, _⟩ := h; rfl) | (obtain ⟨_, _, _, _, _, _, rfl⟩ := h; rfl) | (obtain ⟨_, _, _, _, _, _, rfl, _⟩ := h; rfl)) (fun cdv A0 outer s H E ds hr hp => ⟨t_rest_of K A (sp_need_second K A) (sp_need_row K A) (sp_told K A) (sp_rest_by K A), p_rest_of T (ok_need_second Q T) (ok_need_row Q T) (ok_told Q T) (ok_rest_by Q T) cdv A0 outer s H E hr, w_rest_of Q hp⟩)
theorem ok_common_begin (Q : CrewOk K A) (T : Tx K mg A) : FnOk P w K mg base CX0 4 A.a_common_begin A.fd_common_begin ["crew", "row", "second"] (sp_common_begin K A) :=
  fn_pure T.F_common_begin sc_common_begin (fun ds h => by first | (obtain ⟨rfl⟩ := h; rfl) | (obtain ⟨rfl, _⟩ := h; rfl) | (obtain ⟨_, rfl⟩ := h; rfl) | (obtain ⟨_, rfl, _⟩ := h; rfl) | (obtain ⟨_, _, rfl⟩ := h; rfl) | (obtain ⟨_, _, rfl, _⟩ := h; rfl) | (obtain ⟨_, _, _, rfl⟩ := h; rfl) | (obtain ⟨_, _, _, rfl, _⟩ := h; rfl) | (obtain ⟨_, _, _, _, rfl⟩ := h; rfl) | (obtain ⟨_, _, _, _, rfl, _⟩ := h; rfl) | (obtain ⟨_, _, _, _, _, rfl⟩ := h; rfl) | (obtain ⟨_, _, _, _, _, rfl, _⟩ := h; rfl) | (obtain ⟨_, _, _, _, _, _, rfl⟩ := h; rfl) | (obtain ⟨_, _, _, _, _, _, rfl, _⟩ := h; rfl)) (fun cdv A0 outer s H E ds hr hp => ⟨t_common_begin K A (sp_need_second K A) (sp_need_row K A) (sp_told K A) (sp_begun K A), p_common_begin T (ok_need_second Q T) (ok_need_row Q T) (ok_told Q T) (ok_begun Q T) cdv A0 outer s H E hr, w_common_begin Q hp⟩)
theorem ok_continued (Q : CrewOk K A) (T : Tx K mg A) : FnOk P w K mg base CX0 4 A.a_continued A.fd_continued ["crew", "row", "second"] (sp_continued K A) :=
  fn_pure T.F_continued sc_continued (fun ds h => by first | (obtain ⟨rfl⟩ := h; rfl) | (obtain ⟨rfl, _⟩ := h; rfl) | (obtain ⟨_, rfl⟩ := h; rfl) | (obtain ⟨_, rfl, _⟩ := h; rfl) | (obtain ⟨_, _, rfl⟩ := h; rfl) | (obtain ⟨_, _, rfl, _⟩ := h; rfl) | (obtain ⟨_, _, _, rfl⟩ := h; rfl) | (obtain ⟨_, _, _, rfl, _⟩ := h; rfl) | (obtain ⟨_, _, _, _, rfl⟩ := h; rfl) | (obtain ⟨_, _, _, _, rfl, _⟩ := h; rfl) | (obtain ⟨_, _, _, _, _, rfl⟩ := h; rfl) | (obtain ⟨_, _, _, _, _, rfl, _⟩ := h; rfl) | (obtain ⟨_, _, _, _, _, _, rfl⟩ := h; rfl) | (obtain ⟨_, _, _, _, _, _, rfl, _⟩ := h; rfl)) (fun cdv A0 outer s H E ds hr hp => ⟨t_continued K A (sp_need_second K A) (sp_need_row K A) (sp_begun K A) (sp_least_of K A) (sp_apart K A) (sp_told K A), p_continued T (ok_need_second Q T) (ok_need_row Q T) (ok_begun Q T) (ok_least_of Q T) (ok_apart Q T) (ok_told Q T) cdv A0 outer s H E hr, w_continued Q hp⟩)
theorem ok_logs_of (Q : CrewOk K A) (T : Tx K mg A) : FnOk P w K mg base CX0 3 A.a_logs_of A.fd_logs_of ["crew", "row"] (sp_logs_of K A) :=
  fn_pure T.F_logs_of sc_logs_of (fun ds h => by first | (obtain ⟨rfl⟩ := h; rfl) | (obtain ⟨rfl, _⟩ := h; rfl) | (obtain ⟨_, rfl⟩ := h; rfl) | (obtain ⟨_, rfl, _⟩ := h; rfl) | (obtain ⟨_, _, rfl⟩ := h; rfl) | (obtain ⟨_, _, rfl, _⟩ := h; rfl) | (obtain ⟨_, _, _, rfl⟩ := h; rfl) | (obtain ⟨_, _, _, rfl, _⟩ := h; rfl) | (obtain ⟨_, _, _, _, rfl⟩ := h; rfl) | (obtain ⟨_, _, _, _, rfl, _⟩ := h; rfl) | (obtain ⟨_, _, _, _, _, rfl⟩ := h; rfl) | (obtain ⟨_, _, _, _, _, rfl, _⟩ := h; rfl) | (obtain ⟨_, _, _, _, _, _, rfl⟩ := h; rfl) | (obtain ⟨_, _, _, _, _, _, rfl, _⟩ := h; rfl)) (fun cdv A0 outer s H E ds hr hp => ⟨t_logs_of K A (sp_need_row K A) (sp_seen_by K A), p_logs_of T (ok_need_row Q T) (ok_seen_by Q T) cdv A0 outer s H E hr, w_logs_of Q hp⟩)
theorem ok_is_log (Q : CrewOk K A) (T : Tx K mg A) : FnOk P w K mg base CX0 1 A.a_is_log A.fd_is_log ["crew", "hand", "thing"] (sp_is_log K A) :=
  fn_pure T.F_is_log sc_is_log (fun ds h => by first | (obtain ⟨rfl⟩ := h; rfl) | (obtain ⟨rfl, _⟩ := h; rfl) | (obtain ⟨_, rfl⟩ := h; rfl) | (obtain ⟨_, rfl, _⟩ := h; rfl) | (obtain ⟨_, _, rfl⟩ := h; rfl) | (obtain ⟨_, _, rfl, _⟩ := h; rfl) | (obtain ⟨_, _, _, rfl⟩ := h; rfl) | (obtain ⟨_, _, _, rfl, _⟩ := h; rfl) | (obtain ⟨_, _, _, _, rfl⟩ := h; rfl) | (obtain ⟨_, _, _, _, rfl, _⟩ := h; rfl) | (obtain ⟨_, _, _, _, _, rfl⟩ := h; rfl) | (obtain ⟨_, _, _, _, _, rfl, _⟩ := h; rfl) | (obtain ⟨_, _, _, _, _, _, rfl⟩ := h; rfl) | (obtain ⟨_, _, _, _, _, _, rfl, _⟩ := h; rfl)) (fun cdv A0 outer s H E ds hr hp => ⟨t_is_log K A, p_is_log T cdv A0 outer s H E hr, w_is_log Q hp⟩)
theorem ok_are_logs (Q : CrewOk K A) (T : Tx K mg A) : FnOk P w K mg base CX0 2 A.a_are_logs A.fd_are_logs ["crew", "logs"] (sp_are_logs K A) :=
  fn_pure T.F_are_logs sc_are_logs (fun ds h => by first | (obtain ⟨rfl⟩ := h; rfl) | (obtain ⟨rfl, _⟩ := h; rfl) | (obtain ⟨_, rfl⟩ := h; rfl) | (obtain ⟨_, rfl, _⟩ := h; rfl) | (obtain ⟨_, _, rfl⟩ := h; rfl) | (obtain ⟨_, _, rfl, _⟩ := h; rfl) | (obtain ⟨_, _, _, rfl⟩ := h; rfl) | (obtain ⟨_, _, _, rfl, _⟩ := h; rfl) | (obtain ⟨_, _, _, _, rfl⟩ := h; rfl) | (obtain ⟨_, _, _, _, rfl, _⟩ := h; rfl) | (obtain ⟨_, _, _, _, _, rfl⟩ := h; rfl) | (obtain ⟨_, _, _, _, _, rfl, _⟩ := h; rfl) | (obtain ⟨_, _, _, _, _, _, rfl⟩ := h; rfl) | (obtain ⟨_, _, _, _, _, _, rfl, _⟩ := h; rfl)) (fun cdv A0 outer s H E ds hr hp => ⟨t_are_logs K A (sp_is_log K A), p_are_logs T (ok_is_log Q T) cdv A0 outer s H E hr, w_are_logs Q hp⟩)
theorem ok_need_logs (Q : CrewOk K A) (T : Tx K mg A) : FnOk P w K mg base CX0 3 A.a_need_logs A.fd_need_logs ["crew", "logs"] (sp_need_logs K A) :=
  fn_pure T.F_need_logs sc_need_logs (fun ds h => by first | (obtain ⟨rfl⟩ := h; rfl) | (obtain ⟨rfl, _⟩ := h; rfl) | (obtain ⟨_, rfl⟩ := h; rfl) | (obtain ⟨_, rfl, _⟩ := h; rfl) | (obtain ⟨_, _, rfl⟩ := h; rfl) | (obtain ⟨_, _, rfl, _⟩ := h; rfl) | (obtain ⟨_, _, _, rfl⟩ := h; rfl) | (obtain ⟨_, _, _, rfl, _⟩ := h; rfl) | (obtain ⟨_, _, _, _, rfl⟩ := h; rfl) | (obtain ⟨_, _, _, _, rfl, _⟩ := h; rfl) | (obtain ⟨_, _, _, _, _, rfl⟩ := h; rfl) | (obtain ⟨_, _, _, _, _, rfl, _⟩ := h; rfl) | (obtain ⟨_, _, _, _, _, _, rfl⟩ := h; rfl) | (obtain ⟨_, _, _, _, _, _, rfl, _⟩ := h; rfl)) (fun cdv A0 outer s H E ds hr hp => ⟨t_need_logs K A (sp_are_logs K A) (sp_need_crew K A), p_need_logs T (ok_are_logs Q T) (ok_need_crew Q T) cdv A0 outer s H E hr, w_need_logs Q hp⟩)
theorem ok_is_ready (Q : CrewOk K A) (T : Tx K mg A) : FnOk P w K mg base CX0 1 A.a_is_ready A.fd_is_ready ["crew", "logs", "deed"] (sp_is_ready K A) :=
  fn_pure T.F_is_ready sc_is_ready (fun ds h => by first | (obtain ⟨rfl⟩ := h; rfl) | (obtain ⟨rfl, _⟩ := h; rfl) | (obtain ⟨_, rfl⟩ := h; rfl) | (obtain ⟨_, rfl, _⟩ := h; rfl) | (obtain ⟨_, _, rfl⟩ := h; rfl) | (obtain ⟨_, _, rfl, _⟩ := h; rfl) | (obtain ⟨_, _, _, rfl⟩ := h; rfl) | (obtain ⟨_, _, _, rfl, _⟩ := h; rfl) | (obtain ⟨_, _, _, _, rfl⟩ := h; rfl) | (obtain ⟨_, _, _, _, rfl, _⟩ := h; rfl) | (obtain ⟨_, _, _, _, _, rfl⟩ := h; rfl) | (obtain ⟨_, _, _, _, _, rfl, _⟩ := h; rfl) | (obtain ⟨_, _, _, _, _, _, rfl⟩ := h; rfl) | (obtain ⟨_, _, _, _, _, _, rfl, _⟩ := h; rfl)) (fun cdv A0 outer s H E ds hr hp => ⟨t_is_ready K A, p_is_ready T cdv A0 outer s H E hr, w_is_ready Q hp⟩)
theorem ok_done_by (Q : CrewOk K A) (T : Tx K mg A) : FnOk P w K mg base CX0 2 A.a_done_by A.fd_done_by ["crew", "told"] (sp_done_by K A) :=
  fn_pure T.F_done_by sc_done_by (fun ds h => by first | (obtain ⟨rfl⟩ := h; rfl) | (obtain ⟨rfl, _⟩ := h; rfl) | (obtain ⟨_, rfl⟩ := h; rfl) | (obtain ⟨_, rfl, _⟩ := h; rfl) | (obtain ⟨_, _, rfl⟩ := h; rfl) | (obtain ⟨_, _, rfl, _⟩ := h; rfl) | (obtain ⟨_, _, _, rfl⟩ := h; rfl) | (obtain ⟨_, _, _, rfl, _⟩ := h; rfl) | (obtain ⟨_, _, _, _, rfl⟩ := h; rfl) | (obtain ⟨_, _, _, _, rfl, _⟩ := h; rfl) | (obtain ⟨_, _, _, _, _, rfl⟩ := h; rfl) | (obtain ⟨_, _, _, _, _, rfl, _⟩ := h; rfl) | (obtain ⟨_, _, _, _, _, _, rfl⟩ := h; rfl) | (obtain ⟨_, _, _, _, _, _, rfl, _⟩ := h; rfl)) (fun cdv A0 outer s H E ds hr hp => ⟨t_done_by K A (sp_is_ready K A), p_done_by T (ok_is_ready Q T) cdv A0 outer s H E hr, w_done_by Q hp⟩)
theorem ok_joined (Q : CrewOk K A) (T : Tx K mg A) : FnOk P w K mg base CX0 4 A.a_joined A.fd_joined ["crew", "logs"] (sp_joined K A) :=
  fn_pure T.F_joined sc_joined (fun ds h => by first | (obtain ⟨rfl⟩ := h; rfl) | (obtain ⟨rfl, _⟩ := h; rfl) | (obtain ⟨_, rfl⟩ := h; rfl) | (obtain ⟨_, rfl, _⟩ := h; rfl) | (obtain ⟨_, _, rfl⟩ := h; rfl) | (obtain ⟨_, _, rfl, _⟩ := h; rfl) | (obtain ⟨_, _, _, rfl⟩ := h; rfl) | (obtain ⟨_, _, _, rfl, _⟩ := h; rfl) | (obtain ⟨_, _, _, _, rfl⟩ := h; rfl) | (obtain ⟨_, _, _, _, rfl, _⟩ := h; rfl) | (obtain ⟨_, _, _, _, _, rfl⟩ := h; rfl) | (obtain ⟨_, _, _, _, _, rfl, _⟩ := h; rfl) | (obtain ⟨_, _, _, _, _, _, rfl⟩ := h; rfl) | (obtain ⟨_, _, _, _, _, _, rfl, _⟩ := h; rfl)) (fun cdv A0 outer s H E ds hr hp => ⟨t_joined K A (sp_done_by K A) (sp_need_logs K A) (sp_least_of K A), p_joined T (ok_done_by Q T) (ok_need_logs Q T) (ok_least_of Q T) cdv A0 outer s H E hr, w_joined Q hp⟩)
theorem ok_law_start (Q : CrewOk K A) (T : Tx K mg A) : FnOk P w K mg base CX0 1 A.a_law_start A.fd_law_start ["script"] (sp_law_start K) :=
  fn_new T.F_law_start sc_law_start (fun ds h => by first | (obtain ⟨rfl⟩ := h; rfl) | (obtain ⟨rfl, _⟩ := h; rfl) | (obtain ⟨_, rfl⟩ := h; rfl) | (obtain ⟨_, rfl, _⟩ := h; rfl) | (obtain ⟨_, _, rfl⟩ := h; rfl) | (obtain ⟨_, _, rfl, _⟩ := h; rfl) | (obtain ⟨_, _, _, rfl⟩ := h; rfl) | (obtain ⟨_, _, _, rfl, _⟩ := h; rfl) | (obtain ⟨_, _, _, _, rfl⟩ := h; rfl) | (obtain ⟨_, _, _, _, rfl, _⟩ := h; rfl) | (obtain ⟨_, _, _, _, _, rfl⟩ := h; rfl) | (obtain ⟨_, _, _, _, _, rfl, _⟩ := h; rfl) | (obtain ⟨_, _, _, _, _, _, rfl⟩ := h; rfl) | (obtain ⟨_, _, _, _, _, _, rfl, _⟩ := h; rfl)) (fun s K G H v fp h => (hO_s s K G H v fp h).2) (fun cdv A0 outer s H E ds hr hp => ⟨t_law_start K A, p_law_start T cdv A0 outer s H E hr, w_law_start hp⟩)
theorem ok_law_below (Q : CrewOk K A) (T : Tx K mg A) : FnOk P w K mg base CX0 1 A.a_law_below A.fd_law_below ["stream", "many"] (sp_law_below K) :=
  fn_strP T.F_law_below sc_law_below Sq.p (fun s => (fun ds h => by first | (obtain ⟨rfl⟩ := h; rfl) | (obtain ⟨rfl, _⟩ := h; rfl) | (obtain ⟨_, rfl⟩ := h; rfl) | (obtain ⟨_, rfl, _⟩ := h; rfl) | (obtain ⟨_, _, rfl⟩ := h; rfl) | (obtain ⟨_, _, rfl, _⟩ := h; rfl) | (obtain ⟨_, _, _, rfl⟩ := h; rfl) | (obtain ⟨_, _, _, rfl, _⟩ := h; rfl) | (obtain ⟨_, _, _, _, rfl⟩ := h; rfl) | (obtain ⟨_, _, _, _, rfl, _⟩ := h; rfl) | (obtain ⟨_, _, _, _, _, rfl⟩ := h; rfl) | (obtain ⟨_, _, _, _, _, rfl, _⟩ := h; rfl) | (obtain ⟨_, _, _, _, _, _, rfl⟩ := h; rfl) | (obtain ⟨_, _, _, _, _, _, rfl, _⟩ := h; rfl))) hO_s (hA_law_below) (fun cdv A0 outer s H E st0 ds hr hp => ⟨t_law_below K A, p_law_below T cdv A0 outer s H E hr, w_law_below hp⟩)
theorem ok_law_pick (Q : CrewOk K A) (T : Tx K mg A) : FnOk P w K mg base CX0 2 A.a_law_pick A.fd_law_pick ["stream", "some"] (sp_law_pick K) :=
  fn_strP T.F_law_pick sc_law_pick Sq.p (fun s => (fun ds h => by first | (obtain ⟨rfl⟩ := h; rfl) | (obtain ⟨rfl, _⟩ := h; rfl) | (obtain ⟨_, rfl⟩ := h; rfl) | (obtain ⟨_, rfl, _⟩ := h; rfl) | (obtain ⟨_, _, rfl⟩ := h; rfl) | (obtain ⟨_, _, rfl, _⟩ := h; rfl) | (obtain ⟨_, _, _, rfl⟩ := h; rfl) | (obtain ⟨_, _, _, rfl, _⟩ := h; rfl) | (obtain ⟨_, _, _, _, rfl⟩ := h; rfl) | (obtain ⟨_, _, _, _, rfl, _⟩ := h; rfl) | (obtain ⟨_, _, _, _, _, rfl⟩ := h; rfl) | (obtain ⟨_, _, _, _, _, rfl, _⟩ := h; rfl) | (obtain ⟨_, _, _, _, _, _, rfl⟩ := h; rfl) | (obtain ⟨_, _, _, _, _, _, rfl, _⟩ := h; rfl))) hO_s (hA_law_pick) (fun cdv A0 outer s H E st0 ds hr hp => ⟨t_law_pick K A (sp_law_below K), p_law_pick T (ok_law_below Q T) cdv A0 outer s H E hr, w_law_pick hp⟩)
theorem ok_law_mixed (Q : CrewOk K A) (T : Tx K mg A) : FnOk P w K mg base CX0 2 A.a_law_mixed A.fd_law_mixed ["stream", "some"] (sp_law_mixed K) :=
  fn_strP T.F_law_mixed sc_law_mixed Sq.p (fun s => (fun ds h => by first | (obtain ⟨rfl⟩ := h; rfl) | (obtain ⟨rfl, _⟩ := h; rfl) | (obtain ⟨_, rfl⟩ := h; rfl) | (obtain ⟨_, rfl, _⟩ := h; rfl) | (obtain ⟨_, _, rfl⟩ := h; rfl) | (obtain ⟨_, _, rfl, _⟩ := h; rfl) | (obtain ⟨_, _, _, rfl⟩ := h; rfl) | (obtain ⟨_, _, _, rfl, _⟩ := h; rfl) | (obtain ⟨_, _, _, _, rfl⟩ := h; rfl) | (obtain ⟨_, _, _, _, rfl, _⟩ := h; rfl) | (obtain ⟨_, _, _, _, _, rfl⟩ := h; rfl) | (obtain ⟨_, _, _, _, _, rfl, _⟩ := h; rfl) | (obtain ⟨_, _, _, _, _, _, rfl⟩ := h; rfl) | (obtain ⟨_, _, _, _, _, _, rfl, _⟩ := h; rfl))) hO_s (hA_law_mixed) (fun cdv A0 outer s H E st0 ds hr hp => ⟨t_law_mixed K A (sp_law_below K), p_law_mixed T (ok_law_below Q T) cdv A0 outer s H E hr, w_law_mixed hp⟩)
theorem ok_law_mcrew (Q : CrewOk K A) (T : Tx K mg A) : FnOk P w K mg base CX0 3 A.a_law_mcrew A.fd_law_mcrew ["stream", "most"] (sp_law_mcrew K) :=
  fn_strP T.F_law_mcrew sc_law_mcrew Sq.p (fun s => (fun ds h => by first | (obtain ⟨rfl⟩ := h; rfl) | (obtain ⟨rfl, _⟩ := h; rfl) | (obtain ⟨_, rfl⟩ := h; rfl) | (obtain ⟨_, rfl, _⟩ := h; rfl) | (obtain ⟨_, _, rfl⟩ := h; rfl) | (obtain ⟨_, _, rfl, _⟩ := h; rfl) | (obtain ⟨_, _, _, rfl⟩ := h; rfl) | (obtain ⟨_, _, _, rfl, _⟩ := h; rfl) | (obtain ⟨_, _, _, _, rfl⟩ := h; rfl) | (obtain ⟨_, _, _, _, rfl, _⟩ := h; rfl) | (obtain ⟨_, _, _, _, _, rfl⟩ := h; rfl) | (obtain ⟨_, _, _, _, _, rfl, _⟩ := h; rfl) | (obtain ⟨_, _, _, _, _, _, rfl⟩ := h; rfl) | (obtain ⟨_, _, _, _, _, _, rfl, _⟩ := h; rfl))) hO_s (hA_law_mcrew) (fun cdv A0 outer s H E st0 ds hr hp => ⟨t_law_mcrew K A (sp_law_mixed K) (sp_law_below K) (sp_law_pick K), p_law_mcrew T (ok_law_mixed Q T) (ok_law_below Q T) (ok_law_pick Q T) cdv A0 outer s H E hr, w_law_mcrew hp⟩)
theorem ok_law_mmade_crew (Q : CrewOk K A) (T : Tx K mg A) : FnOk P w K mg base CX0 7 A.a_law_mmade_crew A.fd_law_mmade_crew ["crew"] (sp_law_mmade_crew K A) :=
  fn_pure T.F_law_mmade_crew sc_law_mmade_crew (fun ds h => by first | (obtain ⟨rfl⟩ := h; rfl) | (obtain ⟨rfl, _⟩ := h; rfl) | (obtain ⟨_, rfl⟩ := h; rfl) | (obtain ⟨_, rfl, _⟩ := h; rfl) | (obtain ⟨_, _, rfl⟩ := h; rfl) | (obtain ⟨_, _, rfl, _⟩ := h; rfl) | (obtain ⟨_, _, _, rfl⟩ := h; rfl) | (obtain ⟨_, _, _, rfl, _⟩ := h; rfl) | (obtain ⟨_, _, _, _, rfl⟩ := h; rfl) | (obtain ⟨_, _, _, _, rfl, _⟩ := h; rfl) | (obtain ⟨_, _, _, _, _, rfl⟩ := h; rfl) | (obtain ⟨_, _, _, _, _, rfl, _⟩ := h; rfl) | (obtain ⟨_, _, _, _, _, _, rfl⟩ := h; rfl) | (obtain ⟨_, _, _, _, _, _, rfl, _⟩ := h; rfl)) (fun cdv A0 outer s H E ds hr hp => ⟨t_law_mmade_crew K A (sp_Crew_init K A), p_law_mmade_crew T (ok_Crew_init Q T) cdv A0 outer s H E hr, w_law_mmade_crew Q hp⟩)
theorem ok_law_mis_apart (Q : CrewOk K A) (T : Tx K mg A) : FnOk P w K mg base CX0 1 A.a_law_mis_apart A.fd_law_mis_apart ["crew", "one", "two"] (sp_law_mis_apart K) :=
  fn_pure T.F_law_mis_apart sc_law_mis_apart (fun ds h => by first | (obtain ⟨rfl⟩ := h; rfl) | (obtain ⟨rfl, _⟩ := h; rfl) | (obtain ⟨_, rfl⟩ := h; rfl) | (obtain ⟨_, rfl, _⟩ := h; rfl) | (obtain ⟨_, _, rfl⟩ := h; rfl) | (obtain ⟨_, _, rfl, _⟩ := h; rfl) | (obtain ⟨_, _, _, rfl⟩ := h; rfl) | (obtain ⟨_, _, _, rfl, _⟩ := h; rfl) | (obtain ⟨_, _, _, _, rfl⟩ := h; rfl) | (obtain ⟨_, _, _, _, rfl, _⟩ := h; rfl) | (obtain ⟨_, _, _, _, _, rfl⟩ := h; rfl) | (obtain ⟨_, _, _, _, _, rfl, _⟩ := h; rfl) | (obtain ⟨_, _, _, _, _, _, rfl⟩ := h; rfl) | (obtain ⟨_, _, _, _, _, _, rfl, _⟩ := h; rfl)) (fun cdv A0 outer s H E ds hr hp => ⟨t_law_mis_apart K A, p_law_mis_apart T cdv A0 outer s H E hr, w_law_mis_apart hp⟩)
theorem ok_law_mrow (Q : CrewOk K A) (T : Tx K mg A) : FnOk P w K mg base CX0 3 A.a_law_mrow A.fd_law_mrow ["stream", "crew", "most"] (sp_law_mrow K) :=
  fn_strP T.F_law_mrow sc_law_mrow Sq.p (fun s => (fun ds h => by first | (obtain ⟨rfl⟩ := h; rfl) | (obtain ⟨rfl, _⟩ := h; rfl) | (obtain ⟨_, rfl⟩ := h; rfl) | (obtain ⟨_, rfl, _⟩ := h; rfl) | (obtain ⟨_, _, rfl⟩ := h; rfl) | (obtain ⟨_, _, rfl, _⟩ := h; rfl) | (obtain ⟨_, _, _, rfl⟩ := h; rfl) | (obtain ⟨_, _, _, rfl, _⟩ := h; rfl) | (obtain ⟨_, _, _, _, rfl⟩ := h; rfl) | (obtain ⟨_, _, _, _, rfl, _⟩ := h; rfl) | (obtain ⟨_, _, _, _, _, rfl⟩ := h; rfl) | (obtain ⟨_, _, _, _, _, rfl, _⟩ := h; rfl) | (obtain ⟨_, _, _, _, _, _, rfl⟩ := h; rfl) | (obtain ⟨_, _, _, _, _, _, rfl, _⟩ := h; rfl))) hO_s (hA_law_mrow) (fun cdv A0 outer s H E st0 ds hr hp => ⟨t_law_mrow K A (sp_law_below K) (sp_law_pick K), p_law_mrow T (ok_law_below Q T) (ok_law_pick Q T) cdv A0 outer s H E hr, w_law_mrow hp⟩)
theorem ok_law_mfronts (Q : CrewOk K A) (T : Tx K mg A) : FnOk P w K mg base CX0 2 A.a_law_mfronts A.fd_law_mfronts ["crew", "row"] (sp_law_mfronts K) :=
  fn_pure T.F_law_mfronts sc_law_mfronts (fun ds h => by first | (obtain ⟨rfl⟩ := h; rfl) | (obtain ⟨rfl, _⟩ := h; rfl) | (obtain ⟨_, rfl⟩ := h; rfl) | (obtain ⟨_, rfl, _⟩ := h; rfl) | (obtain ⟨_, _, rfl⟩ := h; rfl) | (obtain ⟨_, _, rfl, _⟩ := h; rfl) | (obtain ⟨_, _, _, rfl⟩ := h; rfl) | (obtain ⟨_, _, _, rfl, _⟩ := h; rfl) | (obtain ⟨_, _, _, _, rfl⟩ := h; rfl) | (obtain ⟨_, _, _, _, rfl, _⟩ := h; rfl) | (obtain ⟨_, _, _, _, _, rfl⟩ := h; rfl) | (obtain ⟨_, _, _, _, _, rfl, _⟩ := h; rfl) | (obtain ⟨_, _, _, _, _, _, rfl⟩ := h; rfl) | (obtain ⟨_, _, _, _, _, _, rfl, _⟩ := h; rfl)) (fun cdv A0 outer s H E ds hr hp => ⟨t_law_mfronts K A (sp_law_mis_apart K), p_law_mfronts T (ok_law_mis_apart Q T) cdv A0 outer s H E hr, w_law_mfronts hp⟩)
theorem ok_law_mleast (Q : CrewOk K A) (T : Tx K mg A) : FnOk P w K mg base CX0 3 A.a_law_mleast A.fd_law_mleast ["crew", "row"] (sp_law_mleast K) :=
  fn_pure T.F_law_mleast sc_law_mleast (fun ds h => by first | (obtain ⟨rfl⟩ := h; rfl) | (obtain ⟨rfl, _⟩ := h; rfl) | (obtain ⟨_, rfl⟩ := h; rfl) | (obtain ⟨_, rfl, _⟩ := h; rfl) | (obtain ⟨_, _, rfl⟩ := h; rfl) | (obtain ⟨_, _, rfl, _⟩ := h; rfl) | (obtain ⟨_, _, _, rfl⟩ := h; rfl) | (obtain ⟨_, _, _, rfl, _⟩ := h; rfl) | (obtain ⟨_, _, _, _, rfl⟩ := h; rfl) | (obtain ⟨_, _, _, _, rfl, _⟩ := h; rfl) | (obtain ⟨_, _, _, _, _, rfl⟩ := h; rfl) | (obtain ⟨_, _, _, _, _, rfl, _⟩ := h; rfl) | (obtain ⟨_, _, _, _, _, _, rfl⟩ := h; rfl) | (obtain ⟨_, _, _, _, _, _, rfl, _⟩ := h; rfl)) (fun cdv A0 outer s H E ds hr hp => ⟨t_law_mleast K A (sp_law_mfronts K), p_law_mleast T (ok_law_mfronts Q T) cdv A0 outer s H E hr, w_law_mleast hp⟩)
theorem ok_law_mshuffled (Q : CrewOk K A) (T : Tx K mg A) : FnOk P w K mg base CX0 3 A.a_law_mshuffled A.fd_law_mshuffled ["stream", "crew", "row"] (sp_law_mshuffled K) :=
  fn_strP T.F_law_mshuffled sc_law_mshuffled Sq.p (fun s => (fun ds h => by first | (obtain ⟨rfl⟩ := h; rfl) | (obtain ⟨rfl, _⟩ := h; rfl) | (obtain ⟨_, rfl⟩ := h; rfl) | (obtain ⟨_, rfl, _⟩ := h; rfl) | (obtain ⟨_, _, rfl⟩ := h; rfl) | (obtain ⟨_, _, rfl, _⟩ := h; rfl) | (obtain ⟨_, _, _, rfl⟩ := h; rfl) | (obtain ⟨_, _, _, rfl, _⟩ := h; rfl) | (obtain ⟨_, _, _, _, rfl⟩ := h; rfl) | (obtain ⟨_, _, _, _, rfl, _⟩ := h; rfl) | (obtain ⟨_, _, _, _, _, rfl⟩ := h; rfl) | (obtain ⟨_, _, _, _, _, rfl, _⟩ := h; rfl) | (obtain ⟨_, _, _, _, _, _, rfl⟩ := h; rfl) | (obtain ⟨_, _, _, _, _, _, rfl, _⟩ := h; rfl))) hO_s (hA_law_mshuffled) (fun cdv A0 outer s H E st0 ds hr hp => ⟨t_law_mshuffled K A (sp_law_pick K) (sp_law_mfronts K), p_law_mshuffled T (ok_law_pick Q T) (ok_law_mfronts Q T) cdv A0 outer s H E hr, w_law_mshuffled hp⟩)
theorem ok_law_mtaken (Q : CrewOk K A) (T : Tx K mg A) : FnOk P w K mg base CX0 3 A.a_law_mtaken A.fd_law_mtaken ["crew", "row", "deed"] (sp_law_mtaken K) :=
  fn_pure T.F_law_mtaken sc_law_mtaken (fun ds h => by first | (obtain ⟨rfl⟩ := h; rfl) | (obtain ⟨rfl, _⟩ := h; rfl) | (obtain ⟨_, rfl⟩ := h; rfl) | (obtain ⟨_, rfl, _⟩ := h; rfl) | (obtain ⟨_, _, rfl⟩ := h; rfl) | (obtain ⟨_, _, rfl, _⟩ := h; rfl) | (obtain ⟨_, _, _, rfl⟩ := h; rfl) | (obtain ⟨_, _, _, rfl, _⟩ := h; rfl) | (obtain ⟨_, _, _, _, rfl⟩ := h; rfl) | (obtain ⟨_, _, _, _, rfl, _⟩ := h; rfl) | (obtain ⟨_, _, _, _, _, rfl⟩ := h; rfl) | (obtain ⟨_, _, _, _, _, rfl, _⟩ := h; rfl) | (obtain ⟨_, _, _, _, _, _, rfl⟩ := h; rfl) | (obtain ⟨_, _, _, _, _, _, rfl, _⟩ := h; rfl)) (fun cdv A0 outer s H E ds hr hp => ⟨t_law_mtaken K A (sp_law_mfronts K), p_law_mtaken T (ok_law_mfronts Q T) cdv A0 outer s H E hr, w_law_mtaken hp⟩)
theorem ok_law_mrest (Q : CrewOk K A) (T : Tx K mg A) : FnOk P w K mg base CX0 4 A.a_law_mrest A.fd_law_mrest ["crew", "row", "second"] (sp_law_mrest K) :=
  fn_pure T.F_law_mrest sc_law_mrest (fun ds h => by first | (obtain ⟨rfl⟩ := h; rfl) | (obtain ⟨rfl, _⟩ := h; rfl) | (obtain ⟨_, rfl⟩ := h; rfl) | (obtain ⟨_, rfl, _⟩ := h; rfl) | (obtain ⟨_, _, rfl⟩ := h; rfl) | (obtain ⟨_, _, rfl, _⟩ := h; rfl) | (obtain ⟨_, _, _, rfl⟩ := h; rfl) | (obtain ⟨_, _, _, rfl, _⟩ := h; rfl) | (obtain ⟨_, _, _, _, rfl⟩ := h; rfl) | (obtain ⟨_, _, _, _, rfl, _⟩ := h; rfl) | (obtain ⟨_, _, _, _, _, rfl⟩ := h; rfl) | (obtain ⟨_, _, _, _, _, rfl, _⟩ := h; rfl) | (obtain ⟨_, _, _, _, _, _, rfl⟩ := h; rfl) | (obtain ⟨_, _, _, _, _, _, rfl, _⟩ := h; rfl)) (fun cdv A0 outer s H E ds hr hp => ⟨t_law_mrest K A (sp_law_mtaken K), p_law_mrest T (ok_law_mtaken Q T) cdv A0 outer s H E hr, w_law_mrest hp⟩)
theorem ok_law_mbeginnings (Q : CrewOk K A) (T : Tx K mg A) : FnOk P w K mg base CX0 4 A.a_law_mbeginnings A.fd_law_mbeginnings ["crew", "row"] (sp_law_mbeginnings K) :=
  fn_pure T.F_law_mbeginnings sc_law_mbeginnings (fun ds h => by first | (obtain ⟨rfl⟩ := h; rfl) | (obtain ⟨rfl, _⟩ := h; rfl) | (obtain ⟨_, rfl⟩ := h; rfl) | (obtain ⟨_, rfl, _⟩ := h; rfl) | (obtain ⟨_, _, rfl⟩ := h; rfl) | (obtain ⟨_, _, rfl, _⟩ := h; rfl) | (obtain ⟨_, _, _, rfl⟩ := h; rfl) | (obtain ⟨_, _, _, rfl, _⟩ := h; rfl) | (obtain ⟨_, _, _, _, rfl⟩ := h; rfl) | (obtain ⟨_, _, _, _, rfl, _⟩ := h; rfl) | (obtain ⟨_, _, _, _, _, rfl⟩ := h; rfl) | (obtain ⟨_, _, _, _, _, rfl, _⟩ := h; rfl) | (obtain ⟨_, _, _, _, _, _, rfl⟩ := h; rfl) | (obtain ⟨_, _, _, _, _, _, rfl, _⟩ := h; rfl)) (fun cdv A0 outer s H E ds hr hp => ⟨t_law_mbeginnings K A (sp_law_mfronts K) (sp_law_mleast K), p_law_mbeginnings T (ok_law_mfronts Q T) (ok_law_mleast Q T) cdv A0 outer s H E hr, w_law_mbeginnings hp⟩)
theorem ok_law_mtwo (Q : CrewOk K A) (T : Tx K mg A) : FnOk P w K mg base CX0 1 A.a_law_mtwo A.fd_law_mtwo ["ones", "others"] (sp_law_mtwo K) :=
  fn_pure T.F_law_mtwo sc_law_mtwo (fun ds h => by first | (obtain ⟨rfl⟩ := h; rfl) | (obtain ⟨rfl, _⟩ := h; rfl) | (obtain ⟨_, rfl⟩ := h; rfl) | (obtain ⟨_, rfl, _⟩ := h; rfl) | (obtain ⟨_, _, rfl⟩ := h; rfl) | (obtain ⟨_, _, rfl, _⟩ := h; rfl) | (obtain ⟨_, _, _, rfl⟩ := h; rfl) | (obtain ⟨_, _, _, rfl, _⟩ := h; rfl) | (obtain ⟨_, _, _, _, rfl⟩ := h; rfl) | (obtain ⟨_, _, _, _, rfl, _⟩ := h; rfl) | (obtain ⟨_, _, _, _, _, rfl⟩ := h; rfl) | (obtain ⟨_, _, _, _, _, rfl, _⟩ := h; rfl) | (obtain ⟨_, _, _, _, _, _, rfl⟩ := h; rfl) | (obtain ⟨_, _, _, _, _, _, rfl, _⟩ := h; rfl)) (fun cdv A0 outer s H E ds hr hp => ⟨t_law_mtwo K A, p_law_mtwo T cdv A0 outer s H E hr, w_law_mtwo hp⟩)
theorem ok_law_mhands (Q : CrewOk K A) (T : Tx K mg A) : FnOk P w K mg base CX0 1 A.a_law_mhands A.fd_law_mhands ["crew"] (sp_law_mhands K) :=
  fn_pure T.F_law_mhands sc_law_mhands (fun ds h => by first | (obtain ⟨rfl⟩ := h; rfl) | (obtain ⟨rfl, _⟩ := h; rfl) | (obtain ⟨_, rfl⟩ := h; rfl) | (obtain ⟨_, rfl, _⟩ := h; rfl) | (obtain ⟨_, _, rfl⟩ := h; rfl) | (obtain ⟨_, _, rfl, _⟩ := h; rfl) | (obtain ⟨_, _, _, rfl⟩ := h; rfl) | (obtain ⟨_, _, _, rfl, _⟩ := h; rfl) | (obtain ⟨_, _, _, _, rfl⟩ := h; rfl) | (obtain ⟨_, _, _, _, rfl, _⟩ := h; rfl) | (obtain ⟨_, _, _, _, _, rfl⟩ := h; rfl) | (obtain ⟨_, _, _, _, _, rfl, _⟩ := h; rfl) | (obtain ⟨_, _, _, _, _, _, rfl⟩ := h; rfl) | (obtain ⟨_, _, _, _, _, _, rfl, _⟩ := h; rfl)) (fun cdv A0 outer s H E ds hr hp => ⟨t_law_mhands K A, p_law_mhands T cdv A0 outer s H E hr, w_law_mhands hp⟩)
theorem ok_same (Q : CrewOk K A) (T : Tx K mg A) : ∀ n, FnOk P w K mg base CX0 (n + 1) A.a_law_same A.fd_law_same ["found", "due"] (spP K (samePre n) postTrue)
  | 0 => fn_pure T.F_law_same sc_law_same (fun ds h => h.elim) (fun cdv A0 outer s H E ds hr hp => hp.elim)
  | n + 1 => fn_pure T.F_law_same sc_law_same (fun ds h => by obtain ⟨_, rfl, _⟩ := h; rfl) (fun cdv A0 outer s H E ds hr hp => ⟨t_law_same K A (spP K (samePre n) postTrue), p_law_same T (ok_same Q T n) cdv A0 outer s H E hr, w_law_same n hp⟩)
theorem ok_law_same (Q : CrewOk K A) (T : Tx K mg A) : FnOk P w K mg base CX0 7 A.a_law_same A.fd_law_same ["found", "due"] (sp_law_same K 5) := ok_same Q T 6
theorem ok_law (Q : CrewOk K A) (T : Tx K mg A) : FnOk P w K mg base CX0 8 A.a_law A.fd_law ["script"] (spLaw K) :=
  fn_pure T.F_law sc_law (fun ds h => by first | (obtain ⟨rfl⟩ := h; rfl) | (obtain ⟨rfl, _⟩ := h; rfl) | (obtain ⟨_, rfl⟩ := h; rfl) | (obtain ⟨_, rfl, _⟩ := h; rfl) | (obtain ⟨_, _, rfl⟩ := h; rfl) | (obtain ⟨_, _, rfl, _⟩ := h; rfl) | (obtain ⟨_, _, _, rfl⟩ := h; rfl) | (obtain ⟨_, _, _, rfl, _⟩ := h; rfl) | (obtain ⟨_, _, _, _, rfl⟩ := h; rfl) | (obtain ⟨_, _, _, _, rfl, _⟩ := h; rfl) | (obtain ⟨_, _, _, _, _, rfl⟩ := h; rfl) | (obtain ⟨_, _, _, _, _, rfl, _⟩ := h; rfl) | (obtain ⟨_, _, _, _, _, _, rfl⟩ := h; rfl) | (obtain ⟨_, _, _, _, _, _, rfl, _⟩ := h; rfl)) (fun cdv A0 outer s H E ds hr hp => ⟨t_law K A (sp_law_start K) (sp_law_mcrew K) (sp_law_mmade_crew K A) (sp_law_mrow K) (sp_law_below K) (sp_law_pick K) (sp_law_mbeginnings K) (sp_law_mshuffled K) (sp_logs_of K A) (sp_law_mhands K) (sp_law_same K 5) (sp_rest_of K A) (sp_law_mrest K) (sp_joined K A) (sp_law_mleast K) (sp_common_begin K A) (sp_law_mtwo K) (sp_continued K A), p_law T (ok_law_start Q T) (ok_law_mcrew Q T) (ok_law_mmade_crew Q T) (ok_law_mrow Q T) (ok_law_below Q T) (ok_law_pick Q T) (ok_law_mbeginnings Q T) (ok_law_mshuffled Q T) (ok_logs_of Q T) (ok_law_mhands Q T) (ok_law_same Q T) (ok_rest_of Q T) (ok_law_mrest Q T) (ok_joined Q T) (ok_law_mleast Q T) (ok_common_begin Q T) (ok_law_mtwo Q T) (ok_continued Q T) cdv A0 outer s H E hr, w_law Q hp⟩)
end
set_option maxHeartbeats 0 in
theorem all_mk {l : PySem.W.OpenLaw} {w : World} {K : PySem.W.Frag} {h : Heap} {mg : Str → Option Value} {fa C : Addr} (X : K.In h) (G : h.Ns mainGlobals mg) (hfa : mg "law" = some (.ref fa))
    {f0 : Addr} {od0 an0 : Option Addr} {sl0 : Array (Option Value)} {oc0 kV0 dc0 pm0 cd0 ct0 : Value}
    {f1 : Addr} {od1 an1 : Option Addr} {sl1 : Array (Option Value)} {oc1 kV1 dc1 pm1 cd1 ct1 : Value}
    {f2 : Addr} {od2 an2 : Option Addr} {sl2 : Array (Option Value)} {oc2 kV2 dc2 pm2 cd2 ct2 : Value}
    {f3 : Addr} {od3 an3 : Option Addr} {sl3 : Array (Option Value)} {oc3 kV3 dc3 pm3 cd3 ct3 : Value}
    {f4 : Addr} {od4 an4 : Option Addr} {sl4 : Array (Option Value)} {oc4 kV4 dc4 pm4 cd4 ct4 : Value}
    {f5 : Addr} {od5 an5 : Option Addr} {sl5 : Array (Option Value)} {oc5 kV5 dc5 pm5 cd5 ct5 : Value}
    {f6 : Addr} {od6 an6 : Option Addr} {sl6 : Array (Option Value)} {oc6 kV6 dc6 pm6 cd6 ct6 : Value}
    {f7 : Addr} {od7 an7 : Option Addr} {sl7 : Array (Option Value)} {oc7 kV7 dc7 pm7 cd7 ct7 : Value}
    {f8 : Addr} {od8 an8 : Option Addr} {sl8 : Array (Option Value)} {oc8 kV8 dc8 pm8 cd8 ct8 : Value}
    {f9 : Addr} {od9 an9 : Option Addr} {sl9 : Array (Option Value)} {oc9 kV9 dc9 pm9 cd9 ct9 : Value}
    {f10 : Addr} {od10 an10 : Option Addr} {sl10 : Array (Option Value)} {oc10 kV10 dc10 pm10 cd10 ct10 : Value}
    {f11 : Addr} {od11 an11 : Option Addr} {sl11 : Array (Option Value)} {oc11 kV11 dc11 pm11 cd11 ct11 : Value}
    {f12 : Addr} {od12 an12 : Option Addr} {sl12 : Array (Option Value)} {oc12 kV12 dc12 pm12 cd12 ct12 : Value}
    {f13 : Addr} {od13 an13 : Option Addr} {sl13 : Array (Option Value)} {oc13 kV13 dc13 pm13 cd13 ct13 : Value}
    {f14 : Addr} {od14 an14 : Option Addr} {sl14 : Array (Option Value)} {oc14 kV14 dc14 pm14 cd14 ct14 : Value}
    {f15 : Addr} {od15 an15 : Option Addr} {sl15 : Array (Option Value)} {oc15 kV15 dc15 pm15 cd15 ct15 : Value}
    {f16 : Addr} {od16 an16 : Option Addr} {sl16 : Array (Option Value)} {oc16 kV16 dc16 pm16 cd16 ct16 : Value}
    {f17 : Addr} {od17 an17 : Option Addr} {sl17 : Array (Option Value)} {oc17 kV17 dc17 pm17 cd17 ct17 : Value}
    {f18 : Addr} {od18 an18 : Option Addr} {sl18 : Array (Option Value)} {oc18 kV18 dc18 pm18 cd18 ct18 : Value}
    {f19 : Addr} {od19 an19 : Option Addr} {sl19 : Array (Option Value)} {oc19 kV19 dc19 pm19 cd19 ct19 : Value}
    {f20 : Addr} {od20 an20 : Option Addr} {sl20 : Array (Option Value)} {oc20 kV20 dc20 pm20 cd20 ct20 : Value}
    {f21 : Addr} {od21 an21 : Option Addr} {sl21 : Array (Option Value)} {oc21 kV21 dc21 pm21 cd21 ct21 : Value}
    {f22 : Addr} {od22 an22 : Option Addr} {sl22 : Array (Option Value)} {oc22 kV22 dc22 pm22 cd22 ct22 : Value}
    {f23 : Addr} {od23 an23 : Option Addr} {sl23 : Array (Option Value)} {oc23 kV23 dc23 pm23 cd23 ct23 : Value}
    {f24 : Addr} {od24 an24 : Option Addr} {sl24 : Array (Option Value)} {oc24 kV24 dc24 pm24 cd24 ct24 : Value}
    {f25 : Addr} {od25 an25 : Option Addr} {sl25 : Array (Option Value)} {oc25 kV25 dc25 pm25 cd25 ct25 : Value}
    {f26 : Addr} {od26 an26 : Option Addr} {sl26 : Array (Option Value)} {oc26 kV26 dc26 pm26 cd26 ct26 : Value}
    {f27 : Addr} {od27 an27 : Option Addr} {sl27 : Array (Option Value)} {oc27 kV27 dc27 pm27 cd27 ct27 : Value}
    {f28 : Addr} {od28 an28 : Option Addr} {sl28 : Array (Option Value)} {oc28 kV28 dc28 pm28 cd28 ct28 : Value}
    {f29 : Addr} {od29 an29 : Option Addr} {sl29 : Array (Option Value)} {oc29 kV29 dc29 pm29 cd29 ct29 : Value}
    {f30 : Addr} {od30 an30 : Option Addr} {sl30 : Array (Option Value)} {oc30 kV30 dc30 pm30 cd30 ct30 : Value}
    {f31 : Addr} {od31 an31 : Option Addr} {sl31 : Array (Option Value)} {oc31 kV31 dc31 pm31 cd31 ct31 : Value}
    {f32 : Addr} {od32 an32 : Option Addr} {sl32 : Array (Option Value)} {oc32 kV32 dc32 pm32 cd32 ct32 : Value}
    {f33 : Addr} {od33 an33 : Option Addr} {sl33 : Array (Option Value)} {oc33 kV33 dc33 pm33 cd33 ct33 : Value}
    {f34 : Addr} {od34 an34 : Option Addr} {sl34 : Array (Option Value)} {oc34 kV34 dc34 pm34 cd34 ct34 : Value}
    {f35 : Addr} {od35 an35 : Option Addr} {sl35 : Array (Option Value)} {oc35 kV35 dc35 pm35 cd35 ct35 : Value}
    {f36 : Addr} {od36 an36 : Option Addr} {sl36 : Array (Option Value)} {oc36 kV36 dc36 pm36 cd36 ct36 : Value}
    {f37 : Addr} {od37 an37 : Option Addr} {sl37 : Array (Option Value)} {oc37 kV37 dc37 pm37 cd37 ct37 : Value}
    {f38 : Addr} {od38 an38 : Option Addr} {sl38 : Array (Option Value)} {oc38 kV38 dc38 pm38 cd38 ct38 : Value}
    {f39 : Addr} {od39 an39 : Option Addr} {sl39 : Array (Option Value)} {oc39 kV39 dc39 pm39 cd39 ct39 : Value}
    {f40 : Addr} {od40 an40 : Option Addr} {sl40 : Array (Option Value)} {oc40 kV40 dc40 pm40 cd40 ct40 : Value}
    {f41 : Addr} {od41 an41 : Option Addr} {sl41 : Array (Option Value)} {oc41 kV41 dc41 pm41 cd41 ct41 : Value}
    {f42 : Addr} {od42 an42 : Option Addr} {sl42 : Array (Option Value)} {oc42 kV42 dc42 pm42 cd42 ct42 : Value}
    {f43 : Addr} {od43 an43 : Option Addr} {sl43 : Array (Option Value)} {oc43 kV43 dc43 pm43 cd43 ct43 : Value}
    {t0 t1 t2 t3 t4 : Nat}
    (aC : PySem.W.nsIn K mainGlobals "Crew" = some (some (.ref C)))
    (pg : PySem.W.plainGet K C Str.empty = true)
    (hd : PySem.W.hasDictIn K C = true)
    (po : PySem.W.plainOver K C = true)
    (sa : PySem.W.findIn K (.ref C) "__setattr__" = some (some (.builtin "object.__setattr__")))
    (mk : PySem.W.makesIn K C = true)
    (kc : PySem.W.keepIn K (.ref C) = true)
    (nT : PySem.W.findIn K (.ref C) "touched" = some none)
    (nE : PySem.W.findIn K (.ref C) "every" = some none)
    (hha : PySem.W.findIn K (.ref C) "__class__" = some (some (.builtin "object.__class__")))
    (hhn : PySem.W.specialIn K (.builtin "object.__class__") "__get__" = some (some (.builtin "getset_descriptor.__get__")))
    (htk : PySem.W.takesIn K (.builtin "object.__class__") = some true)
    (hmr : PySem.W.mroIn K C (.type "object") = some true)
    (a0 : PySem.W.nsIn K mainGlobals "is_word" = some (some (.ref f0)))
    (l0 : K.lookup f0 = some ⟨oc0, od0, .func (PySem.W.fnOf "is_word" "is_word" (defArgs s_is_word) (defBody s_is_word) (defScope s_is_word) .none kV0 dc0 pm0 an0 cd0 ct0), sl0⟩)
    (c0 : PySem.W.codeIn K cd0 "is_word" = true)
    (k0 : PySem.W.keepIn K (.ref f0) = true)
    (a1 : PySem.W.nsIn K mainGlobals "is_name" = some (some (.ref f1)))
    (l1 : K.lookup f1 = some ⟨oc1, od1, .func (PySem.W.fnOf "is_name" "is_name" (defArgs s_is_name) (defBody s_is_name) (defScope s_is_name) .none kV1 dc1 pm1 an1 cd1 ct1), sl1⟩)
    (c1 : PySem.W.codeIn K cd1 "is_name" = true)
    (k1 : PySem.W.keepIn K (.ref f1) = true)
    (a2 : PySem.W.nsIn K mainGlobals "are_hands" = some (some (.ref f2)))
    (l2 : K.lookup f2 = some ⟨oc2, od2, .func (PySem.W.fnOf "are_hands" "are_hands" (defArgs s_are_hands) (defBody s_are_hands) (defScope s_are_hands) .none kV2 dc2 pm2 an2 cd2 ct2), sl2⟩)
    (c2 : PySem.W.codeIn K cd2 "are_hands" = true)
    (k2 : PySem.W.keepIn K (.ref f2) = true)
    (a3 : PySem.W.nsIn K mainGlobals "are_deeds" = some (some (.ref f3)))
    (l3 : K.lookup f3 = some ⟨oc3, od3, .func (PySem.W.fnOf "are_deeds" "are_deeds" (defArgs s_are_deeds) (defBody s_are_deeds) (defScope s_are_deeds) .none kV3 dc3 pm3 an3 cd3 ct3), sl3⟩)
    (c3 : PySem.W.codeIn K cd3 "are_deeds" = true)
    (k3 : PySem.W.keepIn K (.ref f3) = true)
    (a4 : PySem.W.findIn K (.ref C) "__init__" = some (some (.ref f4)))
    (i4 : PySem.W.isFn K (.ref f4) = true)
    (l4 : K.lookup f4 = some ⟨oc4, od4, .func (PySem.W.fnOf "__init__" "Crew.__init__" (defArgs s_Crew_init) (defBody s_Crew_init) (defScope s_Crew_init) .none kV4 dc4 pm4 an4 cd4 ct4), sl4⟩)
    (c4 : PySem.W.codeIn K cd4 "Crew.__init__" = true)
    (k4 : PySem.W.keepIn K (.ref f4) = true)
    (a5 : PySem.W.nsIn K mainGlobals "apart" = some (some (.ref f5)))
    (l5 : K.lookup f5 = some ⟨oc5, od5, .func (PySem.W.fnOf "apart" "apart" (defArgs s_apart) (defBody s_apart) (defScope s_apart) .none kV5 dc5 pm5 an5 cd5 ct5), sl5⟩)
    (c5 : PySem.W.codeIn K cd5 "apart" = true)
    (k5 : PySem.W.keepIn K (.ref f5) = true)
    (a6 : PySem.W.nsIn K mainGlobals "need_crew" = some (some (.ref f6)))
    (l6 : K.lookup f6 = some ⟨oc6, od6, .func (PySem.W.fnOf "need_crew" "need_crew" (defArgs s_need_crew) (defBody s_need_crew) (defScope s_need_crew) .none kV6 dc6 pm6 an6 cd6 ct6), sl6⟩)
    (c6 : PySem.W.codeIn K cd6 "need_crew" = true)
    (k6 : PySem.W.keepIn K (.ref f6) = true)
    (a7 : PySem.W.nsIn K mainGlobals "is_row" = some (some (.ref f7)))
    (l7 : K.lookup f7 = some ⟨oc7, od7, .func (PySem.W.fnOf "is_row" "is_row" (defArgs s_is_row) (defBody s_is_row) (defScope s_is_row) .none kV7 dc7 pm7 an7 cd7 ct7), sl7⟩)
    (c7 : PySem.W.codeIn K cd7 "is_row" = true)
    (k7 : PySem.W.keepIn K (.ref f7) = true)
    (a8 : PySem.W.nsIn K mainGlobals "need_row" = some (some (.ref f8)))
    (l8 : K.lookup f8 = some ⟨oc8, od8, .func (PySem.W.fnOf "need_row" "need_row" (defArgs s_need_row) (defBody s_need_row) (defScope s_need_row) .none kV8 dc8 pm8 an8 cd8 ct8), sl8⟩)
    (c8 : PySem.W.codeIn K cd8 "need_row" = true)
    (k8 : PySem.W.keepIn K (.ref f8) = true)
    (a9 : PySem.W.nsIn K mainGlobals "need_second" = some (some (.ref f9)))
    (l9 : K.lookup f9 = some ⟨oc9, od9, .func (PySem.W.fnOf "need_second" "need_second" (defArgs s_need_second) (defBody s_need_second) (defScope s_need_second) .none kV9 dc9 pm9 an9 cd9 ct9), sl9⟩)
    (c9 : PySem.W.codeIn K cd9 "need_second" = true)
    (k9 : PySem.W.keepIn K (.ref f9) = true)
    (a10 : PySem.W.nsIn K mainGlobals "seen_by" = some (some (.ref f10)))
    (l10 : K.lookup f10 = some ⟨oc10, od10, .func (PySem.W.fnOf "seen_by" "seen_by" (defArgs s_seen_by) (defBody s_seen_by) (defScope s_seen_by) .none kV10 dc10 pm10 an10 cd10 ct10), sl10⟩)
    (c10 : PySem.W.codeIn K cd10 "seen_by" = true)
    (k10 : PySem.W.keepIn K (.ref f10) = true)
    (a11 : PySem.W.nsIn K mainGlobals "least_of" = some (some (.ref f11)))
    (l11 : K.lookup f11 = some ⟨oc11, od11, .func (PySem.W.fnOf "least_of" "least_of" (defArgs s_least_of) (defBody s_least_of) (defScope s_least_of) .none kV11 dc11 pm11 an11 cd11 ct11), sl11⟩)
    (c11 : PySem.W.codeIn K cd11 "least_of" = true)
    (k11 : PySem.W.keepIn K (.ref f11) = true)
    (a12 : PySem.W.nsIn K mainGlobals "taken" = some (some (.ref f12)))
    (l12 : K.lookup f12 = some ⟨oc12, od12, .func (PySem.W.fnOf "taken" "taken" (defArgs s_taken) (defBody s_taken) (defScope s_taken) .none kV12 dc12 pm12 an12 cd12 ct12), sl12⟩)
    (c12 : PySem.W.codeIn K cd12 "taken" = true)
    (k12 : PySem.W.keepIn K (.ref f12) = true)
    (a13 : PySem.W.nsIn K mainGlobals "rest_by" = some (some (.ref f13)))
    (l13 : K.lookup f13 = some ⟨oc13, od13, .func (PySem.W.fnOf "rest_by" "rest_by" (defArgs s_rest_by) (defBody s_rest_by) (defScope s_rest_by) .none kV13 dc13 pm13 an13 cd13 ct13), sl13⟩)
    (c13 : PySem.W.codeIn K cd13 "rest_by" = true)
    (k13 : PySem.W.keepIn K (.ref f13) = true)
    (a14 : PySem.W.nsIn K mainGlobals "begun" = some (some (.ref f14)))
    (l14 : K.lookup f14 = some ⟨oc14, od14, .func (PySem.W.fnOf "begun" "begun" (defArgs s_begun) (defBody s_begun) (defScope s_begun) .none kV14 dc14 pm14 an14 cd14 ct14), sl14⟩)
    (c14 : PySem.W.codeIn K cd14 "begun" = true)
    (k14 : PySem.W.keepIn K (.ref f14) = true)
    (a15 : PySem.W.nsIn K mainGlobals "told" = some (some (.ref f15)))
    (l15 : K.lookup f15 = some ⟨oc15, od15, .func (PySem.W.fnOf "told" "told" (defArgs s_told) (defBody s_told) (defScope s_told) .none kV15 dc15 pm15 an15 cd15 ct15), sl15⟩)
    (c15 : PySem.W.codeIn K cd15 "told" = true)
    (k15 : PySem.W.keepIn K (.ref f15) = true)
    (a16 : PySem.W.nsIn K mainGlobals "rest_of" = some (some (.ref f16)))
    (l16 : K.lookup f16 = some ⟨oc16, od16, .func (PySem.W.fnOf "rest_of" "rest_of" (defArgs s_rest_of) (defBody s_rest_of) (defScope s_rest_of) .none kV16 dc16 pm16 an16 cd16 ct16), sl16⟩)
    (c16 : PySem.W.codeIn K cd16 "rest_of" = true)
    (k16 : PySem.W.keepIn K (.ref f16) = true)
    (a17 : PySem.W.nsIn K mainGlobals "common_begin" = some (some (.ref f17)))
    (l17 : K.lookup f17 = some ⟨oc17, od17, .func (PySem.W.fnOf "common_begin" "common_begin" (defArgs s_common_begin) (defBody s_common_begin) (defScope s_common_begin) .none kV17 dc17 pm17 an17 cd17 ct17), sl17⟩)
    (c17 : PySem.W.codeIn K cd17 "common_begin" = true)
    (k17 : PySem.W.keepIn K (.ref f17) = true)
    (a18 : PySem.W.nsIn K mainGlobals "continued" = some (some (.ref f18)))
    (l18 : K.lookup f18 = some ⟨oc18, od18, .func (PySem.W.fnOf "continued" "continued" (defArgs s_continued) (defBody s_continued) (defScope s_continued) .none kV18 dc18 pm18 an18 cd18 ct18), sl18⟩)
    (c18 : PySem.W.codeIn K cd18 "continued" = true)
    (k18 : PySem.W.keepIn K (.ref f18) = true)
    (a19 : PySem.W.nsIn K mainGlobals "logs_of" = some (some (.ref f19)))
    (l19 : K.lookup f19 = some ⟨oc19, od19, .func (PySem.W.fnOf "logs_of" "logs_of" (defArgs s_logs_of) (defBody s_logs_of) (defScope s_logs_of) .none kV19 dc19 pm19 an19 cd19 ct19), sl19⟩)
    (c19 : PySem.W.codeIn K cd19 "logs_of" = true)
    (k19 : PySem.W.keepIn K (.ref f19) = true)
    (a20 : PySem.W.nsIn K mainGlobals "is_log" = some (some (.ref f20)))
    (l20 : K.lookup f20 = some ⟨oc20, od20, .func (PySem.W.fnOf "is_log" "is_log" (defArgs s_is_log) (defBody s_is_log) (defScope s_is_log) .none kV20 dc20 pm20 an20 cd20 ct20), sl20⟩)
    (c20 : PySem.W.codeIn K cd20 "is_log" = true)
    (k20 : PySem.W.keepIn K (.ref f20) = true)
    (a21 : PySem.W.nsIn K mainGlobals "are_logs" = some (some (.ref f21)))
    (l21 : K.lookup f21 = some ⟨oc21, od21, .func (PySem.W.fnOf "are_logs" "are_logs" (defArgs s_are_logs) (defBody s_are_logs) (defScope s_are_logs) .none kV21 dc21 pm21 an21 cd21 ct21), sl21⟩)
    (c21 : PySem.W.codeIn K cd21 "are_logs" = true)
    (k21 : PySem.W.keepIn K (.ref f21) = true)
    (a22 : PySem.W.nsIn K mainGlobals "need_logs" = some (some (.ref f22)))
    (l22 : K.lookup f22 = some ⟨oc22, od22, .func (PySem.W.fnOf "need_logs" "need_logs" (defArgs s_need_logs) (defBody s_need_logs) (defScope s_need_logs) .none kV22 dc22 pm22 an22 cd22 ct22), sl22⟩)
    (c22 : PySem.W.codeIn K cd22 "need_logs" = true)
    (k22 : PySem.W.keepIn K (.ref f22) = true)
    (a23 : PySem.W.nsIn K mainGlobals "is_ready" = some (some (.ref f23)))
    (l23 : K.lookup f23 = some ⟨oc23, od23, .func (PySem.W.fnOf "is_ready" "is_ready" (defArgs s_is_ready) (defBody s_is_ready) (defScope s_is_ready) .none kV23 dc23 pm23 an23 cd23 ct23), sl23⟩)
    (c23 : PySem.W.codeIn K cd23 "is_ready" = true)
    (k23 : PySem.W.keepIn K (.ref f23) = true)
    (a24 : PySem.W.nsIn K mainGlobals "done_by" = some (some (.ref f24)))
    (l24 : K.lookup f24 = some ⟨oc24, od24, .func (PySem.W.fnOf "done_by" "done_by" (defArgs s_done_by) (defBody s_done_by) (defScope s_done_by) .none kV24 dc24 pm24 an24 cd24 ct24), sl24⟩)
    (c24 : PySem.W.codeIn K cd24 "done_by" = true)
    (k24 : PySem.W.keepIn K (.ref f24) = true)
    (a25 : PySem.W.nsIn K mainGlobals "joined" = some (some (.ref f25)))
    (l25 : K.lookup f25 = some ⟨oc25, od25, .func (PySem.W.fnOf "joined" "joined" (defArgs s_joined) (defBody s_joined) (defScope s_joined) .none kV25 dc25 pm25 an25 cd25 ct25), sl25⟩)
    (c25 : PySem.W.codeIn K cd25 "joined" = true)
    (k25 : PySem.W.keepIn K (.ref f25) = true)
    (a26 : PySem.W.nsIn K mainGlobals "_law_start" = some (some (.ref f26)))
    (l26 : K.lookup f26 = some ⟨oc26, od26, .func (PySem.W.fnOf "_law_start" "_law_start" (defArgs s_law_start) (defBody s_law_start) (defScope s_law_start) .none kV26 dc26 pm26 an26 cd26 ct26), sl26⟩)
    (c26 : PySem.W.codeIn K cd26 "_law_start" = true)
    (k26 : PySem.W.keepIn K (.ref f26) = true)
    (a27 : PySem.W.nsIn K mainGlobals "_law_below" = some (some (.ref f27)))
    (l27 : K.lookup f27 = some ⟨oc27, od27, .func (PySem.W.fnOf "_law_below" "_law_below" (defArgs s_law_below) (defBody s_law_below) (defScope s_law_below) .none kV27 dc27 pm27 an27 cd27 ct27), sl27⟩)
    (c27 : PySem.W.codeIn K cd27 "_law_below" = true)
    (k27 : PySem.W.keepIn K (.ref f27) = true)
    (a28 : PySem.W.nsIn K mainGlobals "_law_pick" = some (some (.ref f28)))
    (l28 : K.lookup f28 = some ⟨oc28, od28, .func (PySem.W.fnOf "_law_pick" "_law_pick" (defArgs s_law_pick) (defBody s_law_pick) (defScope s_law_pick) .none kV28 dc28 pm28 an28 cd28 ct28), sl28⟩)
    (c28 : PySem.W.codeIn K cd28 "_law_pick" = true)
    (k28 : PySem.W.keepIn K (.ref f28) = true)
    (a29 : PySem.W.nsIn K mainGlobals "_law_mixed" = some (some (.ref f29)))
    (l29 : K.lookup f29 = some ⟨oc29, od29, .func (PySem.W.fnOf "_law_mixed" "_law_mixed" (defArgs s_law_mixed) (defBody s_law_mixed) (defScope s_law_mixed) .none kV29 dc29 pm29 an29 cd29 ct29), sl29⟩)
    (c29 : PySem.W.codeIn K cd29 "_law_mixed" = true)
    (k29 : PySem.W.keepIn K (.ref f29) = true)
    (a30 : PySem.W.nsIn K mainGlobals "_law_mcrew" = some (some (.ref f30)))
    (l30 : K.lookup f30 = some ⟨oc30, od30, .func (PySem.W.fnOf "_law_mcrew" "_law_mcrew" (defArgs s_law_mcrew) (defBody s_law_mcrew) (defScope s_law_mcrew) .none kV30 dc30 pm30 an30 cd30 ct30), sl30⟩)
    (c30 : PySem.W.codeIn K cd30 "_law_mcrew" = true)
    (k30 : PySem.W.keepIn K (.ref f30) = true)
    (a31 : PySem.W.nsIn K mainGlobals "_law_mmade_crew" = some (some (.ref f31)))
    (l31 : K.lookup f31 = some ⟨oc31, od31, .func (PySem.W.fnOf "_law_mmade_crew" "_law_mmade_crew" (defArgs s_law_mmade_crew) (defBody s_law_mmade_crew) (defScope s_law_mmade_crew) .none kV31 dc31 pm31 an31 cd31 ct31), sl31⟩)
    (c31 : PySem.W.codeIn K cd31 "_law_mmade_crew" = true)
    (k31 : PySem.W.keepIn K (.ref f31) = true)
    (a32 : PySem.W.nsIn K mainGlobals "_law_mis_apart" = some (some (.ref f32)))
    (l32 : K.lookup f32 = some ⟨oc32, od32, .func (PySem.W.fnOf "_law_mis_apart" "_law_mis_apart" (defArgs s_law_mis_apart) (defBody s_law_mis_apart) (defScope s_law_mis_apart) .none kV32 dc32 pm32 an32 cd32 ct32), sl32⟩)
    (c32 : PySem.W.codeIn K cd32 "_law_mis_apart" = true)
    (k32 : PySem.W.keepIn K (.ref f32) = true)
    (a33 : PySem.W.nsIn K mainGlobals "_law_mrow" = some (some (.ref f33)))
    (l33 : K.lookup f33 = some ⟨oc33, od33, .func (PySem.W.fnOf "_law_mrow" "_law_mrow" (defArgs s_law_mrow) (defBody s_law_mrow) (defScope s_law_mrow) .none kV33 dc33 pm33 an33 cd33 ct33), sl33⟩)
    (c33 : PySem.W.codeIn K cd33 "_law_mrow" = true)
    (k33 : PySem.W.keepIn K (.ref f33) = true)
    (a34 : PySem.W.nsIn K mainGlobals "_law_mfronts" = some (some (.ref f34)))
    (l34 : K.lookup f34 = some ⟨oc34, od34, .func (PySem.W.fnOf "_law_mfronts" "_law_mfronts" (defArgs s_law_mfronts) (defBody s_law_mfronts) (defScope s_law_mfronts) .none kV34 dc34 pm34 an34 cd34 ct34), sl34⟩)
    (c34 : PySem.W.codeIn K cd34 "_law_mfronts" = true)
    (k34 : PySem.W.keepIn K (.ref f34) = true)
    (a35 : PySem.W.nsIn K mainGlobals "_law_mleast" = some (some (.ref f35)))
    (l35 : K.lookup f35 = some ⟨oc35, od35, .func (PySem.W.fnOf "_law_mleast" "_law_mleast" (defArgs s_law_mleast) (defBody s_law_mleast) (defScope s_law_mleast) .none kV35 dc35 pm35 an35 cd35 ct35), sl35⟩)
    (c35 : PySem.W.codeIn K cd35 "_law_mleast" = true)
    (k35 : PySem.W.keepIn K (.ref f35) = true)
    (a36 : PySem.W.nsIn K mainGlobals "_law_mshuffled" = some (some (.ref f36)))
    (l36 : K.lookup f36 = some ⟨oc36, od36, .func (PySem.W.fnOf "_law_mshuffled" "_law_mshuffled" (defArgs s_law_mshuffled) (defBody s_law_mshuffled) (defScope s_law_mshuffled) .none kV36 dc36 pm36 an36 cd36 ct36), sl36⟩)
    (c36 : PySem.W.codeIn K cd36 "_law_mshuffled" = true)
    (k36 : PySem.W.keepIn K (.ref f36) = true)
    (a37 : PySem.W.nsIn K mainGlobals "_law_mtaken" = some (some (.ref f37)))
    (l37 : K.lookup f37 = some ⟨oc37, od37, .func (PySem.W.fnOf "_law_mtaken" "_law_mtaken" (defArgs s_law_mtaken) (defBody s_law_mtaken) (defScope s_law_mtaken) .none kV37 dc37 pm37 an37 cd37 ct37), sl37⟩)
    (c37 : PySem.W.codeIn K cd37 "_law_mtaken" = true)
    (k37 : PySem.W.keepIn K (.ref f37) = true)
    (a38 : PySem.W.nsIn K mainGlobals "_law_mrest" = some (some (.ref f38)))
    (l38 : K.lookup f38 = some ⟨oc38, od38, .func (PySem.W.fnOf "_law_mrest" "_law_mrest" (defArgs s_law_mrest) (defBody s_law_mrest) (defScope s_law_mrest) .none kV38 dc38 pm38 an38 cd38 ct38), sl38⟩)
    (c38 : PySem.W.codeIn K cd38 "_law_mrest" = true)
    (k38 : PySem.W.keepIn K (.ref f38) = true)
    (a39 : PySem.W.nsIn K mainGlobals "_law_mbeginnings" = some (some (.ref f39)))
    (l39 : K.lookup f39 = some ⟨oc39, od39, .func (PySem.W.fnOf "_law_mbeginnings" "_law_mbeginnings" (defArgs s_law_mbeginnings) (defBody s_law_mbeginnings) (defScope s_law_mbeginnings) .none kV39 dc39 pm39 an39 cd39 ct39), sl39⟩)
    (c39 : PySem.W.codeIn K cd39 "_law_mbeginnings" = true)
    (k39 : PySem.W.keepIn K (.ref f39) = true)
    (a40 : PySem.W.nsIn K mainGlobals "_law_mtwo" = some (some (.ref f40)))
    (l40 : K.lookup f40 = some ⟨oc40, od40, .func (PySem.W.fnOf "_law_mtwo" "_law_mtwo" (defArgs s_law_mtwo) (defBody s_law_mtwo) (defScope s_law_mtwo) .none kV40 dc40 pm40 an40 cd40 ct40), sl40⟩)
    (c40 : PySem.W.codeIn K cd40 "_law_mtwo" = true)
    (k40 : PySem.W.keepIn K (.ref f40) = true)
    (a41 : PySem.W.nsIn K mainGlobals "_law_mhands" = some (some (.ref f41)))
    (l41 : K.lookup f41 = some ⟨oc41, od41, .func (PySem.W.fnOf "_law_mhands" "_law_mhands" (defArgs s_law_mhands) (defBody s_law_mhands) (defScope s_law_mhands) .none kV41 dc41 pm41 an41 cd41 ct41), sl41⟩)
    (c41 : PySem.W.codeIn K cd41 "_law_mhands" = true)
    (k41 : PySem.W.keepIn K (.ref f41) = true)
    (a42 : PySem.W.nsIn K mainGlobals "_law_same" = some (some (.ref f42)))
    (l42 : K.lookup f42 = some ⟨oc42, od42, .func (PySem.W.fnOf "_law_same" "_law_same" (defArgs s_law_same) (defBody s_law_same) (defScope s_law_same) .none kV42 dc42 pm42 an42 cd42 ct42), sl42⟩)
    (c42 : PySem.W.codeIn K cd42 "_law_same" = true)
    (k42 : PySem.W.keepIn K (.ref f42) = true)
    (a43 : PySem.W.nsIn K mainGlobals "law" = some (some (.ref f43)))
    (l43 : K.lookup f43 = some ⟨oc43, od43, .func (PySem.W.fnOf "law" "law" (defArgs s_law) (defBody s_law) (defScope s_law) .none kV43 dc43 pm43 an43 cd43 ct43), sl43⟩)
    (c43 : PySem.W.codeIn K cd43 "law" = true)
    (k43 : PySem.W.keepIn K (.ref f43) = true)
    (gLETTERS : PySem.W.nsIn K mainGlobals "LETTERS" = some (some (.str "abcdefghijklmnopqrstuvwxyz" t0)))
    (gFIGURES : PySem.W.nsIn K mainGlobals "FIGURES" = some (some (.str "0123456789" t1)))
    (gMOST_DEEDS : PySem.W.nsIn K mainGlobals "MOST_DEEDS" = some (some (.int 8 t2)))
    (gMOST_HANDS : PySem.W.nsIn K mainGlobals "MOST_HANDS" = some (some (.int 5 t3)))
    (gMOST_LONG : PySem.W.nsIn K mainGlobals "MOST_LONG" = some (some (.int 200 t4)))
    (zall : PySem.W.nsIn K mainGlobals "all" = some none)
    (zany : PySem.W.nsIn K mainGlobals "any" = some none)
    (zbool : PySem.W.nsIn K mainGlobals "bool" = some none)
    (zdict : PySem.W.nsIn K mainGlobals "dict" = some none)
    (zenumerate : PySem.W.nsIn K mainGlobals "enumerate" = some none)
    (zint : PySem.W.nsIn K mainGlobals "int" = some none)
    (zisinstance : PySem.W.nsIn K mainGlobals "isinstance" = some none)
    (zlen : PySem.W.nsIn K mainGlobals "len" = some none)
    (zlist : PySem.W.nsIn K mainGlobals "list" = some none)
    (zrange : PySem.W.nsIn K mainGlobals "range" = some none)
    (zsorted : PySem.W.nsIn K mainGlobals "sorted" = some none)
    (zstr : PySem.W.nsIn K mainGlobals "str" = some none)
    (ztuple : PySem.W.nsIn K mainGlobals "tuple" = some none)
    (zzip : PySem.W.nsIn K mainGlobals "zip" = some none)
    : ∃ fd : FuncData, (∀ (s : Shared) (v : Value), BindsTo s fd ⟨[v], []⟩ [("script", v)]) ∧ ∀ base : Heap, K.In base → base.Ns mainGlobals mg → FnOk l.prog w K mg base CX0 8 fa fd ["script"] (spLaw K) := by
  have e := hfa.symm.trans (PySem.W.mg_of X G a43)
  cases e
  let A : Ad := { a_is_word := f0, fd_is_word := (PySem.W.fnOf "is_word" "is_word" (defArgs s_is_word) (defBody s_is_word) (defScope s_is_word) .none kV0 dc0 pm0 an0 cd0 ct0), a_is_name := f1, fd_is_name := (PySem.W.fnOf "is_name" "is_name" (defArgs s_is_name) (defBody s_is_name) (defScope s_is_name) .none kV1 dc1 pm1 an1 cd1 ct1), a_are_hands := f2, fd_are_hands := (PySem.W.fnOf "are_hands" "are_hands" (defArgs s_are_hands) (defBody s_are_hands) (defScope s_are_hands) .none kV2 dc2 pm2 an2 cd2 ct2), a_are_deeds := f3, fd_are_deeds := (PySem.W.fnOf "are_deeds" "are_deeds" (defArgs s_are_deeds) (defBody s_are_deeds) (defScope s_are_deeds) .none kV3 dc3 pm3 an3 cd3 ct3), a_Crew_init := f4, fd_Crew_init := (PySem.W.fnOf "__init__" "Crew.__init__" (defArgs s_Crew_init) (defBody s_Crew_init) (defScope s_Crew_init) .none kV4 dc4 pm4 an4 cd4 ct4), a_apart := f5, fd_apart := (PySem.W.fnOf "apart" "apart" (defArgs s_apart) (defBody s_apart) (defScope s_apart) .none kV5 dc5 pm5 an5 cd5 ct5), a_need_crew := f6, fd_need_crew := (PySem.W.fnOf "need_crew" "need_crew" (defArgs s_need_crew) (defBody s_need_crew) (defScope s_need_crew) .none kV6 dc6 pm6 an6 cd6 ct6), a_is_row := f7, fd_is_row := (PySem.W.fnOf "is_row" "is_row" (defArgs s_is_row) (defBody s_is_row) (defScope s_is_row) .none kV7 dc7 pm7 an7 cd7 ct7), a_need_row := f8, fd_need_row := (PySem.W.fnOf "need_row" "need_row" (defArgs s_need_row) (defBody s_need_row) (defScope s_need_row) .none kV8 dc8 pm8 an8 cd8 ct8), a_need_second := f9, fd_need_second := (PySem.W.fnOf "need_second" "need_second" (defArgs s_need_second) (defBody s_need_second) (defScope s_need_second) .none kV9 dc9 pm9 an9 cd9 ct9), a_seen_by := f10, fd_seen_by := (PySem.W.fnOf "seen_by" "seen_by" (defArgs s_seen_by) (defBody s_seen_by) (defScope s_seen_by) .none kV10 dc10 pm10 an10 cd10 ct10), a_least_of := f11, fd_least_of := (PySem.W.fnOf "least_of" "least_of" (defArgs s_least_of) (defBody s_least_of) (defScope s_least_of) .none kV11 dc11 pm11 an11 cd11 ct11), a_taken := f12, fd_taken := (PySem.W.fnOf "taken" "taken" (defArgs s_taken) (defBody s_taken) (defScope s_taken) .none kV12 dc12 pm12 an12 cd12 ct12), a_rest_by := f13, fd_rest_by := (PySem.W.fnOf "rest_by" "rest_by" (defArgs s_rest_by) (defBody s_rest_by) (defScope s_rest_by) .none kV13 dc13 pm13 an13 cd13 ct13), a_begun := f14, fd_begun := (PySem.W.fnOf "begun" "begun" (defArgs s_begun) (defBody s_begun) (defScope s_begun) .none kV14 dc14 pm14 an14 cd14 ct14), a_told := f15, fd_told := (PySem.W.fnOf "told" "told" (defArgs s_told) (defBody s_told) (defScope s_told) .none kV15 dc15 pm15 an15 cd15 ct15), a_rest_of := f16, fd_rest_of := (PySem.W.fnOf "rest_of" "rest_of" (defArgs s_rest_of) (defBody s_rest_of) (defScope s_rest_of) .none kV16 dc16 pm16 an16 cd16 ct16), a_common_begin := f17, fd_common_begin := (PySem.W.fnOf "common_begin" "common_begin" (defArgs s_common_begin) (defBody s_common_begin) (defScope s_common_begin) .none kV17 dc17 pm17 an17 cd17 ct17), a_continued := f18, fd_continued := (PySem.W.fnOf "continued" "continued" (defArgs s_continued) (defBody s_continued) (defScope s_continued) .none kV18 dc18 pm18 an18 cd18 ct18), a_logs_of := f19, fd_logs_of := (PySem.W.fnOf "logs_of" "logs_of" (defArgs s_logs_of) (defBody s_logs_of) (defScope s_logs_of) .none kV19 dc19 pm19 an19 cd19 ct19), a_is_log := f20, fd_is_log := (PySem.W.fnOf "is_log" "is_log" (defArgs s_is_log) (defBody s_is_log) (defScope s_is_log) .none kV20 dc20 pm20 an20 cd20 ct20), a_are_logs := f21, fd_are_logs := (PySem.W.fnOf "are_logs" "are_logs" (defArgs s_are_logs) (defBody s_are_logs) (defScope s_are_logs) .none kV21 dc21 pm21 an21 cd21 ct21), a_need_logs := f22, fd_need_logs := (PySem.W.fnOf "need_logs" "need_logs" (defArgs s_need_logs) (defBody s_need_logs) (defScope s_need_logs) .none kV22 dc22 pm22 an22 cd22 ct22), a_is_ready := f23, fd_is_ready := (PySem.W.fnOf "is_ready" "is_ready" (defArgs s_is_ready) (defBody s_is_ready) (defScope s_is_ready) .none kV23 dc23 pm23 an23 cd23 ct23), a_done_by := f24, fd_done_by := (PySem.W.fnOf "done_by" "done_by" (defArgs s_done_by) (defBody s_done_by) (defScope s_done_by) .none kV24 dc24 pm24 an24 cd24 ct24), a_joined := f25, fd_joined := (PySem.W.fnOf "joined" "joined" (defArgs s_joined) (defBody s_joined) (defScope s_joined) .none kV25 dc25 pm25 an25 cd25 ct25), a_law_start := f26, fd_law_start := (PySem.W.fnOf "_law_start" "_law_start" (defArgs s_law_start) (defBody s_law_start) (defScope s_law_start) .none kV26 dc26 pm26 an26 cd26 ct26), a_law_below := f27, fd_law_below := (PySem.W.fnOf "_law_below" "_law_below" (defArgs s_law_below) (defBody s_law_below) (defScope s_law_below) .none kV27 dc27 pm27 an27 cd27 ct27), a_law_pick := f28, fd_law_pick := (PySem.W.fnOf "_law_pick" "_law_pick" (defArgs s_law_pick) (defBody s_law_pick) (defScope s_law_pick) .none kV28 dc28 pm28 an28 cd28 ct28), a_law_mixed := f29, fd_law_mixed := (PySem.W.fnOf "_law_mixed" "_law_mixed" (defArgs s_law_mixed) (defBody s_law_mixed) (defScope s_law_mixed) .none kV29 dc29 pm29 an29 cd29 ct29), a_law_mcrew := f30, fd_law_mcrew := (PySem.W.fnOf "_law_mcrew" "_law_mcrew" (defArgs s_law_mcrew) (defBody s_law_mcrew) (defScope s_law_mcrew) .none kV30 dc30 pm30 an30 cd30 ct30), a_law_mmade_crew := f31, fd_law_mmade_crew := (PySem.W.fnOf "_law_mmade_crew" "_law_mmade_crew" (defArgs s_law_mmade_crew) (defBody s_law_mmade_crew) (defScope s_law_mmade_crew) .none kV31 dc31 pm31 an31 cd31 ct31), a_law_mis_apart := f32, fd_law_mis_apart := (PySem.W.fnOf "_law_mis_apart" "_law_mis_apart" (defArgs s_law_mis_apart) (defBody s_law_mis_apart) (defScope s_law_mis_apart) .none kV32 dc32 pm32 an32 cd32 ct32), a_law_mrow := f33, fd_law_mrow := (PySem.W.fnOf "_law_mrow" "_law_mrow" (defArgs s_law_mrow) (defBody s_law_mrow) (defScope s_law_mrow) .none kV33 dc33 pm33 an33 cd33 ct33), a_law_mfronts := f34, fd_law_mfronts := (PySem.W.fnOf "_law_mfronts" "_law_mfronts" (defArgs s_law_mfronts) (defBody s_law_mfronts) (defScope s_law_mfronts) .none kV34 dc34 pm34 an34 cd34 ct34), a_law_mleast := f35, fd_law_mleast := (PySem.W.fnOf "_law_mleast" "_law_mleast" (defArgs s_law_mleast) (defBody s_law_mleast) (defScope s_law_mleast) .none kV35 dc35 pm35 an35 cd35 ct35), a_law_mshuffled := f36, fd_law_mshuffled := (PySem.W.fnOf "_law_mshuffled" "_law_mshuffled" (defArgs s_law_mshuffled) (defBody s_law_mshuffled) (defScope s_law_mshuffled) .none kV36 dc36 pm36 an36 cd36 ct36), a_law_mtaken := f37, fd_law_mtaken := (PySem.W.fnOf "_law_mtaken" "_law_mtaken" (defArgs s_law_mtaken) (defBody s_law_mtaken) (defScope s_law_mtaken) .none kV37 dc37 pm37 an37 cd37 ct37), a_law_mrest := f38, fd_law_mrest := (PySem.W.fnOf "_law_mrest" "_law_mrest" (defArgs s_law_mrest) (defBody s_law_mrest) (defScope s_law_mrest) .none kV38 dc38 pm38 an38 cd38 ct38), a_law_mbeginnings := f39, fd_law_mbeginnings := (PySem.W.fnOf "_law_mbeginnings" "_law_mbeginnings" (defArgs s_law_mbeginnings) (defBody s_law_mbeginnings) (defScope s_law_mbeginnings) .none kV39 dc39 pm39 an39 cd39 ct39), a_law_mtwo := f40, fd_law_mtwo := (PySem.W.fnOf "_law_mtwo" "_law_mtwo" (defArgs s_law_mtwo) (defBody s_law_mtwo) (defScope s_law_mtwo) .none kV40 dc40 pm40 an40 cd40 ct40), a_law_mhands := f41, fd_law_mhands := (PySem.W.fnOf "_law_mhands" "_law_mhands" (defArgs s_law_mhands) (defBody s_law_mhands) (defScope s_law_mhands) .none kV41 dc41 pm41 an41 cd41 ct41), a_law_same := f42, fd_law_same := (PySem.W.fnOf "_law_same" "_law_same" (defArgs s_law_same) (defBody s_law_same) (defScope s_law_same) .none kV42 dc42 pm42 an42 cd42 ct42), a_law := fa, fd_law := (PySem.W.fnOf "law" "law" (defArgs s_law) (defBody s_law) (defScope s_law) .none kV43 dc43 pm43 an43 cd43 ct43), CCrew := C }
  have cls : Cls K C := ⟨pg, hd, po, sa⟩
  have Q : CrewOk K A := ⟨cls, nT, nE, ⟨cls, hha, hhn, htk, hmr, if_pos (beq_self_eq_true _)⟩⟩
  have F0 := fun_mk (st := s_is_word) l0 c0 k0
  have F1 := fun_mk (st := s_is_name) l1 c1 k1
  have F2 := fun_mk (st := s_are_hands) l2 c2 k2
  have F3 := fun_mk (st := s_are_deeds) l3 c3 k3
  have F4 := fun_mk (st := s_Crew_init) l4 c4 k4
  have F5 := fun_mk (st := s_apart) l5 c5 k5
  have F6 := fun_mk (st := s_need_crew) l6 c6 k6
  have F7 := fun_mk (st := s_is_row) l7 c7 k7
  have F8 := fun_mk (st := s_need_row) l8 c8 k8
  have F9 := fun_mk (st := s_need_second) l9 c9 k9
  have F10 := fun_mk (st := s_seen_by) l10 c10 k10
  have F11 := fun_mk (st := s_least_of) l11 c11 k11
  have F12 := fun_mk (st := s_taken) l12 c12 k12
  have F13 := fun_mk (st := s_rest_by) l13 c13 k13
  have F14 := fun_mk (st := s_begun) l14 c14 k14
  have F15 := fun_mk (st := s_told) l15 c15 k15
  have F16 := fun_mk (st := s_rest_of) l16 c16 k16
  have F17 := fun_mk (st := s_common_begin) l17 c17 k17
  have F18 := fun_mk (st := s_continued) l18 c18 k18
  have F19 := fun_mk (st := s_logs_of) l19 c19 k19
  have F20 := fun_mk (st := s_is_log) l20 c20 k20
  have F21 := fun_mk (st := s_are_logs) l21 c21 k21
  have F22 := fun_mk (st := s_need_logs) l22 c22 k22
  have F23 := fun_mk (st := s_is_ready) l23 c23 k23
  have F24 := fun_mk (st := s_done_by) l24 c24 k24
  have F25 := fun_mk (st := s_joined) l25 c25 k25
  have F26 := fun_mk (st := s_law_start) l26 c26 k26
  have F27 := fun_mk (st := s_law_below) l27 c27 k27
  have F28 := fun_mk (st := s_law_pick) l28 c28 k28
  have F29 := fun_mk (st := s_law_mixed) l29 c29 k29
  have F30 := fun_mk (st := s_law_mcrew) l30 c30 k30
  have F31 := fun_mk (st := s_law_mmade_crew) l31 c31 k31
  have F32 := fun_mk (st := s_law_mis_apart) l32 c32 k32
  have F33 := fun_mk (st := s_law_mrow) l33 c33 k33
  have F34 := fun_mk (st := s_law_mfronts) l34 c34 k34
  have F35 := fun_mk (st := s_law_mleast) l35 c35 k35
  have F36 := fun_mk (st := s_law_mshuffled) l36 c36 k36
  have F37 := fun_mk (st := s_law_mtaken) l37 c37 k37
  have F38 := fun_mk (st := s_law_mrest) l38 c38 k38
  have F39 := fun_mk (st := s_law_mbeginnings) l39 c39 k39
  have F40 := fun_mk (st := s_law_mtwo) l40 c40 k40
  have F41 := fun_mk (st := s_law_mhands) l41 c41 k41
  have F42 := fun_mk (st := s_law_same) l42 c42 k42
  have F43 := fun_mk (st := s_law) l43 c43 k43
  have b0 := F0.binds (ps := ["thing"]) fun _ _ _ _ _ _ us hl => match us, hl with | [_], _ => rfl
  have b1 := F1.binds (ps := ["thing"]) fun _ _ _ _ _ _ us hl => match us, hl with | [_], _ => rfl
  have b2 := F2.binds (ps := ["thing"]) fun _ _ _ _ _ _ us hl => match us, hl with | [_], _ => rfl
  have b3 := F3.binds (ps := ["thing"]) fun _ _ _ _ _ _ us hl => match us, hl with | [_], _ => rfl
  have b4 := F4.binds (ps := ["self", "deeds"]) fun _ _ _ _ _ _ us hl => match us, hl with | [_, _], _ => rfl
  have b5 := F5.binds (ps := ["crew", "deed", "other"]) fun _ _ _ _ _ _ us hl => match us, hl with | [_, _, _], _ => rfl
  have b6 := F6.binds (ps := ["crew"]) fun _ _ _ _ _ _ us hl => match us, hl with | [_], _ => rfl
  have b7 := F7.binds (ps := ["crew", "thing"]) fun _ _ _ _ _ _ us hl => match us, hl with | [_, _], _ => rfl
  have b8 := F8.binds (ps := ["crew", "row"]) fun _ _ _ _ _ _ us hl => match us, hl with | [_, _], _ => rfl
  have b9 := F9.binds (ps := ["crew", "second"]) fun _ _ _ _ _ _ us hl => match us, hl with | [_, _], _ => rfl
  have b10 := F10.binds (ps := ["crew", "row", "hand"]) fun _ _ _ _ _ _ us hl => match us, hl with | [_, _, _], _ => rfl
  have b11 := F11.binds (ps := ["crew", "row"]) fun _ _ _ _ _ _ us hl => match us, hl with | [_, _], _ => rfl
  have b12 := F12.binds (ps := ["crew", "row", "deed"]) fun _ _ _ _ _ _ us hl => match us, hl with | [_, _, _], _ => rfl
  have b13 := F13.binds (ps := ["crew", "row", "second"]) fun _ _ _ _ _ _ us hl => match us, hl with | [_, _, _], _ => rfl
  have b14 := F14.binds (ps := ["crew", "row", "second"]) fun _ _ _ _ _ _ us hl => match us, hl with | [_, _, _], _ => rfl
  have b15 := F15.binds (ps := ["crew", "row"]) fun _ _ _ _ _ _ us hl => match us, hl with | [_, _], _ => rfl
  have b16 := F16.binds (ps := ["crew", "row", "second"]) fun _ _ _ _ _ _ us hl => match us, hl with | [_, _, _], _ => rfl
  have b17 := F17.binds (ps := ["crew", "row", "second"]) fun _ _ _ _ _ _ us hl => match us, hl with | [_, _, _], _ => rfl
  have b18 := F18.binds (ps := ["crew", "row", "second"]) fun _ _ _ _ _ _ us hl => match us, hl with | [_, _, _], _ => rfl
  have b19 := F19.binds (ps := ["crew", "row"]) fun _ _ _ _ _ _ us hl => match us, hl with | [_, _], _ => rfl
  have b20 := F20.binds (ps := ["crew", "hand", "thing"]) fun _ _ _ _ _ _ us hl => match us, hl with | [_, _, _], _ => rfl
  have b21 := F21.binds (ps := ["crew", "logs"]) fun _ _ _ _ _ _ us hl => match us, hl with | [_, _], _ => rfl
  have b22 := F22.binds (ps := ["crew", "logs"]) fun _ _ _ _ _ _ us hl => match us, hl with | [_, _], _ => rfl
  have b23 := F23.binds (ps := ["crew", "logs", "deed"]) fun _ _ _ _ _ _ us hl => match us, hl with | [_, _, _], _ => rfl
  have b24 := F24.binds (ps := ["crew", "told"]) fun _ _ _ _ _ _ us hl => match us, hl with | [_, _], _ => rfl
  have b25 := F25.binds (ps := ["crew", "logs"]) fun _ _ _ _ _ _ us hl => match us, hl with | [_, _], _ => rfl
  have b26 := F26.binds (ps := ["script"]) fun _ _ _ _ _ _ us hl => match us, hl with | [_], _ => rfl
  have b27 := F27.binds (ps := ["stream", "many"]) fun _ _ _ _ _ _ us hl => match us, hl with | [_, _], _ => rfl
  have b28 := F28.binds (ps := ["stream", "some"]) fun _ _ _ _ _ _ us hl => match us, hl with | [_, _], _ => rfl
  have b29 := F29.binds (ps := ["stream", "some"]) fun _ _ _ _ _ _ us hl => match us, hl with | [_, _], _ => rfl
  have b30 := F30.binds (ps := ["stream", "most"]) fun _ _ _ _ _ _ us hl => match us, hl with | [_, _], _ => rfl
  have b31 := F31.binds (ps := ["crew"]) fun _ _ _ _ _ _ us hl => match us, hl with | [_], _ => rfl
  have b32 := F32.binds (ps := ["crew", "one", "two"]) fun _ _ _ _ _ _ us hl => match us, hl with | [_, _, _], _ => rfl
  have b33 := F33.binds (ps := ["stream", "crew", "most"]) fun _ _ _ _ _ _ us hl => match us, hl with | [_, _, _], _ => rfl
  have b34 := F34.binds (ps := ["crew", "row"]) fun _ _ _ _ _ _ us hl => match us, hl with | [_, _], _ => rfl
  have b35 := F35.binds (ps := ["crew", "row"]) fun _ _ _ _ _ _ us hl => match us, hl with | [_, _], _ => rfl
  have b36 := F36.binds (ps := ["stream", "crew", "row"]) fun _ _ _ _ _ _ us hl => match us, hl with | [_, _, _], _ => rfl
  have b37 := F37.binds (ps := ["crew", "row", "deed"]) fun _ _ _ _ _ _ us hl => match us, hl with | [_, _, _], _ => rfl
  have b38 := F38.binds (ps := ["crew", "row", "second"]) fun _ _ _ _ _ _ us hl => match us, hl with | [_, _, _], _ => rfl
  have b39 := F39.binds (ps := ["crew", "row"]) fun _ _ _ _ _ _ us hl => match us, hl with | [_, _], _ => rfl
  have b40 := F40.binds (ps := ["ones", "others"]) fun _ _ _ _ _ _ us hl => match us, hl with | [_, _], _ => rfl
  have b41 := F41.binds (ps := ["crew"]) fun _ _ _ _ _ _ us hl => match us, hl with | [_], _ => rfl
  have b42 := F42.binds (ps := ["found", "due"]) fun _ _ _ _ _ _ us hl => match us, hl with | [_, _], _ => rfl
  have b43 := F43.binds (ps := ["script"]) fun _ _ _ _ _ _ us hl => match us, hl with | [_], _ => rfl
  have T : Tx K mg A := {
    F_is_word := F0,
    b_is_word := b0,
    g_is_word := PySem.W.mg_of X G a0,
    F_is_name := F1,
    b_is_name := b1,
    g_is_name := PySem.W.mg_of X G a1,
    F_are_hands := F2,
    b_are_hands := b2,
    g_are_hands := PySem.W.mg_of X G a2,
    F_are_deeds := F3,
    b_are_deeds := b3,
    g_are_deeds := PySem.W.mg_of X G a3,
    F_Crew_init := F4,
    b_Crew_init := b4,
    F_apart := F5,
    b_apart := b5,
    g_apart := PySem.W.mg_of X G a5,
    F_need_crew := F6,
    b_need_crew := b6,
    g_need_crew := PySem.W.mg_of X G a6,
    F_is_row := F7,
    b_is_row := b7,
    g_is_row := PySem.W.mg_of X G a7,
    F_need_row := F8,
    b_need_row := b8,
    g_need_row := PySem.W.mg_of X G a8,
    F_need_second := F9,
    b_need_second := b9,
    g_need_second := PySem.W.mg_of X G a9,
    F_seen_by := F10,
    b_seen_by := b10,
    g_seen_by := PySem.W.mg_of X G a10,
    F_least_of := F11,
    b_least_of := b11,
    g_least_of := PySem.W.mg_of X G a11,
    F_taken := F12,
    b_taken := b12,
    g_taken := PySem.W.mg_of X G a12,
    F_rest_by := F13,
    b_rest_by := b13,
    g_rest_by := PySem.W.mg_of X G a13,
    F_begun := F14,
    b_begun := b14,
    g_begun := PySem.W.mg_of X G a14,
    F_told := F15,
    b_told := b15,
    g_told := PySem.W.mg_of X G a15,
    F_rest_of := F16,
    b_rest_of := b16,
    g_rest_of := PySem.W.mg_of X G a16,
    F_common_begin := F17,
    b_common_begin := b17,
    g_common_begin := PySem.W.mg_of X G a17,
    F_continued := F18,
    b_continued := b18,
    g_continued := PySem.W.mg_of X G a18,
    F_logs_of := F19,
    b_logs_of := b19,
    g_logs_of := PySem.W.mg_of X G a19,
    F_is_log := F20,
    b_is_log := b20,
    g_is_log := PySem.W.mg_of X G a20,
    F_are_logs := F21,
    b_are_logs := b21,
    g_are_logs := PySem.W.mg_of X G a21,
    F_need_logs := F22,
    b_need_logs := b22,
    g_need_logs := PySem.W.mg_of X G a22,
    F_is_ready := F23,
    b_is_ready := b23,
    g_is_ready := PySem.W.mg_of X G a23,
    F_done_by := F24,
    b_done_by := b24,
    g_done_by := PySem.W.mg_of X G a24,
    F_joined := F25,
    b_joined := b25,
    g_joined := PySem.W.mg_of X G a25,
    F_law_start := F26,
    b_law_start := b26,
    g_law_start := PySem.W.mg_of X G a26,
    F_law_below := F27,
    b_law_below := b27,
    g_law_below := PySem.W.mg_of X G a27,
    F_law_pick := F28,
    b_law_pick := b28,
    g_law_pick := PySem.W.mg_of X G a28,
    F_law_mixed := F29,
    b_law_mixed := b29,
    g_law_mixed := PySem.W.mg_of X G a29,
    F_law_mcrew := F30,
    b_law_mcrew := b30,
    g_law_mcrew := PySem.W.mg_of X G a30,
    F_law_mmade_crew := F31,
    b_law_mmade_crew := b31,
    g_law_mmade_crew := PySem.W.mg_of X G a31,
    F_law_mis_apart := F32,
    b_law_mis_apart := b32,
    g_law_mis_apart := PySem.W.mg_of X G a32,
    F_law_mrow := F33,
    b_law_mrow := b33,
    g_law_mrow := PySem.W.mg_of X G a33,
    F_law_mfronts := F34,
    b_law_mfronts := b34,
    g_law_mfronts := PySem.W.mg_of X G a34,
    F_law_mleast := F35,
    b_law_mleast := b35,
    g_law_mleast := PySem.W.mg_of X G a35,
    F_law_mshuffled := F36,
    b_law_mshuffled := b36,
    g_law_mshuffled := PySem.W.mg_of X G a36,
    F_law_mtaken := F37,
    b_law_mtaken := b37,
    g_law_mtaken := PySem.W.mg_of X G a37,
    F_law_mrest := F38,
    b_law_mrest := b38,
    g_law_mrest := PySem.W.mg_of X G a38,
    F_law_mbeginnings := F39,
    b_law_mbeginnings := b39,
    g_law_mbeginnings := PySem.W.mg_of X G a39,
    F_law_mtwo := F40,
    b_law_mtwo := b40,
    g_law_mtwo := PySem.W.mg_of X G a40,
    F_law_mhands := F41,
    b_law_mhands := b41,
    g_law_mhands := PySem.W.mg_of X G a41,
    F_law_same := F42,
    b_law_same := b42,
    g_law_same := PySem.W.mg_of X G a42,
    F_law := F43,
    b_law := b43,
    g_law := PySem.W.mg_of X G a43,
    m_all := PySem.W.mg_none_of X G zall,
    m_any := PySem.W.mg_none_of X G zany,
    m_bool := PySem.W.mg_none_of X G zbool,
    m_dict := PySem.W.mg_none_of X G zdict,
    m_enumerate := PySem.W.mg_none_of X G zenumerate,
    m_int := PySem.W.mg_none_of X G zint,
    m_isinstance := PySem.W.mg_none_of X G zisinstance,
    m_len := PySem.W.mg_none_of X G zlen,
    m_list := PySem.W.mg_none_of X G zlist,
    m_range := PySem.W.mg_none_of X G zrange,
    m_sorted := PySem.W.mg_none_of X G zsorted,
    m_str := PySem.W.mg_none_of X G zstr,
    m_tuple := PySem.W.mg_none_of X G ztuple,
    m_zip := PySem.W.mg_none_of X G zzip,
    g_Crew := PySem.W.mg_of X G aC,
    g_LETTERS := ⟨_, PySem.W.mg_of X G gLETTERS⟩,
    g_FIGURES := ⟨_, PySem.W.mg_of X G gFIGURES⟩,
    g_MOST_DEEDS := ⟨_, PySem.W.mg_of X G gMOST_DEEDS⟩,
    g_MOST_HANDS := ⟨_, PySem.W.mg_of X G gMOST_HANDS⟩,
    g_MOST_LONG := ⟨_, PySem.W.mg_of X G gMOST_LONG⟩,
    mk_Crew := ⟨mk, a4, i4, kc⟩ }
  exact ⟨(PySem.W.fnOf "law" "law" (defArgs s_law) (defBody s_law) (defScope s_law) .none kV43 dc43 pm43 an43 cd43 ct43), fun s v => .of_eq rfl, fun base _ _ => ok_law Q T⟩
theorem walk {l : PySem.W.OpenLaw} {q : Program} {loose : List Str} {XP : (Str → Option Value) → Heap → Prop} {YP : World → Heap → Prop} {d : DefRec} {K : Params → PySem.W.Frag} (hn : l.most = some 63) (hdf : d.params.defaults = [])
    (hY : ∀ (w : World) (h : Heap), YP w h → (K w.params).In h)
    (F : ∀ (w : World) (mg : Str → Option Value) (fa : Addr) (h : Heap), (K w.params).In h → h.Ns mainGlobals mg → mg d.name = some (.ref fa) →
      ∃ fd : FuncData, (∀ (s : Shared) (u : Value), BindsTo s fd ⟨[u], []⟩ [("script", u)]) ∧ ∀ base : Heap, (K w.params).In base → base.Ns mainGlobals mg → FnOk l.prog w (K w.params) mg base CX0 8 fa fd ["script"] (spLaw (K w.params))) :
    PySem.W.WalkO q loose XP YP l.row.toRowW d [] (fun f vs => PySem.call f vs) :=
  L2.walk_of (n := 63) (k := 8) (x := "script") (CX := fun _ => CX0) (sp := fun w => spLaw (K w.params)) hn (by decide) hdf ⟨rfl, by decide, by decide⟩ hY F (fun _ _ a ns hl _ hS => law_end hS hl) fun _ _ _ _ _ z => z
end K61

open PySem PySem.W PyProof.Rows
set_option maxRecDepth 100000 in
set_option maxHeartbeats 0 in
theorem PySem.Challenge.cw_mingleddeeds_k61_whole_divided_by_logs_holds : PySem.Challenge.rw_mingleddeeds_k61_whole_divided_by_logs.Holds := by
  w_on; o_law; k_head; (case hw => w_witness2)
  k_fill
  refine K61.walk (l := PySem.Challenge.rw_mingleddeeds_k61_whole_divided_by_logs) rfl rfl (fun w h Y => PySem.W.kIn_of Y) ?F
  case F =>
    intro w mg fa h KX G hmg
    refine' K61.all_mk KX G hmg ?aC ?pg ?hd ?po ?sa ?mk ?kc ?nT ?nE ?hha ?hhn ?htk ?hmr ?a0 ?l0 ?c0 ?k0 ?a1 ?l1 ?c1 ?k1 ?a2 ?l2 ?c2 ?k2 ?a3 ?l3 ?c3 ?k3 ?a4 ?i4 ?l4 ?c4 ?k4 ?a5 ?l5 ?c5 ?k5 ?a6 ?l6 ?c6 ?k6 ?a7 ?l7 ?c7 ?k7 ?a8 ?l8 ?c8 ?k8 ?a9 ?l9 ?c9 ?k9 ?a10 ?l10 ?c10 ?k10 ?a11 ?l11 ?c11 ?k11 ?a12 ?l12 ?c12 ?k12 ?a13 ?l13 ?c13 ?k13 ?a14 ?l14 ?c14 ?k14 ?a15 ?l15 ?c15 ?k15 ?a16 ?l16 ?c16 ?k16 ?a17 ?l17 ?c17 ?k17 ?a18 ?l18 ?c18 ?k18 ?a19 ?l19 ?c19 ?k19 ?a20 ?l20 ?c20 ?k20 ?a21 ?l21 ?c21 ?k21 ?a22 ?l22 ?c22 ?k22 ?a23 ?l23 ?c23 ?k23 ?a24 ?l24 ?c24 ?k24 ?a25 ?l25 ?c25 ?k25 ?a26 ?l26 ?c26 ?k26 ?a27 ?l27 ?c27 ?k27 ?a28 ?l28 ?c28 ?k28 ?a29 ?l29 ?c29 ?k29 ?a30 ?l30 ?c30 ?k30 ?a31 ?l31 ?c31 ?k31 ?a32 ?l32 ?c32 ?k32 ?a33 ?l33 ?c33 ?k33 ?a34 ?l34 ?c34 ?k34 ?a35 ?l35 ?c35 ?k35 ?a36 ?l36 ?c36 ?k36 ?a37 ?l37 ?c37 ?k37 ?a38 ?l38 ?c38 ?k38 ?a39 ?l39 ?c39 ?k39 ?a40 ?l40 ?c40 ?k40 ?a41 ?l41 ?c41 ?k41 ?a42 ?l42 ?c42 ?k42 ?a43 ?l43 ?c43 ?k43 ?gLETTERS ?gFIGURES ?gMOST_DEEDS ?gMOST_HANDS ?gMOST_LONG ?zall ?zany ?zbool ?zdict ?zenumerate ?zint ?zisinstance ?zlen ?zlist ?zrange ?zsorted ?zstr ?ztuple ?zzip
    (case aC => k_is)
    (case pg => k_is)
    (case hd => k_is)
    (case po => k_is)
    (case sa => k_is)
    (case mk => k_is)
    (case kc => k_is)
    (case nT => k_is)
    (case nE => k_is)
    (case hha => k_is)
    (case hhn => k_is)
    (case htk => k_is)
    (case hmr => k_is)
    (case a0 => k_is)
    (case l0 => k_is)
    (case c0 => k_is)
    (case k0 => k_is)
    (case a1 => k_is)
    (case l1 => k_is)
    (case c1 => k_is)
    (case k1 => k_is)
    (case a2 => k_is)
    (case l2 => k_is)
    (case c2 => k_is)
    (case k2 => k_is)
    (case a3 => k_is)
    (case l3 => k_is)
    (case c3 => k_is)
    (case k3 => k_is)
    (case a4 => k_is)
    (case i4 => k_is)
    (case l4 => k_is)
    (case c4 => k_is)
    (case k4 => k_is)
    (case a5 => k_is)
    (case l5 => k_is)
    (case c5 => k_is)
    (case k5 => k_is)
    (case a6 => k_is)
    (case l6 => k_is)
    (case c6 => k_is)
    (case k6 => k_is)
    (case a7 => k_is)
    (case l7 => k_is)
    (case c7 => k_is)
    (case k7 => k_is)
    (case a8 => k_is)
    (case l8 => k_is)
    (case c8 => k_is)
    (case k8 => k_is)
    (case a9 => k_is)
    (case l9 => k_is)
    (case c9 => k_is)
    (case k9 => k_is)
    (case a10 => k_is)
    (case l10 => k_is)
    (case c10 => k_is)
    (case k10 => k_is)
    (case a11 => k_is)
    (case l11 => k_is)
    (case c11 => k_is)
    (case k11 => k_is)
    (case a12 => k_is)
    (case l12 => k_is)
    (case c12 => k_is)
    (case k12 => k_is)
    (case a13 => k_is)
    (case l13 => k_is)
    (case c13 => k_is)
    (case k13 => k_is)
    (case a14 => k_is)
    (case l14 => k_is)
    (case c14 => k_is)
    (case k14 => k_is)
    (case a15 => k_is)
    (case l15 => k_is)
    (case c15 => k_is)
    (case k15 => k_is)
    (case a16 => k_is)
    (case l16 => k_is)
    (case c16 => k_is)
    (case k16 => k_is)
    (case a17 => k_is)
    (case l17 => k_is)
    (case c17 => k_is)
    (case k17 => k_is)
    (case a18 => k_is)
    (case l18 => k_is)
    (case c18 => k_is)
    (case k18 => k_is)
    (case a19 => k_is)
    (case l19 => k_is)
    (case c19 => k_is)
    (case k19 => k_is)
    (case a20 => k_is)
    (case l20 => k_is)
    (case c20 => k_is)
    (case k20 => k_is)
    (case a21 => k_is)
    (case l21 => k_is)
    (case c21 => k_is)
    (case k21 => k_is)
    (case a22 => k_is)
    (case l22 => k_is)
    (case c22 => k_is)
    (case k22 => k_is)
    (case a23 => k_is)
    (case l23 => k_is)
    (case c23 => k_is)
    (case k23 => k_is)
    (case a24 => k_is)
    (case l24 => k_is)
    (case c24 => k_is)
    (case k24 => k_is)
    (case a25 => k_is)
    (case l25 => k_is)
    (case c25 => k_is)
    (case k25 => k_is)
    (case a26 => k_is)
    (case l26 => k_is)
    (case c26 => k_is)
    (case k26 => k_is)
    (case a27 => k_is)
    (case l27 => k_is)
    (case c27 => k_is)
    (case k27 => k_is)
    (case a28 => k_is)
    (case l28 => k_is)
    (case c28 => k_is)
    (case k28 => k_is)
    (case a29 => k_is)
    (case l29 => k_is)
    (case c29 => k_is)
    (case k29 => k_is)
    (case a30 => k_is)
    (case l30 => k_is)
    (case c30 => k_is)
    (case k30 => k_is)
    (case a31 => k_is)
    (case l31 => k_is)
    (case c31 => k_is)
    (case k31 => k_is)
    (case a32 => k_is)
    (case l32 => k_is)
    (case c32 => k_is)
    (case k32 => k_is)
    (case a33 => k_is)
    (case l33 => k_is)
    (case c33 => k_is)
    (case k33 => k_is)
    (case a34 => k_is)
    (case l34 => k_is)
    (case c34 => k_is)
    (case k34 => k_is)
    (case a35 => k_is)
    (case l35 => k_is)
    (case c35 => k_is)
    (case k35 => k_is)
    (case a36 => k_is)
    (case l36 => k_is)
    (case c36 => k_is)
    (case k36 => k_is)
    (case a37 => k_is)
    (case l37 => k_is)
    (case c37 => k_is)
    (case k37 => k_is)
    (case a38 => k_is)
    (case l38 => k_is)
    (case c38 => k_is)
    (case k38 => k_is)
    (case a39 => k_is)
    (case l39 => k_is)
    (case c39 => k_is)
    (case k39 => k_is)
    (case a40 => k_is)
    (case l40 => k_is)
    (case c40 => k_is)
    (case k40 => k_is)
    (case a41 => k_is)
    (case l41 => k_is)
    (case c41 => k_is)
    (case k41 => k_is)
    (case a42 => k_is)
    (case l42 => k_is)
    (case c42 => k_is)
    (case k42 => k_is)
    (case a43 => k_is)
    (case l43 => k_is)
    (case c43 => k_is)
    (case k43 => k_is)
    (case gLETTERS => k_is)
    (case gFIGURES => k_is)
    (case gMOST_DEEDS => k_is)
    (case gMOST_HANDS => k_is)
    (case gMOST_LONG => k_is)
    (case zall => k_is)
    (case zany => k_is)
    (case zbool => k_is)
    (case zdict => k_is)
    (case zenumerate => k_is)
    (case zint => k_is)
    (case zisinstance => k_is)
    (case zlen => k_is)
    (case zlist => k_is)
    (case zrange => k_is)
    (case zsorted => k_is)
    (case zstr => k_is)
    (case ztuple => k_is)
    (case zzip => k_is)
