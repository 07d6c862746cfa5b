import PyProof.Rows.All
import Wide.All
import OpenK.AllK
import Wide.FinOn
import HandS.ForMost
import HandS.ForExc
import HandS.Wide
import HandS.NoneIn
import HandS.Style
import HandS.TupAny
import HandS.WideMore
import HandS.EndBits
import PyProof.ReprReads
import HandS.ExcInit
import HandS.ExcField
import HandS.TryMany
import HandS.WordsExc
import KE.KExcInit
import HandS.IsInst
import HandS.TupMul
import HandS.Text
import PySem.Challenge.RW_fracwalk_k01_moves_and_values_required
set_option Elab.async false
set_option linter.all false
set_option maxRecDepth 100000
set_option maxHeartbeats 4000000
/-! A data layer over the readings: values as trees, lists and instances that change in a data heap. -/
namespace DL
open PySem PySem.Spec L2

inductive D where
  | non | bl (b : Bool) | int (i : Int) | str (x : Str) | ty (n : String) | ref (a : Addr) | tup (ds : List D) | lst (ds : List D) | seq (ds : List D)
  /-- a caught exception at a, its dict at d, its one field -/
  | exc (a d : Addr) (f : Str) (x : D)
  /-- a dict that stands still, its keys whole numbers and texts -/
  | dct (ks : List Key) (ds : List D)
/-- what may change: a list, an instance -/
inductive MO where
  | lst (ds : List D) | ins (C : Addr) (fs : List (Str × D)) | dct (ks : List Key) (ds : List D)
abbrev DM := Addr → Option MO
abbrev DR := List (Option D)
def put (M : DM) (a : Addr) (o : MO) : DM := fun b => if b = a then some o else M b
theorem put_same {M : DM} {a : Addr} {o : MO} : put M a o a = some o := if_pos rfl
theorem put_ne {M : DM} {a b : Addr} {o : MO} (h : b ≠ a) : put M a o b = M b := if_neg h
theorem put_put {M : DM} {a : Addr} {o u : MO} : put (put M a o) a u = put M a u := by
  funext b
  unfold put
  split <;> rfl

mutual
/-- no list in it that stands still -/
def noL : D → Bool
  | .lst _ => false
  | .seq _ => false
  | .exc .. => false
  | .dct .. => false
  | .tup ds => noLs ds
  | _ => true
def noLs : List D → Bool
  | [] => true
  | d :: ds => noL d && noLs ds
end
section
variable (K : PySem.W.Frag) (H : Hp) (M : DM)
mutual
def R : V → D → Prop
  | v, .non => v = .non
  | v, .bl b => v = .bl b
  | v, .int i => v = .int i
  | v, .str x => v = .str x
  | v, .ty n => v = .ty n
  | v, .ref a => v = .ref a
  | v, .tup ds => ∃ a xs, v = .ref a ∧ SqT K H a xs ∧ RA xs ds
  | v, .lst ds => ∃ a xs, v = .ref a ∧ H a = some (.lst xs) ∧ M a = none ∧ RA xs ds
  | v, .seq ds => ∃ a xs, v = .ref a ∧ ((∃ o, H a = some (.frz o (.lst xs))) ∨ ∀ H', SqL K H' a xs) ∧ RA xs ds
  | v, .exc a d f x => v = .ref a ∧ ∃ y, H d = some (.xd [(f, y)]) ∧ R y x
  | v, .dct ks ds => ∃ a xs, v = .ref a ∧ H a = some (.dK (ks.zip xs)) ∧ M a = none ∧ ks.length = ds.length ∧ RA xs ds
def RA : List V → List D → Prop
  | xs, [] => xs = []
  | xs, d :: ds => ∃ x r, xs = x :: r ∧ R x d ∧ RA r ds
end
def RF : List (Str × V) → List (Str × D) → Prop
  | gs, [] => gs = []
  | gs, (f, d) :: fs => ∃ x r, gs = (f, x) :: r ∧ R K H M x d ∧ RF r fs
def MAt (a : Addr) : MO → Prop
  | .lst ds => noLs ds = true ∧ ∃ xs, H a = some (.lst xs) ∧ RA K H M xs ds
  | .ins C fs => noLs (fs.map (·.2)) = true ∧ ∃ dx gs, H a = some (.ins C dx gs) ∧ RF K H M gs fs
  | .dct ks ds => noLs ds = true ∧ ks.length = ds.length ∧ ∃ xs, H a = some (.dK (ks.zip xs)) ∧ RA K H M xs ds
def HR : Prop := ∀ a o, M a = some o → MAt K H M a o
def En (σ : St) (ρ : DR) : Prop := σ.length = ρ.length ∧ ∀ (i : Nat) d, ρ[i]? = some (some d) → ∃ v, σ[i]? = some (some v) ∧ R K H M v d
end
/-- lists and dicts -/
def stays : HO → Bool
  | .lst _ => true
  | .dK _ => true
  | .dT _ => true
  | _ => false
/-- nothing that is known is lost -/
structure Stp (K : PySem.W.Frag) (H : Hp) (M : DM) (H' : Hp) (M' : DM) : Prop where
  t : ∀ a xs, SqT K H a xs → SqT K H' a xs
  g : ∀ a o, stays o = true → H a = some o → M a = none → H' a = some o ∧ M' a = none
  x : ∀ a fs, H a = some (.xd fs) → H' a = some (.xd fs)
  f : ∀ a o u, H a = some (.frz o u) → H' a = some (.frz o u)
section
variable {K : PySem.W.Frag} {H H' H2 : Hp} {M M' M2 : DM}
theorem Stp.l (s : Stp K H M H' M') (a : Addr) (xs : List V) (h : H a = some (.lst xs)) (m : M a = Option.none) : H' a = some (.lst xs) ∧ M' a = Option.none := s.g a _ rfl h m
theorem Stp.refl : Stp K H M H M := ⟨fun _ _ h => h, fun _ _ _ h m => ⟨h, m⟩, fun _ _ h => h, fun _ _ _ h => h⟩
theorem Stp.trans (a : Stp K H M H' M') (b : Stp K H' M' H2 M2) : Stp K H M H2 M2 :=
  ⟨fun p xs h => b.t p xs (a.t p xs h), fun p o z h m => let q := a.g p o z h m; b.g p o z q.1 q.2, fun p fs h => b.x p fs (a.x p fs h), fun p o u h => b.f p o u (a.f p o u h)⟩
mutual
theorem R.stp (s : Stp K H M H' M') : ∀ {d : D} {v : V}, R K H M v d → R K H' M' v d
  | .non, _, h => by unfold R at *; exact h
  | .bl _, _, h => by unfold R at *; exact h
  | .int _, _, h => by unfold R at *; exact h
  | .str _, _, h => by unfold R at *; exact h
  | .ty _, _, h => by unfold R at *; exact h
  | .ref _, _, h => by unfold R at *; exact h
  | .tup ds, _, h => by
    unfold R at *
    obtain ⟨a, xs, e, t, r⟩ := h
    exact ⟨a, xs, e, s.t a xs t, RA.stp s r⟩
  | .lst ds, _, h => by
    unfold R at *
    obtain ⟨a, xs, e, t, m, r⟩ := h
    exact ⟨a, xs, e, (s.l a xs t m).1, (s.l a xs t m).2, RA.stp s r⟩
  | .seq ds, _, h => by
    unfold R at *
    obtain ⟨a, xs, e, t, r⟩ := h
    exact ⟨a, xs, e, t.imp (fun ⟨o, z⟩ => ⟨o, s.f a o _ z⟩) id, RA.stp s r⟩
  | .exc a d f x, _, h => by
    unfold R at *
    obtain ⟨e, y, t, r⟩ := h
    exact ⟨e, y, s.x d _ t, R.stp s r⟩
  | .dct ks ds, _, h => by
    unfold R at *
    obtain ⟨a, xs, e, t, m, l, r⟩ := h
    exact ⟨a, xs, e, (s.g a _ rfl t m).1, (s.g a _ rfl t m).2, l, RA.stp s r⟩
theorem RA.stp (s : Stp K H M H' M') : ∀ {ds : List D} {xs : List V}, RA K H M xs ds → RA K H' M' xs ds
  | [], _, h => by unfold RA at *; exact h
  | d :: ds, _, h => by
    unfold RA at *
    obtain ⟨x, r, e, h1, h2⟩ := h
    exact ⟨x, r, e, R.stp s h1, RA.stp s h2⟩
end
theorem RF.stp (s : Stp K H M H' M') : ∀ {fs : List (Str × D)} {gs : List (Str × V)}, RF K H M gs fs → RF K H' M' gs fs
  | [], _, h => h
  | (f, d) :: fs, _, h => by
    obtain ⟨x, r, e, h1, h2⟩ := h
    exact ⟨x, r, e, h1.stp s, RF.stp s h2⟩
theorem En.stp {σ : St} {ρ : DR} (s : Stp K H M H' M') (e : En K H M σ ρ) : En K H' M' σ ρ :=
  ⟨e.1, fun i d h => let ⟨v, h1, h2⟩ := e.2 i d h; ⟨v, h1, h2.stp s⟩⟩
theorem En.set {σ : St} {ρ : DR} {v : V} {d : D} (e : En K H M σ ρ) (i : Nat) (r : R K H M v d) : En K H M (σ.set i (some v)) (ρ.set i (some d)) := by
  refine ⟨by rw [List.length_set, List.length_set]; exact e.1, fun j d' h => ?_⟩
  by_cases hj : i = j
  · subst hj
    by_cases hi : i < ρ.length
    · rw [List.getElem?_set_self hi] at h
      cases h
      exact ⟨v, List.getElem?_set_self (by rw [e.1]; exact hi), r⟩
    · rw [List.getElem?_eq_none (by rw [List.length_set]; omega)] at h
      cases h
  · rw [List.getElem?_set_ne hj] at h
    obtain ⟨u, h1, h2⟩ := e.2 j d' h
    exact ⟨u, by rw [List.getElem?_set_ne hj]; exact h1, h2⟩
theorem En.clr {σ : St} {ρ : DR} (e : En K H M σ ρ) (i : Nat) {o : Option V} : En K H M (σ.set i o) (ρ.set i none) := by
  refine ⟨by rw [List.length_set, List.length_set]; exact e.1, fun j d' h => ?_⟩
  by_cases hj : i = j
  · subst hj
    by_cases hi : i < ρ.length
    · rw [List.getElem?_set_self hi] at h
      cases h
    · rw [List.getElem?_eq_none (by rw [List.length_set]; omega)] at h
      cases h
  · rw [List.getElem?_set_ne hj] at h
    obtain ⟨u, h1, h2⟩ := e.2 j d' h
    exact ⟨u, by rw [List.getElem?_set_ne hj]; exact h1, h2⟩
theorem MAt.stp (s : Stp K H M H' M') {a : Addr} {o : MO} (h : MAt K H M a o) (e : H' a = H a) : MAt K H' M' a o := by
  cases o with
  | lst ds => obtain ⟨z, xs, h1, h2⟩ := h; exact ⟨z, xs, e.trans h1, h2.stp s⟩
  | ins C fs => obtain ⟨z, dx, gs, h1, h2⟩ := h; exact ⟨z, dx, gs, e.trans h1, h2.stp s⟩
  | dct ks ds => obtain ⟨z, l, xs, h1, h2⟩ := h; exact ⟨z, l, xs, e.trans h1, h2.stp s⟩
theorem HR.none (h : HR K H M) {p : Addr} (n : H p = Option.none) : M p = Option.none := by
  cases e : M p with
  | none => rfl
  | some o =>
    have q := h p o e
    cases o with
    | lst ds => obtain ⟨_, xs, h1, _⟩ := q; rw [n] at h1; cases h1
    | ins C fs => obtain ⟨_, dx, gs, h1, _⟩ := q; rw [n] at h1; cases h1
    | dct ks ds => obtain ⟨_, _, xs, h1, _⟩ := q; rw [n] at h1; cases h1
theorem sqT_upd {p : Addr} {o : HO} (h : ∀ xs, ¬ Rd H p (.tup xs)) : ∀ a xs, SqT K H a xs → SqT K (upd H p o) a xs := by
  intro a xs q
  rcases q with q | q
  · have ne : a ≠ p := fun e => h xs (e ▸ q)
    left
    rcases q with q | ⟨u, q⟩
    · exact .inl (by rw [upd_ne ne]; exact q)
    · exact .inr ⟨u, by rw [upd_ne ne]; exact q⟩
  · exact .inr q
theorem rd_none {p : Addr} {u : HO} (n : H p = Option.none) : ¬ Rd H p u := by
  rintro (h | ⟨o, h⟩) <;> (rw [n] at h; cases h)
/-- a new object beside the data heap -/
theorem Stp.new {p : Addr} {o : HO} (n : H p = Option.none) (hr : HR K H M) : Stp K H M (upd H p o) M ∧ HR K (upd H p o) M := by
  have s : Stp K H M (upd H p o) M := ⟨sqT_upd fun _ => rd_none n, fun a xs _ h m => ⟨by rw [upd_ne (ne_of_none h n)]; exact h, m⟩, fun a fs h => by rw [upd_ne (ne_of_none h n)]; exact h, fun a q u h => by rw [upd_ne (ne_of_none h n)]; exact h⟩
  refine ⟨s, fun a q h => (hr a q h).stp s (upd_ne fun e => ?_)⟩
  subst e
  rw [hr.none n] at h
  cases h
/-- a new object of the data heap -/
theorem Stp.newM {p : Addr} {o : HO} {u : MO} (n : H p = Option.none) (hr : HR K H M) (hu : Stp K H M (upd H p o) (put M p u) → MAt K (upd H p o) (put M p u) p u) : Stp K H M (upd H p o) (put M p u) ∧ HR K (upd H p o) (put M p u) := by
  have s : Stp K H M (upd H p o) (put M p u) := ⟨sqT_upd fun _ => rd_none n, fun a xs _ h m => ⟨by rw [upd_ne (ne_of_none h n)]; exact h, by rw [put_ne (ne_of_none h n)]; exact m⟩, fun a fs h => by rw [upd_ne (ne_of_none h n)]; exact h, fun a q u h => by rw [upd_ne (ne_of_none h n)]; exact h⟩
  refine ⟨s, fun a q h => ?_⟩
  by_cases e : a = p
  · subst e
    rw [put_same] at h
    cases h
    exact hu s
  · rw [put_ne e] at h
    exact (hr a q h).stp s (upd_ne e)
/-- an object of the data heap changes -/
theorem Stp.wr {p : Addr} {o o' : HO} {u u' : MO} (hm : M p = some u) (ho : H p = some o) (nt : ∀ xs, o ≠ .tup xs) (nf : ∀ w u, o ≠ .frz w u) (nx : ∀ fs, o ≠ .xd fs) (hr : HR K H M)
    (hu : Stp K H M (upd H p o') (put M p u') → MAt K (upd H p o') (put M p u') p u') : Stp K H M (upd H p o') (put M p u') ∧ HR K (upd H p o') (put M p u') := by
  have s : Stp K H M (upd H p o') (put M p u') := by
    refine ⟨sqT_upd fun xs h => ?_, fun a xs _ h m => ?_, fun a fs h => ?_, fun a q u h => ?_⟩
    · rcases h with h | ⟨w, h⟩
      · rw [ho] at h; exact nt xs (Option.some.inj h)
      · rw [ho] at h; exact nf w _ (Option.some.inj h)
    · have ne : a ≠ p := fun e => by subst e; rw [hm] at m; cases m
      exact ⟨by rw [upd_ne ne]; exact h, by rw [put_ne ne]; exact m⟩
    · have ne : a ≠ p := fun e => by subst e; rw [ho] at h; exact nx fs (Option.some.inj h)
      rw [upd_ne ne]; exact h
    · have ne : a ≠ p := fun e => by subst e; rw [ho] at h; exact nf q u (Option.some.inj h)
      rw [upd_ne ne]; exact h
  refine ⟨s, fun a q h => ?_⟩
  by_cases e : a = p
  · subst e
    rw [put_same] at h
    cases h
    exact hu s
  · rw [put_ne e] at h
    exact (hr a q h).stp s (upd_ne e)
theorem RA.len : ∀ {ds : List D} {xs : List V}, RA K H M xs ds → xs.length = ds.length
  | [], _, h => by unfold RA at h; rw [h] <;> rfl
  | d :: ds, _, h => by
    unfold RA at h
    obtain ⟨x, r, e, _, h2⟩ := h
    rw [e, List.length_cons, List.length_cons, RA.len h2]
theorem RA.nil : RA K H M [] [] := by unfold RA; rfl
theorem RA.cons {x : V} {d : D} {xs : List V} {ds : List D} (h : R K H M x d) (t : RA K H M xs ds) : RA K H M (x :: xs) (d :: ds) := by
  unfold RA
  exact ⟨x, xs, rfl, h, t⟩
theorem RA.snoc : ∀ {ds : List D} {xs : List V} {x : V} {d : D}, RA K H M xs ds → R K H M x d → RA K H M (xs ++ [x]) (ds ++ [d])
  | [], _, x, d, h, r => by
    unfold RA at h
    subst h
    exact RA.cons r RA.nil
  | e :: ds, _, x, d, h, r => by
    unfold RA at h
    obtain ⟨y, q, e', h1, h2⟩ := h
    subst e'
    exact RA.cons h1 (RA.snoc h2 r)
theorem RA.app : ∀ {ds es : List D} {xs ys : List V}, RA K H M xs ds → RA K H M ys es → RA K H M (xs ++ ys) (ds ++ es)
  | [], es, _, ys, h, r => by
    unfold RA at h
    subst h
    exact r
  | e :: ds, es, _, ys, h, r => by
    unfold RA at h
    obtain ⟨y, q, e', h1, h2⟩ := h
    subst e'
    exact RA.cons h1 (RA.app h2 r)
theorem RA.get : ∀ {ds : List D} {xs : List V} {i : Nat} {d : D}, RA K H M xs ds → ds[i]? = some d → ∃ x, xs[i]? = some x ∧ R K H M x d
  | [], _, i, d, _, h => by simp at h
  | e :: ds, _, 0, d, h, hi => by
    unfold RA at h
    obtain ⟨y, q, e', h1, h2⟩ := h
    subst e'
    simp at hi
    subst hi
    exact ⟨y, rfl, h1⟩
  | e :: ds, _, i + 1, d, h, hi => by
    unfold RA at h
    obtain ⟨y, q, e', h1, h2⟩ := h
    subst e'
    obtain ⟨x, a, b⟩ := RA.get (i := i) h2 (by simpa using hi)
    exact ⟨x, by simpa using a, b⟩
theorem RA.getV {ds : List D} {xs : List V} {i : Nat} {x : V} (h : RA K H M xs ds) (hi : xs[i]? = some x) : ∃ d, ds[i]? = some d ∧ R K H M x d := by
  have hl := h.len
  have h1 : i < xs.length := (List.getElem?_eq_some_iff.mp hi).1
  obtain ⟨y, a, b⟩ := h.get (i := i) (List.getElem?_eq_getElem (show i < ds.length by omega))
  rw [hi] at a
  cases a
  exact ⟨_, List.getElem?_eq_getElem (show i < ds.length by omega), b⟩
theorem RA.set : ∀ {ds : List D} {xs : List V} {x : V} {d : D} (i : Nat), RA K H M xs ds → R K H M x d → RA K H M (xs.set i x) (ds.set i d)
  | [], _, x, d, i, h, r => by
    unfold RA at h
    subst h
    exact RA.nil
  | e :: ds, _, x, d, 0, h, r => by
    unfold RA at h
    obtain ⟨y, q, e', h1, h2⟩ := h
    subst e'
    exact RA.cons r h2
  | e :: ds, _, x, d, i + 1, h, r => by
    unfold RA at h
    obtain ⟨y, q, e', h1, h2⟩ := h
    subst e'
    exact RA.cons h1 (RA.set i h2 r)
theorem RA.drop : ∀ {ds : List D} {xs : List V} (n : Nat), RA K H M xs ds → RA K H M (xs.drop n) (ds.drop n)
  | _, _, 0, h => h
  | [], _, n + 1, h => by unfold RA at h; subst h; exact RA.nil
  | e :: ds, _, n + 1, h => by
    unfold RA at h
    obtain ⟨y, q, e', h1, h2⟩ := h
    subst e'
    exact RA.drop n h2
theorem RA.take : ∀ {ds : List D} {xs : List V} (n : Nat), RA K H M xs ds → RA K H M (xs.take n) (ds.take n)
  | _, _, 0, h => by
    rw [List.take_zero, List.take_zero]
    exact RA.nil
  | [], _, n + 1, h => by unfold RA at h; subst h; exact RA.nil
  | e :: ds, _, n + 1, h => by
    unfold RA at h
    obtain ⟨y, q, e', h1, h2⟩ := h
    subst e'
    exact RA.cons h1 (RA.take n h2)
theorem RA.ints : ∀ {ns : List Int}, RA K H M (ns.map V.int) (ns.map D.int)
  | [] => RA.nil
  | n :: ns => RA.cons (by unfold R; rfl) RA.ints
theorem RA.toInts : ∀ {ns : List Int} {xs : List V}, RA K H M xs (ns.map D.int) → xs = ns.map V.int
  | [], _, h => by unfold RA at h; exact h
  | n :: ns, _, h => by
    rw [List.map_cons] at h
    unfold RA at h
    obtain ⟨y, q, e', h1, h2⟩ := h
    unfold R at h1
    rw [e', h1, RA.toInts h2] <;> rfl

mutual
theorem R.flat (t : ∀ a xs, SqT K H a xs → SqT K H' a xs) : ∀ {d : D} {v : V}, noL d = true → R K H M v d → R K H' M' v d
  | .non, _, _, h => by unfold R at *; exact h
  | .bl _, _, _, h => by unfold R at *; exact h
  | .int _, _, _, h => by unfold R at *; exact h
  | .str _, _, _, h => by unfold R at *; exact h
  | .ty _, _, _, h => by unfold R at *; exact h
  | .ref _, _, _, h => by unfold R at *; exact h
  | .tup ds, _, n, h => by
    unfold noL at n
    unfold R at *
    obtain ⟨a, xs, e, q, r⟩ := h
    exact ⟨a, xs, e, t a xs q, RA.flat t n r⟩
  | .lst ds, _, n, _ => by
    unfold noL at n
    cases n
  | .seq ds, _, n, _ => by
    unfold noL at n
    cases n
  | .exc .., _, n, _ => by
    unfold noL at n
    cases n
  | .dct .., _, n, _ => by
    unfold noL at n
    cases n
theorem RA.flat (t : ∀ a xs, SqT K H a xs → SqT K H' a xs) : ∀ {ds : List D} {xs : List V}, noLs ds = true → RA K H M xs ds → RA K H' M' xs ds
  | [], _, _, h => by unfold RA at *; exact h
  | d :: ds, _, n, h => by
    unfold noLs at n
    rw [Bool.and_eq_true] at n
    unfold RA at *
    obtain ⟨x, r, e, h1, h2⟩ := h
    exact ⟨x, r, e, R.flat t n.1 h1, RA.flat t n.2 h2⟩
end
theorem RF.flat (t : ∀ a xs, SqT K H a xs → SqT K H' a xs) : ∀ {fs : List (Str × D)} {gs : List (Str × V)}, noLs (fs.map (·.2)) = true → RF K H M gs fs → RF K H' M' gs fs
  | [], _, _, h => h
  | (f, d) :: fs, _, n, h => by
    rw [List.map_cons] at n
    unfold noLs at n
    rw [Bool.and_eq_true] at n
    obtain ⟨x, r, e, h1, h2⟩ := h
    exact ⟨x, r, e, h1.flat t n.1, RF.flat t n.2 h2⟩
theorem MAt.flat (t : ∀ a xs, SqT K H a xs → SqT K H' a xs) {a : Addr} {o : MO} (h : MAt K H M a o) (e : H' a = H a) : MAt K H' M' a o := by
  cases o with
  | lst ds => obtain ⟨z, xs, h1, h2⟩ := h; exact ⟨z, xs, e.trans h1, h2.flat t z⟩
  | ins C fs => obtain ⟨z, dx, gs, h1, h2⟩ := h; exact ⟨z, dx, gs, e.trans h1, h2.flat t z⟩
  | dct ks ds => obtain ⟨z, l, xs, h1, h2⟩ := h; exact ⟨z, l, xs, e.trans h1, h2.flat t z⟩
theorem noLs_nil : noLs [] = true := by simp [noLs]
theorem noLs_cons {d : D} {ds : List D} : noLs (d :: ds) = (noL d && noLs ds) := by simp [noLs]
theorem noLs_app : ∀ {a b : List D}, noLs (a ++ b) = (noLs a && noLs b)
  | [], b => by rw [noLs_nil] <;> rfl
  | d :: a, b => by rw [List.cons_append, noLs_cons, noLs_cons, noLs_app, Bool.and_assoc]
theorem noLs_set : ∀ {a : List D} {i : Nat} {d : D}, noLs a = true → noL d = true → noLs (a.set i d) = true
  | [], _, _, h, _ => h
  | e :: a, 0, d, h, hd => by
    unfold noLs at h
    rw [Bool.and_eq_true] at h
    rw [List.set_cons_zero]
    unfold noLs
    rw [hd, h.2] <;> rfl
  | e :: a, i + 1, d, h, hd => by
    unfold noLs at h
    rw [Bool.and_eq_true] at h
    rw [List.set_cons_succ]
    unfold noLs
    rw [h.1, noLs_set h.2 hd] <;> rfl
theorem noLs_ints : ∀ {ns : List Int}, noLs (ns.map D.int) = true
  | [] => by simp [noLs]
  | n :: ns => by
    rw [List.map_cons]
    unfold noLs
    rw [noLs_ints] <;> simp [noL]
end
end DL

set_option Elab.async false
set_option linter.all false
set_option maxRecDepth 100000
set_option maxHeartbeats 4000000
namespace DL
open PySem PySem.Spec L2

/-- an exception: its class, its own fields -/
abbrev Xc := Value × List (Str × D)
abbrev DK := D → DM → Prop
abbrev DX := Xc → DM → Prop
abbrev DE := DR → DM → DK → DX → Prop
abbrev DT := DR → DM → (Bool → DM → Prop) → DX → Prop
abbrev DA := DR → DM → (List D → DM → Prop) → DX → Prop
structure DN where
  nx : DR → DM → Prop
  rt : DK
  bk : DR → DM → Prop := fun _ _ => False
  ct : DR → DM → Prop := fun _ _ => False
  ex : Xc → DR → DM → Prop := fun _ _ _ => False
abbrev DS := DN → DR → DM → Prop

section
variable (K : PySem.W.Frag) (H : Hp) (M : DM)
def XdR (od : Option Addr) (fs : List (Str × D)) : Prop := match od with
  | some d => ∃ gs, H d = some (.xd gs) ∧ RF K H M gs fs
  | none => fs = []
def LdV (Qd : DK) (Q : VK) : Prop := ∀ v H' d M', Stp K H M H' M' → R K H' M' v d → HR K H' M' → Qd d M' → Q v H'
def LdB (Qd : Bool → DM → Prop) (Q : Bool → Hp → Prop) : Prop := ∀ b H' M', Stp K H M H' M' → HR K H' M' → Qd b M' → Q b H'
def LdA (Qd : List D → DM → Prop) (Q : List V → Hp → Prop) : Prop := ∀ vs H' ds M', Stp K H M H' M' → RA K H' M' vs ds → HR K H' M' → Qd ds M' → Q vs H'
def LdS (P : DR → DM → Prop) (Q : L2.St → Hp → Prop) : Prop := ∀ σ' H' ρ' M', Stp K H M H' M' → En K H' M' σ' ρ' → HR K H' M' → P ρ' M' → Q σ' H'
def LdX (Xd : DX) (Q : Value → Option Addr → Hp → Prop) : Prop := ∀ c od fs H' M', Stp K H M H' M' → XdR K H' M' od fs → HR K H' M' → Xd (c, fs) M' → Q c od H'
def LdXS (X : Xc → DR → DM → Prop) (W : WX) : Prop := ∀ c od fs σ' H' ρ' M', Stp K H M H' M' → XdR K H' M' od fs → En K H' M' σ' ρ' → HR K H' M' → X (c, fs) ρ' M' → W c od σ' H'
end
section
variable {K : PySem.W.Frag} {H H1 : Hp} {M M1 : DM}
theorem LdV.stp {Qd : DK} {Q : VK} (h : LdV K H M Qd Q) (s : Stp K H M H1 M1) : LdV K H1 M1 Qd Q := fun v H' d M' s' => h v H' d M' (s.trans s')
theorem LdB.stp {Qd : Bool → DM → Prop} {Q : Bool → Hp → Prop} (h : LdB K H M Qd Q) (s : Stp K H M H1 M1) : LdB K H1 M1 Qd Q := fun v H' M' s' => h v H' M' (s.trans s')
theorem LdA.stp {Qd : List D → DM → Prop} {Q : List V → Hp → Prop} (h : LdA K H M Qd Q) (s : Stp K H M H1 M1) : LdA K H1 M1 Qd Q := fun v H' d M' s' => h v H' d M' (s.trans s')
theorem LdS.stp {P : DR → DM → Prop} {Q : L2.St → Hp → Prop} (h : LdS K H M P Q) (s : Stp K H M H1 M1) : LdS K H1 M1 P Q := fun a b c d s' => h a b c d (s.trans s')
theorem LdX.stp {X : DX} {Q : Value → Option Addr → Hp → Prop} (h : LdX K H M X Q) (s : Stp K H M H1 M1) : LdX K H1 M1 X Q := fun a b c d e s' => h a b c d e (s.trans s')
theorem LdXS.stp {X : Xc → DR → DM → Prop} {W : WX} (h : LdXS K H M X W) (s : Stp K H M H1 M1) : LdXS K H1 M1 X W := fun a b c d e f g s' => h a b c d e f g (s.trans s')
end
section
variable (K : PySem.W.Frag) (W : WX)
def uE (de : DE) : TE := fun σ H Q => ∃ ρ M Qd Xd, En K H M σ ρ ∧ HR K H M ∧ de ρ M Qd Xd ∧ LdV K H M Qd Q ∧ LdX K H M Xd fun c od H' => W c od σ H'
def uT (dt : DT) : TT := fun σ H Q => ∃ ρ M Qd Xd, En K H M σ ρ ∧ HR K H M ∧ dt ρ M Qd Xd ∧ LdB K H M Qd Q ∧ LdX K H M Xd fun c od H' => W c od σ H'
def uA (da : DA) : TA := fun σ H Q => ∃ ρ M Qd Xd, En K H M σ ρ ∧ HR K H M ∧ da ρ M Qd Xd ∧ LdA K H M Qd Q ∧ LdX K H M Xd fun c od H' => W c od σ H'
structure LdN (H : Hp) (M : DM) (N : DN) (E : Ends) : Prop where
  nx : LdS K H M N.nx E.nx
  rt : LdV K H M N.rt E.rt
  bk : LdS K H M N.bk E.bk
  ct : LdS K H M N.ct E.ct
  ex : LdXS K H M N.ex W
def uS (ds : DS) : TS := fun E σ H => ∃ ρ M N, En K H M σ ρ ∧ HR K H M ∧ ds N ρ M ∧ LdN K W H M N E
end
theorem LdN.stp {K : PySem.W.Frag} {W : WX} {H H1 : Hp} {M M1 : DM} {N : DN} {E : Ends} (h : LdN K W H M N E) (s : Stp K H M H1 M1) : LdN K W H1 M1 N E :=
  ⟨h.nx.stp s, h.rt.stp s, h.bk.stp s, h.ct.stp s, h.ex.stp s⟩
theorem LdXS.at {K : PySem.W.Frag} {H : Hp} {M : DM} {X : Xc → DR → DM → Prop} {W : WX} {σ : L2.St} {ρ : DR} (h : LdXS K H M X W) (e : En K H M σ ρ) : LdX K H M (fun x M' => X x ρ M') fun c od H' => W c od σ H' :=
  fun c od fs H' M' s x r q => h c od fs σ H' ρ M' s x (e.stp s) r q
section
variable {X : Cx} {W : WX}
theorem pe_imp {e : Expr} {t t' : TE} (h : PE X e t) (i : ∀ σ H Q, t' σ H Q → t σ H Q) : PE X e t' := ⟨fun pins s σ H Q I q => h.run pins s σ H Q I (i σ H Q q)⟩
theorem pt_imp {e : Expr} {t t' : TT} (h : PT X e t) (i : ∀ σ H Q, t' σ H Q → t σ H Q) : PT X e t' := ⟨fun pins s σ H Q I q => h.run pins s σ H Q I (i σ H Q q)⟩
theorem pw_imp {e : Expr} {t t' : TT} (h : PW X e t) (i : ∀ σ H Q, t' σ H Q → t σ H Q) : PW X e t' := ⟨fun w pins s σ H Q I q => h.run w pins s σ H Q I (i σ H Q q)⟩
theorem pa_imp {e : List Expr} {t t' : TA} (h : PA X e t) (i : ∀ σ H Q, t' σ H Q → t σ H Q) : PA X e t' := ⟨fun pos pins s σ H Q I q => h.run pos pins s σ H Q I (i σ H Q q)⟩
theorem ps_imp {e : Stmt} {t t' : TS} (h : PS X e t) (i : ∀ D σ H, t' D σ H → t D σ H) : PS X e t' := ⟨fun pins s σ H D I q => h.run pins s σ H D I (i D σ H q)⟩
theorem pss_imp {e : List Stmt} {t t' : TS} (h : PSs X e t) (i : ∀ D σ H, t' D σ H → t D σ H) : PSs X e t' := ⟨fun pins s σ H D I q => h.run pins s σ H D I (i D σ H q)⟩

/-! ### expressions -/
def dVar (i : Nat) : DE := fun ρ M Q _ => match ρ[i]? with
  | some (some d) => Q d M
  | _ => False
def dC (d : D) : DE := fun _ M Q _ => Q d M
theorem dd_var (i : Nat) {x : Str} {pos : Pos} (hN : X.N[i]? = some x := by exact rfl) (hv : Vis X.env.scope x := by first | exact Or.inl rfl | exact Or.inr (Or.inl rfl) | exact Or.inr (Or.inr rfl)) (hd : (x == ("__debug__" : Str)) = false := by decide)
    (hcd : (x == ("__classdict__" : Str)) = false := by decide) : PE X (.Name x pos) (uE X.K W (dVar i)) := by
  refine pe_imp (pe_var hN hv hd hcd) fun σ H Q h => ?_
  obtain ⟨ρ, M, Qd, Xd, en, hr, h, q, _⟩ := h
  unfold dVar at h
  cases e : ρ[i]? with
  | none => rw [e] at h; exact h.elim
  | some o =>
    cases o with
    | none => rw [e] at h; exact h.elim
    | some d =>
      rw [e] at h
      obtain ⟨v, h1, h2⟩ := en.2 i d e
      exact ⟨v, h1, q v H d M .refl h2 hr h⟩
theorem dd_c {e : Expr} {v : V} {d : D} (h : PE X e (tC v)) (hd : ∀ H M, R X.K H M v d) : PE X e (uE X.K W (dC d)) := pe_imp h fun σ H Q ⟨_, M, _, _, _, hr, h, q, _⟩ => q v H d M .refl (hd _ _) hr h
theorem dd_int {i j pos} : PE X (.Constant (.int i) j pos) (uE X.K W (dC (.int i))) := dd_c pe_int fun _ _ => by unfold R; rfl
theorem dd_bl {i j pos} : PE X (.Constant (.bool i) j pos) (uE X.K W (dC (.bl i))) := dd_c pe_bl fun _ _ => by unfold R; rfl
theorem dd_non {j pos} : PE X (.Constant .none j pos) (uE X.K W (dC .non)) := dd_c pe_non fun _ _ => by unfold R; rfl
theorem dd_str {i j pos} : PE X (.Constant (.str i) j pos) (uE X.K W (dC (.str i))) := dd_c pe_str fun _ _ => by unfold R; rfl

/-! ### two places -/
abbrev F2 := D → D → DM → DK → Prop
def OpV (K : PySem.W.Frag) (r : R2) (f : F2) : Prop := ∀ H M v w x y Q Qd, HR K H M → R K H M v x → R K H M w y → f x y M Qd → LdV K H M Qd Q → r v w H Q
def dOp (f : F2) (da db : DE) : DE := fun ρ M Q Xd => da ρ M (fun x M1 => db ρ M1 (fun y M2 => f x y M2 Q) Xd) Xd
theorem two {da db : DE} {σ : L2.St} {H : Hp} {Qd : D → D → DM → Prop} {Q : V → V → Hp → Prop} {Xd : DX} {ρ : DR} {M : DM} (en : En X.K H M σ ρ) (hr : HR X.K H M)
    (h : da ρ M (fun x M1 => db ρ M1 (fun y M2 => Qd x y M2) Xd) Xd) (x : LdX X.K H M Xd fun c od H' => W c od σ H')
    (k : ∀ v w x y H' M', Stp X.K H M H' M' → R X.K H' M' v x → R X.K H' M' w y → HR X.K H' M' → Qd x y M' → Q v w H') : uE X.K W da σ H fun v H1 => uE X.K W db σ H1 fun w H2 => Q v w H2 :=
  ⟨ρ, M, _, Xd, en, hr, h, fun v H1 d1 M1 s1 r1 hr1 h1 => ⟨ρ, M1, _, Xd, en.stp s1, hr1, h1, fun w H2 d2 M2 s2 r2 hr2 h2 => k v w d1 d2 H2 M2 (s1.trans s2) (r1.stp s2) r2 hr2 h2, x.stp s1⟩, x⟩
theorem dd_op2 {r : R2} {f : F2} {e : Expr} {da db : DE} (h : PE X e (tOp r (uE X.K W da) (uE X.K W db))) (hv : OpV X.K r f) : PE X e (uE X.K W (dOp f da db)) :=
  pe_imp h fun σ H Q ⟨ρ, M, Qd, Xd, en, hr, h, q, x⟩ => two en hr h x fun v w a b H' M' s r1 r2 hr' h' => hv H' M' v w a b Q Qd hr' r1 r2 h' (q.stp s)
variable {a b : Expr} {da db : DE} {pos : Pos}
theorem dd_bin {op : Operator} {r : R2} {f : F2} (ho : OpR X (binaryOp op) r) (hv : OpV X.K r f) (ha : PE X a (uE X.K W da)) (hb : PE X b (uE X.K W db)) : PE X (.BinOp a op b pos) (uE X.K W (dOp f da db)) := dd_op2 (pe_op ho ha hb) hv
theorem dd_cmp {op : CmpOp} {r : R2} {f : F2} (ho : OpR X (compareOp op) r) (hv : OpV X.K r f) (ha : PE X a (uE X.K W da)) (hb : PE X b (uE X.K W db)) (hm : behindInMarks op b = false) : PE X (.Compare a [op] [b] pos) (uE X.K W (dOp f da db)) := dd_op2 (pe_cmpR ho ha hb hm) hv
theorem dd_ix {r : R2} {f : F2} (ho : IxR X r) (hv : OpV X.K r f) (ha : PE X a (uE X.K W da)) (hb : PE X b (uE X.K W db)) (hs : PlainIx b) : PE X (.Subscript a b pos) (uE X.K W (dOp f da db)) := dd_op2 (pe_ix ho ha hb hs) hv
/-- the answer is a bool -/
def onB (d : D) (k : Bool → Prop) : Prop := match d with
  | .bl b => k b
  | _ => False
def dTest (de : DE) : DT := fun ρ M Q Xd => de ρ M (fun d M1 => onB d fun b => Q b M1) Xd
theorem isBl {K : PySem.W.Frag} {H : Hp} {M : DM} {v : V} {d : D} {k : Bool → Prop} (r : R K H M v d) (h : onB d k) : ∃ b, d = .bl b ∧ v = .bl b ∧ k b := by
  cases d with
  | bl b => unfold R at r; exact ⟨b, rfl, r, h⟩
  | _ => exact h.elim
theorem dt_cmp {op : CmpOp} {r : R2} {f : F2} (ho : OpR X (compareOp op) r) (hv : OpV X.K r f) (ha : PE X a (uE X.K W da)) (hb : PE X b (uE X.K W db)) (hm : behindInMarks op b = false) : PT X (.Compare a [op] [b] pos) (uT X.K W (dTest (dOp f da db))) :=
  pt_imp (pt_cmpR ho ha hb hm) fun σ H Q ⟨ρ, M, Qd, Xd, en, hr, h, q, x⟩ => two en hr h x fun v w a b H' M' s r1 r2 hr' h' => hv H' M' v w a b _ _ hr' r1 r2 h' fun v2 H2 d2 M2 s2 rr hr2 hq => by
    obtain ⟨k, _, e2, q2⟩ := isBl rr hq
    exact ⟨k, e2, q k H2 M2 (s.trans s2) hr2 q2⟩
/-- any expression whose value is a bool -/
theorem dt_val {e : Expr} {de : DE} (h : PE X e (uE X.K W de)) (he : ∀ whole, isTrue e X.env whole = (do let v ← whole; standAt e.pos; holding [v] (truthy v)) := by intro _; exact rfl) : PT X e (uT X.K W (dTest de)) :=
  pt_imp (pt_val h he) fun σ H Q ⟨ρ, M, Qd, Xd, en, hr, h, q, x⟩ => ⟨ρ, M, _, Xd, en, hr, h, fun v H1 d1 M1 s1 r1 hr1 h1 => by
    obtain ⟨k, _, e2, q2⟩ := isBl r1 h1
    exact ⟨k, e2, q k H1 M1 s1 hr1 q2⟩, x⟩
def dUn (f : D → DM → DK → Prop) (da : DE) : DE := fun ρ M Q Xd => da ρ M (fun x M1 => f x M1 Q) Xd
def UnV (K : PySem.W.Frag) (r : V → Hp → VK → Prop) (f : D → DM → DK → Prop) : Prop := ∀ H M v x Q Qd, HR K H M → R K H M v x → f x M Qd → LdV K H M Qd Q → r v H Q
theorem dd_un {op : UnaryOp} {r : V → Hp → VK → Prop} {f : D → DM → DK → Prop} (ho : UnR X (unaryOp op) r) (hv : UnV X.K r f) (ha : PE X a (uE X.K W da)) : PE X (.UnaryOp op a pos) (uE X.K W (dUn f da)) :=
  pe_imp (pe_un ho ha) fun σ H Q ⟨ρ, M, Qd, Xd, en, hr, h, q, x⟩ => ⟨ρ, M, _, Xd, en, hr, h, fun v H1 d1 M1 s1 r1 hr1 h1 => hv H1 M1 v d1 Q Qd hr1 r1 h1 (q.stp s1), x⟩

/-! ### and, or, not -/
variable {ta tb : DT} {rest : List Expr}
def dAnd (t u : DT) : DT := fun ρ M Q Xd => t ρ M (fun c M1 => if c = true then u ρ M1 Q Xd else Q false M1) Xd
def dOr (t u : DT) : DT := fun ρ M Q Xd => t ρ M (fun c M1 => if c = true then Q true M1 else u ρ M1 Q Xd) Xd
def dNot (t : DT) : DT := fun ρ M Q Xd => t ρ M (fun c M1 => Q (!c) M1) Xd
theorem dw_and1 (ha : PT X a (uT X.K W ta)) : PW X (.BoolOp .And [a] pos) (uT X.K W ta) := pw_and1 ha
theorem dw_or1 (ha : PT X a (uT X.K W ta)) : PW X (.BoolOp .Or [a] pos) (uT X.K W ta) := pw_or1 ha
theorem dw_and (ha : PT X a (uT X.K W ta)) (hb : PW X (.BoolOp .And (b :: rest) pos) (uT X.K W tb)) : PW X (.BoolOp .And (a :: b :: rest) pos) (uT X.K W (dAnd ta tb)) :=
  pw_imp (pw_and ha hb) fun σ H Q ⟨ρ, M, Qd, Xd, en, hr, h, q, x⟩ => ⟨ρ, M, _, Xd, en, hr, h, fun c H1 M1 s1 hr1 h1 => by
    cases c with
    | true => exact ⟨ρ, M1, Qd, Xd, en.stp s1, hr1, h1, q.stp s1, x.stp s1⟩
    | false => exact q false H1 M1 s1 hr1 h1, x⟩
theorem dw_or (ha : PT X a (uT X.K W ta)) (hb : PW X (.BoolOp .Or (b :: rest) pos) (uT X.K W tb)) : PW X (.BoolOp .Or (a :: b :: rest) pos) (uT X.K W (dOr ta tb)) :=
  pw_imp (pw_or ha hb) fun σ H Q ⟨ρ, M, Qd, Xd, en, hr, h, q, x⟩ => ⟨ρ, M, _, Xd, en, hr, h, fun c H1 M1 s1 hr1 h1 => by
    cases c with
    | false => exact ⟨ρ, M1, Qd, Xd, en.stp s1, hr1, h1, q.stp s1, x.stp s1⟩
    | true => exact q true H1 M1 s1 hr1 h1, x⟩
theorem dt_not (ha : PT X a (uT X.K W ta)) : PT X (.UnaryOp .Not a pos) (uT X.K W (dNot ta)) :=
  pt_imp (pt_not ha) fun σ H Q ⟨ρ, M, Qd, Xd, en, hr, h, q, x⟩ => ⟨ρ, M, _, Xd, en, hr, h, fun c H1 M1 s1 hr1 h1 => q _ H1 M1 s1 hr1 h1, x⟩
/-- .. as values, bools -/
def dAndV (t u : DE) : DE := fun ρ M Q Xd => t ρ M (fun c M1 => onB c fun c => if c = true then u ρ M1 Q Xd else Q (.bl false) M1) Xd
def dOrV (t u : DE) : DE := fun ρ M Q Xd => t ρ M (fun c M1 => onB c fun c => if c = true then Q (.bl true) M1 else u ρ M1 Q Xd) Xd
def dNotV (t : DE) : DE := fun ρ M Q Xd => t ρ M (fun c M1 => onB c fun c => Q (.bl (!c)) M1) Xd
theorem R.blI {K : PySem.W.Frag} {H : Hp} {M : DM} {b : Bool} : R K H M (.bl b) (.bl b) := by unfold R; rfl
theorem R.intI {K : PySem.W.Frag} {H : Hp} {M : DM} {b : Int} : R K H M (.int b) (.int b) := by unfold R; rfl
theorem R.strI {K : PySem.W.Frag} {H : Hp} {M : DM} {b : Str} : R K H M (.str b) (.str b) := by unfold R; rfl
theorem R.nonI {K : PySem.W.Frag} {H : Hp} {M : DM} : R K H M .non .non := by unfold R; rfl
theorem R.refI {K : PySem.W.Frag} {H : Hp} {M : DM} {b : Addr} : R K H M (.ref b) (.ref b) := by unfold R; rfl
theorem dd_and1 (ha : PE X a (uE X.K W da)) {op} : PE X (.BoolOp op [a] pos) (uE X.K W da) := pe_one ha
theorem dd_and (ha : PE X a (uE X.K W da)) (hb : PE X (.BoolOp .And (b :: rest) pos) (uE X.K W db)) : PE X (.BoolOp .And (a :: b :: rest) pos) (uE X.K W (dAndV da db)) :=
  pe_imp (pe_and ha hb) fun σ H Q ⟨ρ, M, Qd, Xd, en, hr, h, q, x⟩ => ⟨ρ, M, _, Xd, en, hr, h, fun c H1 d1 M1 s1 r1 hr1 h1 => by
    cases d1 with
    | bl c =>
      unfold R at r1
      refine ⟨c, r1, ?_⟩
      cases c with
      | true => exact ⟨ρ, M1, Qd, Xd, en.stp s1, hr1, h1, q.stp s1, x.stp s1⟩
      | false => exact q _ H1 _ M1 s1 R.blI hr1 h1
    | _ => exact h1.elim, x⟩
theorem dd_or (ha : PE X a (uE X.K W da)) (hb : PE X (.BoolOp .Or (b :: rest) pos) (uE X.K W db)) : PE X (.BoolOp .Or (a :: b :: rest) pos) (uE X.K W (dOrV da db)) :=
  pe_imp (pe_or ha hb) fun σ H Q ⟨ρ, M, Qd, Xd, en, hr, h, q, x⟩ => ⟨ρ, M, _, Xd, en, hr, h, fun c H1 d1 M1 s1 r1 hr1 h1 => by
    cases d1 with
    | bl c =>
      unfold R at r1
      refine ⟨c, r1, ?_⟩
      cases c with
      | false => exact ⟨ρ, M1, Qd, Xd, en.stp s1, hr1, h1, q.stp s1, x.stp s1⟩
      | true => exact q _ H1 _ M1 s1 R.blI hr1 h1
    | _ => exact h1.elim, x⟩
theorem dd_not (ha : PE X a (uE X.K W da)) : PE X (.UnaryOp .Not a pos) (uE X.K W (dNotV da)) :=
  pe_imp (pe_not ha) fun σ H Q ⟨ρ, M, Qd, Xd, en, hr, h, q, x⟩ => ⟨ρ, M, _, Xd, en, hr, h, fun c H1 d1 M1 s1 r1 hr1 h1 => by
    cases d1 with
    | bl c =>
      unfold R at r1
      exact ⟨c, r1, q _ H1 _ M1 s1 R.blI hr1 h1⟩
    | _ => exact h1.elim, x⟩
def dIf (t : DT) (u w : DE) : DE := fun ρ M Q Xd => t ρ M (fun c M1 => if c = true then u ρ M1 Q Xd else w ρ M1 Q Xd) Xd
theorem dd_if {c : Expr} (hc : PT X c (uT X.K W ta)) (ha : PE X a (uE X.K W da)) (hb : PE X b (uE X.K W db)) : PE X (.IfExp c a b pos) (uE X.K W (dIf ta da db)) :=
  pe_imp (pe_ifExp hc ha hb) fun σ H Q ⟨ρ, M, Qd, Xd, en, hr, h, q, x⟩ => ⟨ρ, M, _, Xd, en, hr, h, fun c H1 M1 s1 hr1 h1 => by
    cases c with
    | true => exact ⟨ρ, M1, Qd, Xd, en.stp s1, hr1, h1, q.stp s1, x.stp s1⟩
    | false => exact ⟨ρ, M1, Qd, Xd, en.stp s1, hr1, h1, q.stp s1, x.stp s1⟩, x⟩

/-! ### several -/
def dNil : DA := fun _ M Q _ => Q [] M
def dCons (de : DE) (dr : DA) : DA := fun ρ M Q Xd => de ρ M (fun d M1 => dr ρ M1 (fun ds M2 => Q (d :: ds) M2) Xd) Xd
variable {e : Expr} {es : List Expr} {de : DE} {dr : DA}
theorem dx_nil : PA X [] (uA X.K W dNil) := pa_imp pa_nil fun σ H Q ⟨ρ, M, Qd, Xd, en, hr, h, q, x⟩ => q [] H [] M .refl .nil hr h
theorem dx_cons (ha : PE X e (uE X.K W de)) (hr : PA X es (uA X.K W dr)) (hs : starEach (e :: es) X.env = (false, eval e X.env) :: starEach es X.env := by exact rfl) : PA X (e :: es) (uA X.K W (dCons de dr)) :=
  pa_imp (pa_cons ha hr hs) fun σ H Q ⟨ρ, M, Qd, Xd, en, hr, h, q, x⟩ => ⟨ρ, M, _, Xd, en, hr, h, fun v H1 d1 M1 s1 r1 hr1 h1 =>
    ⟨ρ, M1, _, Xd, en.stp s1, hr1, h1, fun vs H2 ds M2 s2 r2 hr2 h2 => q _ H2 _ M2 (s1.trans s2) (RA.cons (r1.stp s2) r2) hr2 h2, x.stp s1⟩, x⟩
def dTup (da : DA) : DE := fun ρ M Q Xd => da ρ M (fun ds M1 => ds.length ≤ sizeLine ∧ Q (.tup ds) M1) Xd
def dLst (da : DA) : DE := fun ρ M Q Xd => da ρ M (fun ds M1 => ds.length ≤ sizeLine ∧ Q (.lst ds) M1) Xd
/-- a list that is to change -/
def dLstM (da : DA) : DE := fun ρ M Q Xd => da ρ M (fun ds M1 => ds.length ≤ sizeLine ∧ noLs ds = true ∧ ∀ p, M1 p = none → Q (.ref p) (put M1 p (.lst ds))) Xd
theorem newTup {K : PySem.W.Frag} {H : Hp} {M : DM} {p : Addr} {xs : List V} {ds : List D} (hr : HR K H M) (n : H p = none) (r : RA K H M xs ds) :
    Stp K H M (upd H p (.tup xs)) M ∧ R K (upd H p (.tup xs)) M (.ref p) (.tup ds) ∧ HR K (upd H p (.tup xs)) M := by
  obtain ⟨s, h⟩ := Stp.new (o := .tup xs) n hr
  refine ⟨s, ?_, h⟩
  unfold R
  exact ⟨p, xs, rfl, SqT.of upd_same, r.stp s⟩
theorem newLst {K : PySem.W.Frag} {H : Hp} {M : DM} {p : Addr} {xs : List V} {ds : List D} (hr : HR K H M) (n : H p = none) (r : RA K H M xs ds) :
    Stp K H M (upd H p (.lst xs)) M ∧ R K (upd H p (.lst xs)) M (.ref p) (.lst ds) ∧ HR K (upd H p (.lst xs)) M := by
  obtain ⟨s, h⟩ := Stp.new (o := .lst xs) n hr
  refine ⟨s, ?_, h⟩
  unfold R
  exact ⟨p, xs, rfl, upd_same, hr.none n, r.stp s⟩
theorem newLstM {K : PySem.W.Frag} {H : Hp} {M : DM} {p : Addr} {xs : List V} {ds : List D} (hr : HR K H M) (n : H p = none) (r : RA K H M xs ds) (z : noLs ds = true) :
    Stp K H M (upd H p (.lst xs)) (put M p (.lst ds)) ∧ HR K (upd H p (.lst xs)) (put M p (.lst ds)) :=
  Stp.newM n hr fun s => ⟨z, xs, upd_same, r.stp s⟩
variable {dag : DA}
theorem dd_tup {x1} (h : PA X es (uA X.K W dag)) : PE X (.Tuple es x1 pos) (uE X.K W (dTup dag)) :=
  pe_imp (pe_tup h) fun σ H Q ⟨ρ, M, Qd, Xd, en, hr, h, q, x⟩ => ⟨ρ, M, _, Xd, en, hr, h, fun vs H1 ds M1 s1 r1 hr1 h1 => ⟨by rw [r1.len]; exact h1.1, fun p n => by
    obtain ⟨s2, r2, hr2⟩ := newTup hr1 n r1
    exact q _ _ _ M1 (s1.trans s2) r2 hr2 h1.2⟩, x⟩
theorem dd_lst (h : PA X es (uA X.K W dag)) : PE X (.List es pos) (uE X.K W (dLst dag)) :=
  pe_imp (pe_lst h) fun σ H Q ⟨ρ, M, Qd, Xd, en, hr, h, q, x⟩ => ⟨ρ, M, _, Xd, en, hr, h, fun vs H1 ds M1 s1 r1 hr1 h1 => ⟨by rw [r1.len]; exact h1.1, fun p n => by
    obtain ⟨s2, r2, hr2⟩ := newLst hr1 n r1
    exact q _ _ _ M1 (s1.trans s2) r2 hr2 h1.2⟩, x⟩
theorem dd_lstM (h : PA X es (uA X.K W dag)) : PE X (.List es pos) (uE X.K W (dLstM dag)) :=
  pe_imp (pe_lst h) fun σ H Q ⟨ρ, M, Qd, Xd, en, hr, h, q, x⟩ => ⟨ρ, M, _, Xd, en, hr, h, fun vs H1 ds M1 s1 r1 hr1 h1 => ⟨by rw [r1.len]; exact h1.1, fun p n => by
    obtain ⟨s2, hr2⟩ := newLstM hr1 n r1 h1.2.1
    exact q _ _ _ _ (s1.trans s2) R.refI hr2 (h1.2.2 p (hr1.none n))⟩, x⟩

/-! ### calls of what is built in -/
def CaV (K : PySem.W.Frag) (r : List V → Hp → VK → Prop) (f : List D → DM → DK → Prop) : Prop := ∀ H M vs ds Q Qd, HR K H M → RA K H M vs ds → f ds M Qd → LdV K H M Qd Q → r vs H Q
def dCall (f : List D → DM → DK → Prop) (da : DA) : DE := fun ρ M Q Xd => da ρ M (fun ds M1 => f ds M1 Q) Xd
theorem dd_call {r : List V → Hp → VK → Prop} {f : List D → DM → DK → Prop} (h : PE X e (tCB r (uA X.K W dag))) (hv : CaV X.K r f) : PE X e (uE X.K W (dCall f dag)) :=
  pe_imp h fun σ H Q ⟨ρ, M, Qd, Xd, en, hr, h, q, x⟩ => ⟨ρ, M, _, Xd, en, hr, h, fun vs H1 ds M1 s1 r1 hr1 h1 => hv H1 M1 vs ds Q Qd hr1 r1 h1 (q.stp s1), x⟩

/-! ### calls of defs -/
abbrev DSp := List D → DM → DK → DX → Prop
/-- a data promise as a promise -/
def spD (K : PySem.W.Frag) (n : Nat) (sp : DSp) : Sp := fun vs H Q E => ∃ ds M Qd Xd, ds.length = n ∧ RA K H M vs ds ∧ HR K H M ∧ sp ds M Qd Xd ∧ LdV K H M Qd Q ∧ LdX K H M Xd E
def dFn (sp : DSp) (n : Nat) (da : DA) : DE := fun ρ M Q Xd => da ρ M (fun ds M1 => ds.length = n ∧ sp ds M1 Q Xd) Xd
theorem dd_fn {x : Str} {p : Pos} {f : Addr} {k n : Nat} {fd : FuncData} {ps : List Str} {sp : DSp} (F : FnOk X.prog X.w X.K X.mg X.base (L2.CX X.prog X.w) k f fd ps (spD X.K n sp)) (hr : Room k X.A) (hg : Gl X x) (hm : X.mg x = some (.ref f))
    (hk : PySem.W.keepIn X.K (.ref f) = true) (hb : Binds X.K fd ps []) (tk : Takes X W) (ha : PA X (e :: es) (uA X.K W dag)) (hd : (x == ("__debug__" : Str)) = false := by decide)
    (he : starEach (e :: es) X.env = (false, eval e X.env) :: starEach es X.env := by exact rfl) (hpl : (backTo pos (starEach es X.env)).any (·.1) = false := by exact rfl) :
    PE X (.Call (.Name x p) (e :: es) [] pos) (uE X.K W (dFn sp n dag)) :=
  pe_imp (pe_callS F hr hg hm hk hb (fun σ => passAt tk σ) ha hd he hpl) fun σ H Q ⟨ρ, M, Qd, Xd, en, hr, h, q, x⟩ => ⟨ρ, M, _, Xd, en, hr, h, fun vs H1 ds M1 s1 r1 hr1 h1 => ⟨ds, M1, Qd, Xd, h1.1, r1, hr1, h1.2, q.stp s1, fun c od fs H' M' s2 xr hr2 h2 => x c od fs H' M' (s1.trans s2) xr hr2 h2⟩, x⟩
end
end DL

set_option Elab.async false
set_option linter.all false
set_option maxRecDepth 100000
set_option maxHeartbeats 4000000
namespace DL
open PySem PySem.Spec L2
section
variable {X : Cx} {W : WX} {st : Stmt} {rest : List Stmt} {e : Expr} {de : DE} {pos : Pos} {da db ds : DS} {ta : DT}

/-! ### statements -/
def dNext : DS := fun N ρ M => N.nx ρ M
def dSeq (a b : DS) : DS := fun N ρ M => a { N with nx := fun ρ M => b N ρ M } ρ M
def dBreak : DS := fun N ρ M => N.bk ρ M
def dCont : DS := fun N ρ M => N.ct ρ M
def dRetN : DS := fun N _ M => N.rt .non M
def dRet (de : DE) : DS := fun N ρ M => de ρ M N.rt fun x M1 => N.ex x ρ M1
def dDrop (de : DE) : DS := fun N ρ M => de ρ M (fun _ M1 => N.nx ρ M1) fun x M1 => N.ex x ρ M1
def dIfS (t : DT) (a b : DS) : DS := fun N ρ M => t ρ M (fun c M1 => if c = true then a N ρ M1 else b N ρ M1) fun x M1 => N.ex x ρ M1
def dNever : DS := fun _ _ _ => False
theorem dz_nil : PSs X [] (uS X.K W dNext) := pss_imp pss_nil fun D σ H ⟨ρ, M, N, en, hr, h, l⟩ => l.nx σ H ρ M .refl en hr h
theorem dz_pass : PS X (.Pass pos) (uS X.K W dNext) := ps_imp ps_pass fun D σ H ⟨ρ, M, N, en, hr, h, l⟩ => l.nx σ H ρ M .refl en hr h
theorem dz_break : PS X (.Break pos) (uS X.K W dBreak) := ps_imp ps_break fun D σ H ⟨ρ, M, N, en, hr, h, l⟩ => l.bk σ H ρ M .refl en hr h
theorem dz_cont : PS X (.Continue pos) (uS X.K W dCont) := ps_imp ps_continue fun D σ H ⟨ρ, M, N, en, hr, h, l⟩ => l.ct σ H ρ M .refl en hr h
theorem dz_retN : PS X (.Return none pos) (uS X.K W dRetN) := ps_imp ps_retN fun D σ H ⟨ρ, M, N, en, hr, h, l⟩ => l.rt .non H .non M .refl R.nonI hr h
theorem dz_never : PS X st (uS X.K W dNever) := ps_imp ps_never fun D σ H ⟨ρ, M, N, en, hr, h, l⟩ => h
theorem dz_neverS {sts : List Stmt} : PSs X sts (uS X.K W dNever) := pss_imp pss_never fun D σ H ⟨ρ, M, N, en, hr, h, l⟩ => h
theorem dz_doc {x j pos pos'} : PS X (.Expr (.Constant (.str x) j pos) pos') (uS X.K W dNext) := ps_imp ps_doc fun D σ H ⟨ρ, M, N, en, hr, h, l⟩ => l.nx σ H ρ M .refl en hr h
theorem dz_cons (h1 : PS X st (uS X.K W da)) (h2 : PSs X rest (uS X.K W db)) : PSs X (st :: rest) (uS X.K W (dSeq da db)) :=
  pss_imp (pss_cons h1 h2) fun D σ H ⟨ρ, M, N, en, hr, h, l⟩ => ⟨ρ, M, _, en, hr, h, ⟨fun σ' H' ρ' M' s en' hr' h' => ⟨ρ', M', N, en', hr', h', l.stp s⟩, l.rt, l.bk, l.ct, l.ex⟩⟩
theorem dz_one (h1 : PS X st (uS X.K W da)) : PSs X [st] (uS X.K W da) := pss_one h1
theorem dz_ret (he : PE X e (uE X.K W de)) : PS X (.Return (some e) pos) (uS X.K W (dRet de)) :=
  ps_imp (ps_ret he) fun D σ H ⟨ρ, M, N, en, hr, h, l⟩ => ⟨ρ, M, _, _, en, hr, h, l.rt, l.ex.at en⟩
theorem dz_expr (he : PE X e (uE X.K W de)) (hs : swapsWith e none pos.line X.env = pure false := by exact rfl) : PS X (.Expr e pos) (uS X.K W (dDrop de)) :=
  ps_imp (ps_expr he hs) fun D σ H ⟨ρ, M, N, en, hr, h, l⟩ => ⟨ρ, M, _, _, en, hr, h, fun v H' d M' s r hr' q => l.nx σ H' ρ M' s (en.stp s) hr' q, l.ex.at en⟩
theorem dz_if {c : Expr} {a b : List Stmt} (hc : PT X c (uT X.K W ta)) (ha : PSs X a (uS X.K W da)) (hb : PSs X b (uS X.K W db)) : PS X (.If c a b pos) (uS X.K W (dIfS ta da db)) :=
  ps_imp (ps_if hc ha hb) fun D σ H ⟨ρ, M, N, en, hr, h, l⟩ => ⟨ρ, M, _, _, en, hr, h, fun c H' M' s hr' q => by
    cases c with
    | true => exact ⟨ρ, M', N, en.stp s, hr', q, l.stp s⟩
    | false => exact ⟨ρ, M', N, en.stp s, hr', q, l.stp s⟩, l.ex.at en⟩

/-! ### targets -/
abbrev DG := D → DR → DM → (DR → DM → Prop) → (Xc → DR → DM → Prop) → Prop
abbrev DGs := List D → DR → DM → (DR → DM → Prop) → (Xc → DR → DM → Prop) → Prop
def uG (K : PySem.W.Frag) (W : WX) (dg : DG) : TG := fun v σ H Q => ∃ ρ M d Qd Xd, En K H M σ ρ ∧ HR K H M ∧ R K H M v d ∧ dg d ρ M Qd Xd ∧ LdS K H M Qd Q ∧ LdXS K H M Xd W
def uGs (K : PySem.W.Frag) (W : WX) (dg : DGs) : TGs := fun v σ H Q => ∃ ρ M d Qd Xd, En K H M σ ρ ∧ HR K H M ∧ RA K H M v d ∧ dg d ρ M Qd Xd ∧ LdS K H M Qd Q ∧ LdXS K H M Xd W
def hName (i : Nat) : DG := fun d ρ M Q _ => Q (ρ.set i (some d)) M
def hNil : DGs := fun ds ρ M Q _ => match ds with
  | [] => Q ρ M
  | _ => False
def hCons (g : DG) (gs : DGs) : DGs := fun ds ρ M Q Xd => match ds with
  | d :: r => g d ρ M (fun ρ1 M1 => gs r ρ1 M1 Q Xd) Xd
  | _ => False
def hTup (n : Nat) (gs : DGs) : DG := fun d ρ M Q Xd => match d with
  | .tup ds => ds.length = n ∧ gs ds ρ M Q Xd
  | _ => False
theorem pg_imp {tg : Expr} {t t' : TG} (h : PG X tg t) (i : ∀ v σ H Q, t' v σ H Q → t v σ H Q) : PG X tg t' := ⟨fun pins s σ H x v Q I r q => h.run pins s σ H x v Q I r (i x σ H Q q)⟩
theorem pgs_imp {tg : List Expr} {t t' : TGs} (h : PGs X tg t) (i : ∀ v σ H Q, t' v σ H Q → t v σ H Q) : PGs X tg t' := ⟨fun pins s σ H x v Q I r q => h.run pins s σ H x v Q I r (i x σ H Q q)⟩
theorem dg_name {i : Nat} {x : Str} (hN : X.N.Nodup) (hi : X.N[i]? = some x) (hx : Loc X.env.scope x) (hf : X.fn x = true ∨ X.env.scope.names.lookup x = some .local := by first | exact .inl rfl | exact .inr rfl | assumption) :
    PG X (.Name x pos) (uG X.K W (hName i)) := pg_imp (pg_name hN hi hx hf) fun v σ H Q ⟨ρ, M, d, Qd, Xd, en, hr, r, h, l, x⟩ => l _ H _ M .refl (en.set i r) hr h

theorem dg_nil : PGs X [] (uGs X.K W hNil) := pgs_imp pgs_nil fun v σ H Q ⟨ρ, M, d, Qd, Xd, en, hr, r, h, l, x⟩ => by
  cases d with
  | nil =>
    unfold RA at r
    exact ⟨r, l _ H _ M .refl en hr h⟩
  | cons d ds => exact h.elim
theorem dg_cons {g : DG} {gs : DGs} {e : Expr} {es : List Expr} (h1 : PG X e (uG X.K W g)) (h2 : PGs X es (uGs X.K W gs))
    (hs : (assignEach (e :: es) X.env).map (·.2) = assign e X.env :: (assignEach es X.env).map (·.2) := by exact rfl) : PGs X (e :: es) (uGs X.K W (hCons g gs)) :=
  pgs_imp (pgs_cons h1 h2 hs) fun v σ H Q ⟨ρ, M, d, Qd, Xd, en, hr, r, h, l, x⟩ => by
    cases d with
    | nil => exact h.elim
    | cons d ds =>
      unfold RA at r
      obtain ⟨v1, vr, e1, r1, r2⟩ := r
      exact ⟨v1, vr, e1, ρ, M, d, _, Xd, en, hr, r1, h, fun σ1 H1 ρ1 M1 s1 en1 hr1 h1 => ⟨ρ1, M1, ds, Qd, Xd, en1, hr1, r2.stp s1, h1, l.stp s1, x.stp s1⟩, x⟩
theorem pg_or {tg : Expr} {t u : TG} (h : PG X tg t) (h' : PG X tg u) : PG X tg (fun v σ H Q => t v σ H Q ∨ u v σ H Q) := ⟨fun pins s σ H v w Q I r q => q.elim (h.run pins s σ H v w Q I r) (h'.run pins s σ H v w Q I r)⟩
/-- (a, b, ..) = a tuple, or a list -/
def seqD (M : DM) (d : D) : Option (List D) := match d with
  | .tup ds => some ds
  | .lst ds => some ds
  | .seq ds => some ds
  | .ref a => match M a with
    | some (.lst ds) => some ds
    | _ => none
  | _ => none
theorem seqD_of {K : PySem.W.Frag} {H : Hp} {M : DM} {v : V} {d : D} {ds : List D} (hr : HR K H M) (r : R K H M v d) (h : seqD M d = some ds) : ∃ a xs, v = .ref a ∧ (SqL K H a xs ∨ SqT K H a xs) ∧ RA K H M xs ds := by
  cases d with
  | tup es =>
    unfold R at r
    obtain ⟨a, xs, e, t, q⟩ := r
    cases h
    exact ⟨a, xs, e, .inr t, q⟩
  | lst es =>
    unfold R at r
    obtain ⟨a, xs, e, t, _, q⟩ := r
    cases h
    exact ⟨a, xs, e, .inl (SqL.of t), q⟩
  | seq es =>
    unfold R at r
    obtain ⟨a, xs, e, t, q⟩ := r
    cases h
    exact ⟨a, xs, e, .inl (t.elim (fun ⟨o, z⟩ => .inl (.inr ⟨o, z⟩)) fun z => z H), q⟩
  | ref a =>
    unfold R at r
    unfold seqD at h
    cases e : M a with
    | none => simp [e] at h
    | some o =>
      have ho := hr a o e
      cases o with
      | lst es =>
        simp [e] at h
        subst h
        obtain ⟨_, xs, h1, h2⟩ := ho
        exact ⟨a, xs, r, .inl (SqL.of h1), h2⟩
      | ins C fs => simp [e] at h
      | dct ks kvs => simp [e] at h
  | _ => cases h
def onSeq (M : DM) (d : D) (k : List D → Prop) : Prop := match seqD M d with
  | some ds => k ds
  | none => False
theorem onSeq_of {K : PySem.W.Frag} {H : Hp} {M : DM} {v : V} {d : D} {k : List D → Prop} (hr : HR K H M) (r : R K H M v d) (h : onSeq M d k) : ∃ a xs ds, v = .ref a ∧ (SqL K H a xs ∨ SqT K H a xs) ∧ RA K H M xs ds ∧ k ds := by
  unfold onSeq at h
  cases e : seqD M d with
  | none => rw [e] at h; exact h.elim
  | some ds =>
    rw [e] at h
    obtain ⟨a, xs, h1, h2, h3⟩ := seqD_of hr r e
    exact ⟨a, xs, ds, h1, h2, h3, h⟩
def hSeq (n : Nat) (gs : DGs) : DG := fun d ρ M Q Xd => onSeq M d fun ds => ds.length = n ∧ gs ds ρ M Q Xd
theorem dg_tup {es : List Expr} {k : Nat} {gs : DGs} {n : Nat} (hc : X.calm = true) (h : PGs X es (uGs X.K W gs))
    (hn : (assignEach es X.env).length = n := by exact rfl) (hst : (assignEach es X.env).findIdx? (·.1) = none := by exact rfl) : PG X (.Tuple es k pos) (uG X.K W (hSeq n gs)) :=
  pg_imp (pg_or (pg_tup hc h hn hst) (L2.pg_unl hc h hn hst)) fun v σ H Q ⟨ρ, M, d, Qd, Xd, en, hr, r, h, l, x⟩ => by
    obtain ⟨a, xs, ds, e, sq, ra, hl, hg⟩ := onSeq_of hr r h
    have body : xs.length = n ∧ uGs X.K W gs xs σ H Q := ⟨ra.len.trans hl, ρ, M, ds, Qd, Xd, en, hr, ra, hg, l, x⟩
    rcases sq with sq | sq
    · exact .inr ⟨a, xs, e, sq, body⟩
    · exact .inl ⟨a, xs, e, sq, body⟩

/-- o[i] = v -/
def SeV (K : PySem.W.Frag) (r : TSet) (f : D → D → D → DM → (DM → Prop) → Prop) : Prop := ∀ H M o i v x y z (Q : Hp → Prop) Qd, HR K H M → R K H M o x → R K H M i y → R K H M v z → f x y z M Qd → (∀ H' M', Stp K H M H' M' → HR K H' M' → Qd M' → Q H') → r o i v H Q
def hSub (do_ di : DE) (f : D → D → D → DM → (DM → Prop) → Prop) : DG := fun d ρ M Q Xd => do_ ρ M (fun o M1 => di ρ M1 (fun i M2 => f o i d M2 fun M3 => Q ρ M3) fun x M' => Xd x ρ M') fun x M' => Xd x ρ M'
theorem dg_sub {o i : Expr} {do_ di : DE} {r : TSet} {f : D → D → D → DM → (DM → Prop) → Prop} (h : PG X (.Subscript o i pos) (gSub (uE X.K W do_) (uE X.K W di) r)) (hv : SeV X.K r f) : PG X (.Subscript o i pos) (uG X.K W (hSub do_ di f)) :=
  pg_imp h fun v σ H Q ⟨ρ, M, d, Qd, Xd, en, hr, rv, h, l, x⟩ => by
    refine ⟨ρ, M, _, _, en, hr, h, fun v1 H1 d1 M1 s1 r1 hr1 h1 => ?_, x.at en⟩
    refine ⟨ρ, M1, _, _, en.stp s1, hr1, h1, fun v2 H2 d2 M2 s2 r2 hr2 h2 => ?_, (x.stp s1).at (en.stp s1)⟩
    exact hv H2 M2 v1 v2 v d1 d2 d _ _ hr2 (r1.stp s2) r2 (rv.stp (s1.trans s2)) h2 fun H3 M3 s3 hr3 h3 => l σ H3 ρ M3 ((s1.trans s2).trans s3) (en.stp ((s1.trans s2).trans s3)) hr3 h3
def dAsg (de : DE) (g : DG) : DS := fun N ρ M => de ρ M (fun d M1 => g d ρ M1 N.nx N.ex) fun x M1 => N.ex x ρ M1
theorem asg_in {de : DE} {g : DG} (D : Ends) (σ : L2.St) (H : Hp) : uS X.K W (dAsg de g) D σ H → tAsg (uE X.K W de) (uG X.K W g) D σ H := fun ⟨ρ, M, N, en, hr, h, l⟩ =>
  ⟨ρ, M, _, _, en, hr, h, fun v H1 d M1 s1 r1 hr1 h1 => ⟨ρ, M1, d, N.nx, N.ex, en.stp s1, hr1, r1, h1, l.nx.stp s1, l.ex.stp s1⟩, l.ex.at en⟩
theorem dz_asg {tg : Expr} {g : DG} (he : PE X e (uE X.K W de)) (hg : PG X tg (uG X.K W g)) (hs : swapsWithSole [tg] e pos.line X.env = pure false := by exact rfl) (hw : swappedStores [tg] e X.env = pure none := by exact rfl)
    (h1 : (assignEach [tg] X.env).map (·.2) = [assign tg X.env] := by exact rfl) : PS X (.Assign [tg] e pos) (uS X.K W (dAsg de g)) := ps_imp (ps_asg he hg hs hw h1) asg_in
def dSet (de : DE) (i : Nat) : DS := fun N ρ M => de ρ M (fun d M1 => N.nx (ρ.set i (some d)) M1) fun x M1 => N.ex x ρ M1
theorem set_in {de : DE} {i : Nat} (D : Ends) (σ : L2.St) (H : Hp) : uS X.K W (dSet de i) D σ H → tAsg (uE X.K W de) (gName i) D σ H := fun ⟨ρ, M, N, en, hr, h, l⟩ =>
  ⟨ρ, M, _, _, en, hr, h, fun v H1 d M1 s1 r1 hr1 h1 => l.nx _ H1 _ M1 s1 ((en.stp s1).set i r1) hr1 h1, l.ex.at en⟩
theorem dz_set {i : Nat} {x : Str} {pos' : Pos} (hN : X.N.Nodup) (hi : X.N[i]? = some x) (hx : Loc X.env.scope x) (he : PE X e (uE X.K W de)) (hs : swapsWith e (some (.Name x pos')) pos.line X.env = pure false := by exact rfl) (hf : X.fn x = true ∨ X.env.scope.names.lookup x = some .local := by first | exact .inl rfl | exact .inr rfl | assumption) :
    PS X (.Assign [.Name x pos'] e pos) (uS X.K W (dSet de i)) := ps_imp (ps_set hN hi hx he hs hf) set_in
def dPar (i j : Nat) (dag : DA) : DS := fun N ρ M => dag ρ M (fun ds M1 => match ds with
  | [d, e] => N.nx ((ρ.set i (some d)).set j (some e)) M1
  | _ => False) fun x M1 => N.ex x ρ M1
theorem RA.two {K : PySem.W.Frag} {H : Hp} {M : DM} {vs : List V} {d e : D} (r : RA K H M vs [d, e]) : ∃ v w, vs = [v, w] ∧ R K H M v d ∧ R K H M w e := by
  unfold RA at r
  obtain ⟨v, r, e1, h1, h2⟩ := r
  unfold RA at h2
  obtain ⟨w, r, e2, h3, h4⟩ := h2
  unfold RA at h4
  subst e1 e2 h4
  exact ⟨v, w, rfl, h1, h3⟩
theorem dz_par {i j : Nat} {x y : Str} {a b : Expr} {dag : DA} {px py pt : Pos} {kt k2 pt2} (hc : X.calm = true) (hN : X.N.Nodup) (hi : X.N[i]? = some x) (hj : X.N[j]? = some y) (hij : i ≠ j)
    (hx : X.env.scope.names.lookup x = some .local) (hy : X.env.scope.names.lookup y = some .local) (ha : PA X [a, b] (uA X.K W dag))
    (hw : swappedStores [.Tuple [.Name x px, .Name y py] kt pt] (.Tuple [a, b] k2 pt2) X.env = pure (some [x, y]))
    (hs : swapsWithSole [.Tuple [.Name x px, .Name y py] kt pt] (.Tuple [a, b] k2 pt2) pos.line X.env = pure false := by exact rfl) :
    PS X (.Assign [.Tuple [.Name x px, .Name y py] kt pt] (.Tuple [a, b] k2 pt2) pos) (uS X.K W (dPar i j dag)) :=
  ps_imp (ps_par hc hN hi hj hij hx hy ha hw hs) fun D σ H ⟨ρ, M, N, en, hr, h, l⟩ => ⟨ρ, M, _, _, en, hr, h, fun vs H1 ds M1 s1 r1 hr1 h1 => by
    match ds, r1, h1 with
    | [d, e], r1, h1 =>
      obtain ⟨v, w, e1, r2, r3⟩ := r1.two
      exact ⟨v, w, e1, l.nx _ H1 _ M1 s1 (((en.stp s1).set i r2).set j r3) hr1 h1⟩
    | [], _, h1 => exact h1.elim
    | [_], _, h1 => exact h1.elim
    | _ :: _ :: _ :: _, _, h1 => exact h1.elim, l.ex.at en⟩
/-- x op= e -/
def dAug (i : Nat) (de : DE) (f : F2) : DS := fun N ρ M => match ρ[i]? with
  | some (some x) => de ρ M (fun y M1 => f x y M1 fun z M2 => N.nx (ρ.set i (some z)) M2) fun x M1 => N.ex x ρ M1
  | _ => False
theorem dz_aug {i : Nat} {x : Str} {op : Operator} {ti : TIp} {f : F2} {pos' : Pos} (hN : X.N.Nodup) (hi : X.N[i]? = some x) (hx : Loc X.env.scope x) (he : PE X e (uE X.K W de)) (ho : PIp X op ti) (hv : OpV X.K ti f) (hf : X.fn x = true ∨ X.env.scope.names.lookup x = some .local := by first | exact .inl rfl | exact .inr rfl | assumption) :
    PS X (.AugAssign (.Name x pos') op e pos) (uS X.K W (dAug i de f)) :=
  ps_imp (ps_aug hN hi hx he ho hf) fun D σ H ⟨ρ, M, N, en, hr, h, l⟩ => by
    unfold dAug at h
    cases q : ρ[i]? with
    | none => rw [q] at h; exact h.elim
    | some o =>
      cases o with
      | none => rw [q] at h; exact h.elim
      | some d =>
        rw [q] at h
        obtain ⟨v, h1, h2⟩ := en.2 i d q
        exact ⟨v, h1, ρ, M, _, _, en, hr, h, fun w H1 d1 M1 s1 r1 hr1 h1 => hv H1 M1 v w d d1 _ _ hr1 (h2.stp s1) r1 h1 fun z H2 d2 M2 s2 r2 hr2 h2 => l.nx _ H2 _ M2 (s1.trans s2) ((en.stp (s1.trans s2)).set i r2) hr2 h2, l.ex.at en⟩

/-! ### while -/
def dWhile (t : DT) (b : DS) : DS := fun N ρ M => ∃ P : Nat → DR → DM → Prop, (∃ m, P m ρ M) ∧ ∀ m ρ M, P m ρ M →
  t ρ M (fun c M1 => if c = true then b { N with nx := fun ρ' M' => ∃ m', m' < m ∧ P m' ρ' M', ct := fun ρ' M' => ∃ m', m' < m ∧ P m' ρ' M', bk := N.nx } ρ M1 else N.nx ρ M1) fun x M1 => N.ex x ρ M1
theorem dz_while {c : Expr} {body : List Stmt} (hp : PassesOwn (model X.prog X.w) X.A X.env X.xe) (hc : PT X c (uT X.K W ta)) (hb : PSs X body (uS X.K W db)) : PS X (.While c body [] pos) (uS X.K W (dWhile ta db)) :=
  ps_imp (ps_while hp hc hb) fun E σ H ⟨ρ, M, N, en, hr, ⟨P, ⟨m, hm⟩, turn⟩, l⟩ => by
    refine ⟨fun m σ' H' => ∃ ρ' M', Stp X.K H M H' M' ∧ En X.K H' M' σ' ρ' ∧ HR X.K H' M' ∧ P m ρ' M', ⟨m, ρ, M, .refl, en, hr, hm⟩, ?_⟩
    rintro m σ' H' ⟨ρ', M', s, en', hr', hP⟩
    refine ⟨ρ', M', _, _, en', hr', turn m ρ' M' hP, fun c H2 M2 s2 hr2 q => ?_, (l.ex.stp s).at en'⟩
    have s3 := s.trans s2
    cases c with
    | false => exact l.nx _ _ _ _ s3 (en'.stp s2) hr2 q
    | true =>
      refine ⟨fun σ3 H3 => ∃ m', m' < m ∧ ∃ ρ3 M3, Stp X.K H M H3 M3 ∧ En X.K H3 M3 σ3 ρ3 ∧ HR X.K H3 M3 ∧ P m' ρ3 M3, fun _ _ z => z, ρ', M2, _, en'.stp s2, hr2, q, ?_⟩
      have lk : LdS X.K H2 M2 (fun ρ' M' => ∃ m', m' < m ∧ P m' ρ' M') fun σ3 H3 => ∃ m', m' < m ∧ ∃ ρ3 M3, Stp X.K H M H3 M3 ∧ En X.K H3 M3 σ3 ρ3 ∧ HR X.K H3 M3 ∧ P m' ρ3 M3 :=
        fun σ4 H4 ρ4 M4 s4 en4 hr4 ⟨m', lt, p⟩ => ⟨m', lt, ρ4, M4, s3.trans s4, en4, hr4, p⟩
      exact ⟨lk, l.rt.stp s3, l.nx.stp s3, lk, l.ex.stp s3⟩

/-! ### for -/
/-- what is walked: its items, and what must stay true of the data heap meanwhile -/
abbrev DI := DR → DM → (List D → (DM → Prop) → DM → Prop) → DX → Prop
def ItOk (K : PySem.W.Frag) (J : It) (H0 : Hp) (M0 : DM) (ds : List D) (chk : DM → Prop) : Prop := ∀ i H M, Stp K H0 M0 H M → HR K H M → chk M →
  (ds.length = i → J.stop i H) ∧ ∀ d, ds[i]? = some d → J.go i H ∧ ∀ x H', J.yld i H x H' → Stp K H M H' M ∧ HR K H' M ∧ R K H' M x d
def uI (K : PySem.W.Frag) (W : WX) (di : DI) : TI := fun σ H Rr => ∃ ρ M Qd Xd, En K H M σ ρ ∧ HR K H M ∧ di ρ M Qd Xd ∧ (∀ H' M' ds chk J, Stp K H M H' M' → HR K H' M' → ItOk K J H' M' ds chk → Qd ds chk M' → Rr J H') ∧ LdX K H M Xd fun c od H' => W c od σ H'
def dLoop (g : DG) (b : DS) (chk : DM → Prop) (N : DN) : List D → DR → DM → Prop
  | [], ρ, M => chk M ∧ N.nx ρ M
  | d :: ds, ρ, M => chk M ∧ g d ρ M (fun ρ1 M1 => b { N with nx := dLoop g b chk N ds, ct := dLoop g b chk N ds, bk := N.nx } ρ1 M1) N.ex
def dFor (di : DI) (g : DG) (b : DS) : DS := fun N ρ M => di ρ M (fun ds chk M1 => dLoop g b chk N ds ρ M1) fun x M1 => N.ex x ρ M1
theorem dLoop_chk {g : DG} {b : DS} {chk : DM → Prop} {N : DN} {ds : List D} {ρ : DR} {M : DM} (h : dLoop g b chk N ds ρ M) : chk M := by
  cases ds with
  | nil => exact h.1
  | cons d ds => exact h.1
theorem drop_of {α : Type} : ∀ {l : List α} {i : Nat} {d : α}, l[i]? = some d → l.drop i = d :: l.drop (i + 1)
  | [], _, _, h => by simp at h
  | a :: l, 0, d, h => by simp at h; subst h; rfl
  | a :: l, i + 1, d, h => by
    rw [List.drop_succ_cons, List.drop_succ_cons]
    exact drop_of (by simpa using h)
theorem dz_for {tg iter : Expr} {body : List Stmt} {di : DI} {g : DG} (hp : PassesOwn (model X.prog X.w) X.A X.env X.xe) (hc : X.calm = true) (hi : PI X tg iter (uI X.K W di)) (hg : PG X tg (uG X.K W g)) (hb : PSs X body (uS X.K W db))
    (hs : ∀ x, foldedSetIterable iter X.env x = pure x := by intro _; exact rfl) : PS X (.For tg iter body [] pos) (uS X.K W (dFor di g db)) :=
  ps_imp (ps_for hp hc hi hg hb hs) fun E σ H ⟨ρ, M, N, en, hr, h, l⟩ => by
    refine ⟨ρ, M, _, _, en, hr, h, fun H1 M1 ds chk J s1 hr1 ok h1 => ?_, l.ex.at en⟩
    refine ⟨fun i m σ' H' => ∃ ρ' M', m + i = ds.length ∧ Stp X.K H1 M1 H' M' ∧ En X.K H' M' σ' ρ' ∧ HR X.K H' M' ∧ dLoop g db chk N (ds.drop i) ρ' M', ⟨ds.length, ρ, M1, rfl, .refl, en.stp s1, hr1, h1⟩, ?_⟩
    rintro i m σ' H' ⟨ρ', M', em, s', en', hr', h'⟩
    obtain ⟨stop, go⟩ := ok i H' M' s' hr' (dLoop_chk h')
    have s3 := s1.trans s'
    cases m with
    | zero =>
      refine .inl ⟨stop (by omega), ?_⟩
      rw [List.drop_of_length_le (by omega)] at h'
      exact l.nx _ _ _ _ s3 en' hr' h'.2
    | succ m =>
      have lt : i < ds.length := by omega
      have hd := List.getElem?_eq_getElem lt
      obtain ⟨g1, g2⟩ := go _ hd
      rw [drop_of hd] at h'
      refine .inr ⟨g1, fun σ4 H4 => ∃ ρ4 M4, Stp X.K H1 M1 H4 M4 ∧ En X.K H4 M4 σ4 ρ4 ∧ HR X.K H4 M4 ∧ dLoop g db chk N (ds.drop (i + 1)) ρ4 M4, fun σ4 H4 ⟨ρ4, M4, s4, en4, hr4, h4⟩ => ⟨m, Nat.lt_succ_self m, ρ4, M4, by omega, s4, en4, hr4, h4⟩, fun x H2 hy => ?_⟩
      obtain ⟨s2, hr2, rx⟩ := g2 x H2 hy
      have s5 := s3.trans s2
      refine ⟨ρ', M', _, _, N.ex, en'.stp s2, hr2, rx, h'.2, fun σ6 H6 ρ6 M6 s6 en6 hr6 h6 => ?_, l.ex.stp s5⟩
      have lk : LdS X.K H6 M6 (dLoop g db chk N (ds.drop (i + 1))) fun σ4 H4 => ∃ ρ4 M4, Stp X.K H1 M1 H4 M4 ∧ En X.K H4 M4 σ4 ρ4 ∧ HR X.K H4 M4 ∧ dLoop g db chk N (ds.drop (i + 1)) ρ4 M4 :=
        fun σ7 H7 ρ7 M7 s7 en7 hr7 h7 => ⟨ρ7, M7, ((s'.trans s2).trans s6).trans s7, en7, hr7, h7⟩
      exact ⟨ρ6, M6, _, en6, hr6, h6, lk, l.rt.stp (s5.trans s6), l.nx.stp (s5.trans s6), lk, l.ex.stp (s5.trans s6)⟩
end
end DL

set_option Elab.async false
set_option linter.all false
set_option maxRecDepth 100000
set_option maxHeartbeats 4000000
namespace DL
open PySem PySem.Spec L2
section
variable {X : Cx} {W : WX} {e : Expr} {de : DE} {dag : DA} {pos : Pos} {tg : Expr}
theorem pi_imp {iter : Expr} {t t' : TI} (h : PI X tg iter t) (i : ∀ σ H R, t' σ H R → t σ H R) : PI X tg iter t' := ⟨fun pins s σ H R I q => h.run pins s σ H R I (i σ H R q)⟩
/-- a list, a tuple, a text -/
def iSq (K : PySem.W.Frag) (te : TE) : TI := fun σ H Rr => te σ H fun v H1 => (∃ a xs, v = .ref a ∧ SqL K H1 a xs ∧ Rr (Itl K a) H1) ∨ (∃ a xs, v = .ref a ∧ SqT K H1 a xs ∧ Rr (Itt K a) H1) ∨ ∃ z, v = .str z ∧ Rr (Its z) H1
theorem pi_sq {te : TE} (he : PE X e te) : PI X tg e (iSq X.K te) := by
  constructor
  intro pins s σ H Rr I h
  refine thn (he.run pins s σ H _ I h) ?_
  rintro v s1 ⟨y, H1, I1, r1, q⟩
  rcases q with ⟨a, xs, rfl, sq, q⟩ | ⟨a, xs, rfl, sq, q⟩ | ⟨z, rfl, q⟩
  · cases r1
    obtain ⟨its, _, p, _⟩ := I1.list sq
    exact wpAny_pyIter_list p.isList (pi_one (tk := s1.toks) I1 _ (turn_list a _) ⟨_, Heap.get?_push_size _ rfl, rfl, rfl⟩ q)
  · cases r1
    obtain ⟨its, _, p, _⟩ := I1.tuple sq
    exact wpAny_pyIter_tuple (show s1.heap.IsTuple a its.toArray from p) (pi_one (tk := s1.toks) I1 _ (turn_tuple a _) ⟨_, Heap.get?_push_size _ rfl, rfl, rfl⟩ q)
  · obtain ⟨t, rfl⟩ := r1
    cases hz : z.cps.all (· < 128) with
    | false => exact wpAny_pyIter_wide hz (pi_one (tk := s1.toks) I1 _ (turn_str _ z t _ (.inr rfl)) ⟨_, Heap.get?_push_size _ rfl, rfl, rfl⟩ q)
    | true => exact wpAny_pyIter_ascii hz (pi_one (tk := s1.toks) I1 _ (turn_str _ z t _ (.inl rfl)) ⟨_, Heap.get?_push_size _ rfl, rfl, rfl⟩ q)
def chars (x : Str) : List D := x.cps.toList.map fun c => D.str ⟨#[c]⟩
def items (M : DM) (d : D) (k : List D → (DM → Prop) → Prop) : Prop := match d with
  | .str x => k (chars x) fun _ => True
  | .tup ds => k ds fun _ => True
  | .lst ds => k ds fun _ => True
  | .seq ds => k ds fun _ => True
  | .ref a => match M a with
    | some (.lst ds) => k ds fun M' => M' a = some (.lst ds)
    | _ => False
  | _ => False
theorem itL {K : PySem.W.Frag} {H0 : Hp} {M0 : DM} {a : Addr} {ds : List D} {chk : DM → Prop} (h : ∀ H M, Stp K H0 M0 H M → HR K H M → chk M → ∃ xs, SqL K H a xs ∧ RA K H M xs ds) : ItOk K (Itl K a) H0 M0 ds chk := by
  intro i H M s hr hc
  obtain ⟨xs, sq, ra⟩ := h H M s hr hc
  refine ⟨fun e => ⟨xs, sq, by rw [ra.len]; omega⟩, fun d hd => ?_⟩
  obtain ⟨x, hx, rx⟩ := ra.get hd
  refine ⟨⟨xs, x, sq, hx⟩, fun y H' ⟨e1, e2⟩ => ?_⟩
  have e3 := e2 xs sq
  rw [hx] at e3
  cases e3
  subst e1
  exact ⟨.refl, hr, rx⟩
theorem itT {K : PySem.W.Frag} {H0 : Hp} {M0 : DM} {a : Addr} {xs : List V} {ds : List D} (sq : SqT K H0 a xs) (ra : RA K H0 M0 xs ds) : ItOk K (Itt K a) H0 M0 ds fun _ => True := by
  intro i H M s hr _
  refine ⟨fun e => ⟨xs, s.t a xs sq, by rw [ra.len]; omega⟩, fun d hd => ?_⟩
  obtain ⟨x, hx, rx⟩ := (ra.stp s).get hd
  refine ⟨⟨xs, x, s.t a xs sq, hx⟩, fun y H' ⟨e1, e2⟩ => ?_⟩
  have e3 := e2 xs (s.t a xs sq)
  rw [hx] at e3
  cases e3
  subst e1
  exact ⟨.refl, hr, rx⟩
theorem itS {K : PySem.W.Frag} {H0 : Hp} {M0 : DM} {z : Str} : ItOk K (Its z) H0 M0 (chars z) fun _ => True := by
  intro i H M s hr _
  refine ⟨fun e => ?_, fun d hd => ?_⟩
  · unfold chars at e
    rw [List.length_map, Array.length_toList] at e
    exact Nat.le_of_eq e
  · unfold chars at hd
    rw [List.getElem?_map] at hd
    cases q : z.cps.toList[i]? with
    | none => rw [q] at hd; cases hd
    | some c =>
      rw [q] at hd
      cases hd
      have q2 : z.cps[i]? = some c := by simpa using q
      refine ⟨?_, fun y H' ⟨e1, c', e2, e3⟩ => ?_⟩
      · show i < z.cps.size
        obtain ⟨l, _⟩ := Array.getElem?_eq_some_iff.mp q2
        exact l
      · rw [q2] at e2
        cases e2
        subst e1 e3
        exact ⟨.refl, hr, R.strI⟩
def diSq (de : DE) : DI := fun ρ M Q Xd => de ρ M (fun d M1 => items M1 d fun ds chk => Q ds chk M1) Xd
theorem di_sq (he : PE X e (uE X.K W de)) : PI X tg e (uI X.K W (diSq de)) := pi_imp (pi_sq he) fun σ H Rr ⟨ρ, M, Qd, Xd, en, hr, h, q, x⟩ => ⟨ρ, M, _, Xd, en, hr, h, fun v H1 d M1 s1 r1 hr1 h1 => by
  cases d with
  | str z =>
    unfold R at r1
    exact .inr (.inr ⟨z, r1, q H1 M1 _ _ _ s1 hr1 itS h1⟩)
  | tup ds =>
    unfold R at r1
    obtain ⟨a, xs, e, sq, ra⟩ := r1
    exact .inr (.inl ⟨a, xs, e, sq, q H1 M1 _ _ _ s1 hr1 (itT sq ra) h1⟩)
  | lst ds =>
    unfold R at r1
    obtain ⟨a, xs, e, sq, m, ra⟩ := r1
    exact .inl ⟨a, xs, e, SqL.of sq, q H1 M1 _ (fun _ => True) _ s1 hr1 (itL fun H' M' s' hr' _ => ⟨xs, SqL.of (s'.l a xs sq m).1, ra.stp s'⟩) h1⟩
  | seq ds =>
    unfold R at r1
    obtain ⟨a, xs, e, sq, ra⟩ := r1
    refine .inl ⟨a, xs, e, sq.elim (fun ⟨o, z⟩ => .inl (.inr ⟨o, z⟩)) fun z => z H1, q H1 M1 _ (fun _ => True) _ s1 hr1 (itL fun H' M' s' hr' _ => ⟨xs, ?_, ra.stp s'⟩) h1⟩
    exact sq.elim (fun ⟨o, z⟩ => .inl (.inr ⟨o, s'.f a o _ z⟩)) fun z => z H'
  | ref a =>
    unfold R at r1
    unfold items at h1
    cases e : M1 a with
    | none => simp [e] at h1
    | some o =>
      cases o with
      | lst ds =>
        simp only [e] at h1
        obtain ⟨_, xs, h2, h3⟩ := hr1 a _ e
        exact .inl ⟨a, xs, r1, SqL.of h2, q H1 M1 _ _ _ s1 hr1 (itL (chk := fun M' => M' a = some (.lst ds)) fun H' M' s' hr' hc => let ⟨_, ys, h4, h5⟩ := hr' a _ hc; ⟨ys, SqL.of h4, h5⟩) h1⟩
      | ins C fs => simp [e] at h1
      | dct ks kvs => simp [e] at h1
  | _ => exact h1.elim, x⟩

/-- range(n), range(a, b) -/
def rangeD (lo : Int) (n : Nat) : List D := (List.range n).map fun (i : Nat) => D.int (lo + i)
theorem itR {K : PySem.W.Frag} {H0 : Hp} {M0 : DM} {lo : Int} {n : Nat} : ItOk K (Itr lo n) H0 M0 (rangeD lo n) fun _ => True := by
  intro i H M s hr _
  refine ⟨fun e => ?_, fun d hd => ?_⟩
  · unfold rangeD at e
    rw [List.length_map, List.length_range] at e
    exact Nat.le_of_eq e
  · unfold rangeD at hd
    rw [List.getElem?_map] at hd
    by_cases hi : i < n
    · rw [List.getElem?_range hi] at hd
      cases hd
      refine ⟨hi, fun y H' ⟨e1, e2⟩ => ?_⟩
      subst e1 e2
      exact ⟨.refl, hr, R.intI⟩
    · rw [List.getElem?_eq_none (by rw [List.length_range]; omega)] at hd
      cases hd
def onI1 (ds : List D) (k : Int → Prop) : Prop := match ds with
  | [.int i] => k i
  | _ => False
def onI2 (ds : List D) (k : Int → Int → Prop) : Prop := match ds with
  | [.int i, .int j] => k i j
  | _ => False
theorem onI1_of {K : PySem.W.Frag} {H : Hp} {M : DM} {vs : List V} {ds : List D} {k : Int → Prop} (r : RA K H M vs ds) (h : onI1 ds k) : ∃ i, vs = [.int i] ∧ k i := by
  unfold onI1 at h
  split at h
  · rename_i i
    unfold RA at r
    obtain ⟨v, w, e, r1, r2⟩ := r
    unfold R at r1
    unfold RA at r2
    subst r1 r2
    exact ⟨i, e, h⟩
  · exact h.elim
theorem onI2_of {K : PySem.W.Frag} {H : Hp} {M : DM} {vs : List V} {ds : List D} {k : Int → Int → Prop} (r : RA K H M vs ds) (h : onI2 ds k) : ∃ i j, vs = [.int i, .int j] ∧ k i j := by
  unfold onI2 at h
  split at h
  · rename_i i j
    obtain ⟨v, w, e, r1, r2⟩ := r.two
    unfold R at r1 r2
    subst r1 r2
    exact ⟨i, j, e, h⟩
  · exact h.elim
def diR1 (dag : DA) : DI := fun ρ M Q Xd => dag ρ M (fun ds M1 => onI1 ds fun j => -(2 ^ 62) ≤ j ∧ j < 2 ^ 62 ∧ Q (rangeD 0 j.toNat) (fun _ => True) M1) Xd
def diR2 (dag : DA) : DI := fun ρ M Q Xd => dag ρ M (fun ds M1 => onI2 ds fun i j => (-(2 ^ 62) ≤ i ∧ i < 2 ^ 62 ∧ -(2 ^ 62) ≤ j ∧ j < 2 ^ 62) ∧ Q (rangeD i (j - i).toNat) (fun _ => True) M1) Xd
theorem di_r1 {a : Expr} {p pos : Pos} (hg : Gl X "range") (hm : X.mg "range" = none) (ha : PA X [a] (uA X.K W dag)) (hs : starEach [a] X.env = [(false, eval a X.env)] := by exact rfl) : PI X tg (.Call (.Name "range" p) [a] [] pos) (uI X.K W (diR1 dag)) :=
  pi_imp (pi_range1 hg hm ha hs) fun σ H Rr ⟨ρ, M, Qd, Xd, en, hr, h, q, x⟩ => ⟨ρ, M, _, Xd, en, hr, h, fun vs H1 ds M1 s1 r1 hr1 h1 => by
    obtain ⟨i, e, h2, h3, h4⟩ := onI1_of r1 h1
    exact ⟨i, e, h2, h3, q H1 M1 _ _ _ s1 hr1 itR h4⟩, x⟩
theorem di_r2 {a b : Expr} {p pos : Pos} (hg : Gl X "range") (hm : X.mg "range" = none) (ha : PA X [a, b] (uA X.K W dag)) (hs : starEach [a, b] X.env = [(false, eval a X.env), (false, eval b X.env)] := by exact rfl) (hs2 : starEach [b] X.env = [(false, eval b X.env)] := by exact rfl) :
    PI X tg (.Call (.Name "range" p) [a, b] [] pos) (uI X.K W (diR2 dag)) :=
  pi_imp (pi_range2 hg hm ha hs hs2) fun σ H Rr ⟨ρ, M, Qd, Xd, en, hr, h, q, x⟩ => ⟨ρ, M, _, Xd, en, hr, h, fun vs H1 ds M1 s1 r1 hr1 h1 => by
    obtain ⟨i, j, e, h2, h3⟩ := onI2_of r1 h1
    exact ⟨i, j, e, h2, q H1 M1 _ _ _ s1 hr1 itR h3⟩, x⟩

/-! ### list comprehensions -/
def wipeD (ρ : DR) : List Nat → DR
  | [] => ρ
  | v :: vs => (wipeD ρ vs).set v none
theorem En.wipe {K : PySem.W.Frag} {H : Hp} {M : DM} {σ : L2.St} {ρ : DR} (e : En K H M σ ρ) : ∀ vs, En K H M (wipe σ vs) (wipeD ρ vs)
  | [] => e
  | v :: vs => by
    unfold L2.wipe wipeD
    exact (En.wipe e vs).clr v
theorem wipe_at {σ : L2.St} : ∀ {vs : List Nat} {i : Nat}, (wipe σ vs)[i]? = if i ∈ vs ∧ i < σ.length then some none else σ[i]?
  | [], i => by simp [L2.wipe]
  | v :: vs, i => by
    unfold L2.wipe
    by_cases hv : v = i
    · subst hv
      by_cases hl : v < σ.length
      · rw [List.getElem?_set_self (by rw [wipe_length]; exact hl), if_pos ⟨by simp, hl⟩]
      · rw [List.getElem?_eq_none (by rw [List.length_set, wipe_length]; omega), if_neg (fun z => hl z.2), List.getElem?_eq_none (by omega)]
    · rw [List.getElem?_set_ne hv, wipe_at]
      have : (i ∈ vs ∧ i < σ.length) ↔ (i ∈ v :: vs ∧ i < σ.length) := by
        rw [List.mem_cons]
        constructor
        · exact fun z => ⟨.inr z.1, z.2⟩
        · rintro ⟨z | z, l⟩
          · exact absurd z.symm hv
          · exact ⟨z, l⟩
      by_cases c : i ∈ vs ∧ i < σ.length
      · rw [if_pos c, if_pos (this.mp c)]
      · rw [if_neg c, if_neg fun z => c (this.mpr z)]
theorem wipe_eq {σ σ' : L2.St} {vs : List Nat} (hl : σ'.length = σ.length) (h : ∀ i, i ∉ vs → σ'[i]? = σ[i]?) : wipe σ' vs = wipe σ vs := by
  apply List.ext_getElem?
  intro i
  rw [wipe_at, wipe_at, hl]
  by_cases c : i ∈ vs ∧ i < σ.length
  · rw [if_pos c, if_pos c]
  · rw [if_neg c, if_neg c]
    by_cases hi : i ∈ vs
    · have : ¬ i < σ.length := fun z => c ⟨hi, z⟩
      rw [List.getElem?_eq_none (by omega), List.getElem?_eq_none (by omega)]
    · exact h i hi
theorem wipe_idem {σ : L2.St} {vs : List Nat} : wipe (wipe σ vs) vs = wipe σ vs := wipe_eq (wipe_length _ _) fun i hi => by
  rw [wipe_at, if_neg fun z => hi z.1]
/-- a target whose names are the block's own -/
structure BG (K : PySem.W.Frag) (vs : List Nat) (g : TG) (bind : D → DR → DM → (DR → Prop) → Prop) : Prop where
  run : ∀ x σ H ρ M d k (Q : L2.St → Hp → Prop), En K H M σ ρ → HR K H M → R K H M x d → bind d ρ M k → (∀ σ2 ρ2, σ2.length = σ.length → (∀ i, i ∉ vs → σ2[i]? = σ[i]?) → En K H M σ2 ρ2 → k ρ2 → Q σ2 H) → g x σ H Q
def bName (j : Nat) : D → DR → DM → (DR → Prop) → Prop := fun d ρ _ k => k (ρ.set j (some d))
theorem bg_name {K : PySem.W.Frag} {vs : List Nat} {j : Nat} (h : vs.contains j = true) : BG K vs (gName j) (bName j) := ⟨fun x σ H ρ M d k Q en hr r hb hq => by
  refine hq _ _ (List.length_set) (fun i hi => List.getElem?_set_ne fun z => hi ?_) (en.set j r) hb
  rw [← z]
  simpa using h⟩
def bNames : List Nat → List D → DR → (DR → Prop) → Prop
  | [], [], ρ, k => k ρ
  | j :: js, d :: ds, ρ, k => bNames js ds (ρ.set j (some d)) k
  | _, _, _, _ => False
def bSeq (js : List Nat) : D → DR → DM → (DR → Prop) → Prop := fun d ρ M k => onSeq M d fun ds => bNames js ds ρ k
def gNames : List Nat → TGs
  | [] => gNil
  | j :: js => gCons (gName j) (gNames js)
theorem bNames_len : ∀ {js : List Nat} {ds : List D} {ρ : DR} {k : DR → Prop}, bNames js ds ρ k → ds.length = js.length
  | [], [], _, _, _ => rfl
  | j :: js, d :: ds, ρ, k, h => by
    rw [List.length_cons, List.length_cons, bNames_len (js := js) h]
theorem gNames_ok {K : PySem.W.Frag} {vs : List Nat} {H : Hp} {M : DM} {k : DR → Prop} {Q : L2.St → Hp → Prop} : ∀ {js : List Nat} {ds : List D} {xs : List V} {σ : L2.St} {ρ : DR}, (∀ j ∈ js, j ∈ vs) → En K H M σ ρ → RA K H M xs ds → bNames js ds ρ k →
    (∀ σ2 ρ2, σ2.length = σ.length → (∀ i, i ∉ vs → σ2[i]? = σ[i]?) → En K H M σ2 ρ2 → k ρ2 → Q σ2 H) → gNames js xs σ H Q
  | [], [], xs, σ, ρ, _, en, r, hb, hq => by
    unfold RA at r
    exact ⟨r, hq σ ρ rfl (fun _ _ => rfl) en hb⟩
  | j :: js, d :: ds, xs, σ, ρ, hj, en, r, hb, hq => by
    unfold RA at r
    obtain ⟨v, xr, e, r1, r2⟩ := r
    refine ⟨v, xr, e, ?_⟩
    refine gNames_ok (fun i hi => hj i (List.mem_cons_of_mem _ hi)) (en.set j r1) r2 hb fun σ2 ρ2 hl ho en2 hk => hq σ2 ρ2 (hl.trans List.length_set) (fun i hi => (ho i hi).trans (List.getElem?_set_ne fun z => hi (by rw [← z]; exact hj j List.mem_cons_self))) en2 hk
theorem bg_seq {K : PySem.W.Frag} {vs js : List Nat} {n : Nat} (h : js.all (fun j => vs.contains j) = true) (hn : js.length = n) : BG K vs (fun v σ H Q => gTup K n (gNames js) v σ H Q ∨ gUnl K n (gNames js) v σ H Q) (bSeq js) := ⟨fun x σ H ρ M d k Q en hr r hb hq => by
  obtain ⟨a, xs, ds, e, sq, ra, hb⟩ := onSeq_of hr r hb
  have hj : ∀ j ∈ js, j ∈ vs := fun j hj => by simpa using List.all_eq_true.mp h j hj
  have q := gNames_ok (Q := Q) hj en ra hb hq
  have hl : xs.length = n := by rw [ra.len, bNames_len hb]; exact hn
  rcases sq with sq | sq
  · exact .inr ⟨a, xs, e, sq, hl, q⟩
  · exact .inl ⟨a, xs, e, sq, hl, q⟩⟩
def X0 : DX := fun _ _ => False
abbrev W0 : WX := fun _ _ _ _ => False
def dCL (bind : D → DR → DM → (DR → Prop) → Prop) (t : DT) (de : DE) (chk : DM → Prop) (ρw : DR) : List D → List D → DM → DK → Prop
  | [], acc, M, Q => chk M ∧ Q (.lst acc) M
  | d :: ds, acc, M, Q => chk M ∧ bind d ρw M fun ρ1 => t ρ1 M (fun b M2 => if b = true then de ρ1 M2 (fun y M3 => noL y = true ∧ dCL bind t de chk ρw ds (acc ++ [y]) M3 Q) X0 else dCL bind t de chk ρw ds acc M2 Q) X0
def dComp (di : DI) (bind : D → DR → DM → (DR → Prop) → Prop) (t : DT) (de : DE) (vs : List Nat) : DE := fun ρ M Q Xd => di ρ M (fun ds chk M1 => ds.length ≤ sizeLine ∧ dCL bind t de chk (wipeD ρ vs) ds [] M1 Q) Xd
theorem dCL_chk {bind : D → DR → DM → (DR → Prop) → Prop} {t : DT} {de : DE} {chk : DM → Prop} {ρw : DR} {ds acc : List D} {M : DM} {Q : DK} (h : dCL bind t de chk ρw ds acc M Q) : chk M := by
  cases ds with
  | nil => exact h.1
  | cons d ds => exact h.1
theorem comp_in {bind : D → DR → DM → (DR → Prop) → Prop} {t : DT} {de : DE} {vs : List Nat} {di : DI} {g : TG} (hb : BG X.K vs g bind) (σ : L2.St) (H : Hp) (Q : VK) : uE X.K W (dComp di bind t de vs) σ H Q → tLc (uI X.K W di) g (uT X.K W0 t) (uE X.K W0 de) vs σ H Q := by
  rintro ⟨ρ, M, Qd, Xd, en, hr, h, q, x⟩
  refine ⟨ρ, M, _, Xd, en, hr, h, fun H1 M1 ds chk J s1 hr1 ok ⟨hz, h1⟩ => ?_, x⟩
  intro L hL
  have hML : M1 L = none := hr1.none hL
  have enw := (en.stp s1).wipe vs
  have s2 := Stp.new (o := .lst []) hL hr1
  refine ⟨fun i m H' => ∃ acc da M', m + i = ds.length ∧ acc.length ≤ i ∧ Stp X.K H1 M1 H' M' ∧ H' L = some (.lst acc) ∧ M' L = none ∧ noLs da = true ∧ RA X.K H' M' acc da ∧ HR X.K H' M' ∧ dCL bind t de chk (wipeD ρ vs) (ds.drop i) da M' Qd, ⟨ds.length, [], [], M1, rfl, Nat.le_refl _, s2.1, upd_same, hML, noLs_nil, RA.nil, s2.2, h1⟩, ?_⟩
  rintro i m H' ⟨acc, da, M', em, hlen, s', hL', hM', nl, ra, hr', h'⟩
  obtain ⟨stop, go⟩ := ok i H' M' s' hr' (dCL_chk h')
  cases m with
  | zero =>
    refine .inl ⟨stop (by omega), ?_⟩
    rw [List.drop_of_length_le (by omega)] at h'
    refine q (.ref L) H' (.lst da) M' (s1.trans s') ?_ hr' h'.2
    unfold R
    exact ⟨L, acc, rfl, hL', hM', ra⟩
  | succ m =>
    have lt : i < ds.length := by omega
    have hd := List.getElem?_eq_getElem lt
    obtain ⟨g1, g2⟩ := go _ hd
    rw [drop_of hd] at h'
    refine .inr ⟨g1, fun H4 => ∃ acc da M4, acc.length ≤ i + 1 ∧ Stp X.K H1 M1 H4 M4 ∧ H4 L = some (.lst acc) ∧ M4 L = none ∧ noLs da = true ∧ RA X.K H4 M4 acc da ∧ HR X.K H4 M4 ∧ dCL bind t de chk (wipeD ρ vs) (ds.drop (i + 1)) da M4 Qd,
      fun H4 ⟨acc, da, M4, a1, a2, a3, a4, a5, a6, a7, a8⟩ => ⟨m, Nat.lt_succ_self m, acc, da, M4, by omega, a1, a2, a3, a4, a5, a6, a7, a8⟩, fun y H2 hy => ?_⟩
    obtain ⟨s3, hr3, ry⟩ := g2 y H2 hy
    have s4 := s'.trans s3
    refine hb.run y _ H2 _ M' _ _ _ (enw.stp s4) hr3 ry h'.2 fun σ2 ρ2 hl ho en2 hk => ⟨?_, ?_⟩
    · exact (wipe_eq hl ho).trans wipe_idem
    · refine ⟨ρ2, M', _, X0, en2, hr3, hk, fun b H5 M5 s5 hr5 h5 => ?_, fun _ _ _ _ _ _ _ _ z => z⟩
      have hL5 := (s3.trans s5).l L acc hL' hM'
      cases b with
      | false => exact ⟨acc, da, M5, by omega, s4.trans s5, hL5.1, hL5.2, nl, ra.stp (s3.trans s5), hr5, h5⟩
      | true =>
        refine ⟨ρ2, M5, _, X0, en2.stp s5, hr5, h5, fun v H6 dv M6 s6 rv hr6 ⟨nv, h6⟩ => ?_, fun _ _ _ _ _ _ _ _ z => z⟩
        have s7 := (s3.trans s5).trans s6
        have hL6 := s7.l L acc hL' hM'
        have tt : ∀ a xs, SqT X.K H6 a xs → SqT X.K (upd H6 L (.lst (acc ++ [v]))) a xs := sqT_upd fun xs z => by
          rcases z with z | ⟨o, z⟩ <;> (rw [hL6.1] at z; cases z)
        have s8 : Stp X.K H1 M1 H6 M6 := s'.trans s7
        have ne : ∀ {a o}, H1 a = some o → a ≠ L := fun ha => ne_of_none ha hL
        refine ⟨acc, hL6.1, Nat.lt_of_le_of_lt hlen (Nat.lt_of_lt_of_le lt hz), acc ++ [v], da ++ [dv], M6, by rw [List.length_append]; simp; omega, ⟨fun a xs z => tt a xs (s8.t a xs z), fun a xs z0 z z2 => ?_, fun a fs z => ?_, fun a o u z => ?_⟩, upd_same, hL6.2, ?_, ?_, fun a o z => ?_, h6⟩
        · have z3 := s8.g a xs z0 z z2
          exact ⟨by rw [upd_ne (ne z)]; exact z3.1, z3.2⟩
        · rw [upd_ne (ne z)]
          exact s8.x a fs z
        · rw [upd_ne (ne z)]
          exact s8.f a o u z
        · rw [noLs_app, nl, noLs_cons, nv, noLs_nil] <;> rfl
        · exact ((ra.stp s7).flat tt nl).snoc (rv.flat tt nv)
        · refine (hr6 a o z).flat tt (upd_ne fun z2 => ?_)
          rw [z2, hL6.2] at z
          cases z
/-- one test, or none -/
def dYes : DT := fun _ M Q _ => Q true M
theorem dt_nil {Xb : Cx} : PTs Xb [] (uT Xb.K W0 dYes) := ⟨fun pins s σ H Q I ⟨ρ, M, Qd, Xd, en, hr, h, q, x⟩ => pts_nil.run pins s σ H Q I (q true H M .refl hr h)⟩
variable {elt iter : Expr} {ifs : List Expr} {scope : Scope} {own : List (Str × Nat)} {bind : D → DR → DM → (DR → Prop) → Prop} {t : DT} {di : DI} {g : TG} {vs : List Nat}
theorem dd_lc (hc : X.calm = true) (hN : X.N.Nodup) (hi : PI X tg iter (uI X.K W di)) (ok : BlkOk X.N X.env.scope scope own) (hv : own.map (·.2) = vs) (hb : BG X.K vs g bind)
    (hg : ∀ (s : Shared) (H : Hp) (C : Addr) (cl : List (Str × Addr)) (fp : List Addr), PG (X.blk s H scope (compEnvC scope cl C X.env) fp) tg g) (ht : ∀ (s : Shared) (H : Hp) (C : Addr) (cl : List (Str × Addr)) (fp : List Addr), PTs (X.blk s H scope (compEnvC scope cl C X.env) fp) ifs (uT X.K W0 t))
    (he : ∀ (s : Shared) (H : Hp) (C : Addr) (cl : List (Str × Addr)) (fp : List Addr), PE (X.blk s H scope (compEnvC scope cl C X.env) fp) elt (uE X.K W0 de)) (hs : ∀ x, foldedSetIterable iter X.env x = pure x := by intro _; exact rfl) :
    PE X (.ListComp elt [⟨tg, iter, ifs, 0⟩] scope pos) (uE X.K W (dComp di bind t de vs)) := by
  subst hv
  exact pe_imp (pe_lc hc hN hi ok hg ht he hs) (comp_in hb)
theorem dz_setLc {i : Nat} {y : Str} {py pos spos : Pos} (hc : X.calm = true) (hN : X.N.Nodup) (hy : X.N[i]? = some y) (hyl : X.env.scope.names.lookup y = some .local)
    (hsw : swapsWith (.ListComp elt [⟨tg, iter, ifs, 0⟩] scope pos) (some (.Name y py)) spos.line X.env = pure true) (hi : PI X tg iter (uI X.K W di)) (ok : BlkOk X.N X.env.scope scope own) (hv : own.map (·.2) = vs) (hb : BG X.K vs g bind)
    (hg : ∀ (s : Shared) (H : Hp) (C : Addr) (cl : List (Str × Addr)) (fp : List Addr), PG (X.blk s H scope (compEnvC scope cl C X.env) fp) tg g) (ht : ∀ (s : Shared) (H : Hp) (C : Addr) (cl : List (Str × Addr)) (fp : List Addr), PTs (X.blk s H scope (compEnvC scope cl C X.env) fp) ifs (uT X.K W0 t))
    (he : ∀ (s : Shared) (H : Hp) (C : Addr) (cl : List (Str × Addr)) (fp : List Addr), PE (X.blk s H scope (compEnvC scope cl C X.env) fp) elt (uE X.K W0 de)) (hs : ∀ x, foldedSetIterable iter X.env x = pure x := by intro _; exact rfl) :
    PS X (.Assign [.Name y py] (.ListComp elt [⟨tg, iter, ifs, 0⟩] scope pos) spos) (uS X.K W (dSet (dComp di bind t de vs) i)) := by
  subst hv
  exact ps_imp (ps_setLc hc hN hy hyl hsw hi ok hg ht he hs) fun D σ H ⟨ρ, M, N, en, hr, h, l⟩ =>
    comp_in hb σ H _ ⟨ρ, M, _, _, en, hr, h, fun v H1 d M1 s1 r1 hr1 h1 => l.nx _ H1 _ M1 s1 ((en.stp s1).set i r1) hr1 h1, l.ex.at en⟩
end
end DL

set_option Elab.async false
set_option linter.all false
set_option maxRecDepth 100000
set_option maxHeartbeats 4000000
namespace DL
open PySem PySem.Spec L2
section
variable {K : PySem.W.Frag} {H : Hp} {M : DM} {v w : V} {x y : D} {X : Cx} {W : WX}
theorem R.int_v {i : Int} (r : R K H M v (.int i)) : v = .int i := by unfold R at r; exact r
theorem R.str_v {i : Str} (r : R K H M v (.str i)) : v = .str i := by unfold R at r; exact r
theorem R.bl_v {i : Bool} (r : R K H M v (.bl i)) : v = .bl i := by unfold R at r; exact r
theorem R.ref_v {i : Addr} (r : R K H M v (.ref i)) : v = .ref i := by unfold R at r; exact r
theorem R.tup_v {ds : List D} (r : R K H M v (.tup ds)) : ∃ a xs, v = .ref a ∧ SqT K H a xs ∧ RA K H M xs ds := by unfold R at r; exact r
theorem R.lst_v {ds : List D} (r : R K H M v (.lst ds)) : ∃ a xs, v = .ref a ∧ H a = some (.lst xs) ∧ M a = none ∧ RA K H M xs ds := by unfold R at r; exact r
theorem R.seq_v {ds : List D} (r : R K H M v (.seq ds)) : ∃ a xs, v = .ref a ∧ SqL K H a xs ∧ RA K H M xs ds := by
  unfold R at r
  obtain ⟨a, xs, e, t, q⟩ := r
  exact ⟨a, xs, e, t.elim (fun ⟨o, z⟩ => .inl (.inr ⟨o, z⟩)) fun z => z H, q⟩
theorem R.tupI {a : Addr} {xs : List V} {ds : List D} (h : SqT K H a xs) (r : RA K H M xs ds) : R K H M (.ref a) (.tup ds) := by unfold R; exact ⟨a, xs, rfl, h, r⟩

/-! ### ints -/
def iF (C : Int → Int → Prop) (g : Int → Int → D) : F2 := fun x y M Q => match x, y with
  | .int i, .int j => C i j ∧ Q (g i j) M
  | _, _ => False
theorem ov_int {C : Int → Int → Prop} {g : Int → Int → V} {gd : Int → Int → D} (h : ∀ i j H M, R K H M (g i j) (gd i j)) : OpV K (rI C g) (iF C gd) := by
  intro H M v w x y Q Qd hr rx ry h1 q
  unfold iF at h1
  split at h1
  · exact ⟨_, _, rx.int_v, ry.int_v, h1.1, q _ H _ M .refl (h _ _ _ _) hr h1.2⟩
  · exact h1.elim
def CT : Int → Int → Prop := fun _ _ => True
theorem ov_int0 {g : Int → Int → V} {gd : Int → Int → D} (h : ∀ i j H M, R K H M (g i j) (gd i j)) : OpV K (rI0 g) (iF CT gd) := by
  intro H M v w x y Q Qd hr rx ry h1 q
  unfold iF at h1
  split at h1
  · exact ⟨_, _, rx.int_v, ry.int_v, q _ H _ M .refl (h _ _ _ _) hr h1.2⟩
  · exact h1.elim
abbrev subF : F2 := iF CT fun i j => .int (i - j)
abbrev fdivF : F2 := iF CDivW fun i j => .int (i / j)
abbrev modF : F2 := iF (fun _ j => 0 < j) fun i j => .int (i % j)
abbrev powF : F2 := iF CPow fun i j => .int (i ^ j.toNat)
abbrev ltF : F2 := iF CT fun i j => .bl (decide (i < j))
abbrev leF : F2 := iF CT fun i j => .bl (decide (i ≤ j))
abbrev gtF : F2 := iF CT fun i j => .bl (decide (j < i))
abbrev geF : F2 := iF CT fun i j => .bl (decide (j ≤ i))
theorem ov_sub : OpV K (rI0 fun i j => .int (i - j)) subF := ov_int0 fun _ _ _ _ => R.intI
theorem ov_fdiv : OpV K (rI CDivW fun i j => .int (i / j)) fdivF := ov_int fun _ _ _ _ => R.intI
theorem ov_mod : OpV K (rI (fun _ j => 0 < j) fun i j => .int (i % j)) modF := ov_int fun _ _ _ _ => R.intI
theorem ov_pow : OpV K (rI CPow fun i j => .int (i ^ j.toNat)) powF := ov_int fun _ _ _ _ => R.intI
theorem ov_lt : OpV K (rI0 fun i j => .bl (decide (i < j))) ltF := ov_int0 fun _ _ _ _ => R.blI
theorem ov_le : OpV K (rI0 fun i j => .bl (decide (i ≤ j))) leF := ov_int0 fun _ _ _ _ => R.blI
theorem ov_gt : OpV K (rI0 fun i j => .bl (decide (j < i))) gtF := ov_int0 fun _ _ _ _ => R.blI
theorem ov_ge : OpV K (rI0 fun i j => .bl (decide (j ≤ i))) geF := ov_int0 fun _ _ _ _ => R.blI
def negF : D → DM → DK → Prop := fun x M Q => match x with
  | .int i => Q (.int (-i)) M
  | _ => False
theorem uv_neg : UnV K (rU fun i => .int (-i)) negF := by
  intro H M v x Q Qd hr rx h1 q
  unfold negF at h1
  split at h1
  · exact ⟨_, rx.int_v, q _ H _ M .refl R.intI hr h1⟩
  · exact h1.elim

/-! ### + and * of more -/
def lstM (M : DM) (d : D) : Option (List D) := match d with
  | .lst ds => some ds
  | .ref a => match M a with
    | some (.lst ds) => some ds
    | _ => none
  | _ => none
theorem lstM_of {ds : List D} (hr : HR K H M) (r : R K H M v x) (h : lstM M x = some ds) : ∃ a xs, v = .ref a ∧ H a = some (.lst xs) ∧ RA K H M xs ds := by
  unfold lstM at h
  split at h
  · cases h
    obtain ⟨a, xs, e, h1, _, h2⟩ := r.lst_v
    exact ⟨a, xs, e, h1, h2⟩
  · rename_i a
    split at h
    · rename_i es e
      cases h
      obtain ⟨_, xs, h1, h2⟩ := hr a _ e
      exact ⟨a, xs, r.ref_v, h1, h2⟩
    · cases h
  · cases h
def on2 (a b : Option (List D)) (k : List D → List D → Prop) : Prop := match a, b with
  | some x, some y => k x y
  | _, _ => False
def addF : F2 := fun x y M Q => match x, y with
  | .int i, .int j => Q (.int (i + j)) M
  | .str a, .str b => a.length + b.length ≤ sizeLine ∧ Q (.str (a ++ b)) M
  | .tup a, .tup b => a.length + b.length ≤ sizeLine ∧ Q (.tup (a ++ b)) M
  | x, y => on2 (lstM M x) (lstM M y) fun a b => a.length + b.length ≤ sizeLine ∧ Q (.lst (a ++ b)) M
def rAddS : R2 := fun x y H Q => ∃ i j, x = .str i ∧ y = .str j ∧ i.length + j.length ≤ sizeLine ∧ Q (.str (i ++ j)) H
def rAddU (K : PySem.W.Frag) : R2 := fun x y H Q => rI0 (fun i j => .int (i + j)) x y H Q ∨ DL.rAddS x y H Q ∨ rCatA K x y H Q ∨ rCat x y H Q
theorem op_addU : OpR X (binaryOp .Add) (rAddU X.K) := op_add.or (OpR.or (r := DL.rAddS) op_add_str (op_catA.or op_cat))
theorem ov_add : OpV K (rAddU K) addF := by
  intro H M v w x y Q Qd hr rx ry h1 q
  unfold addF at h1
  split at h1
  · exact .inl ⟨_, _, rx.int_v, ry.int_v, q _ H _ M .refl R.intI hr h1⟩
  · exact .inr (.inl ⟨_, _, rx.str_v, ry.str_v, h1.1, q _ H _ M .refl R.strI hr h1.2⟩)
  · obtain ⟨a, xs, e1, h2, h3⟩ := rx.tup_v
    obtain ⟨b, ys, e2, h4, h5⟩ := ry.tup_v
    refine .inr (.inr (.inl ⟨a, b, xs, ys, e1, e2, h2, h4, by rw [h3.len, h5.len]; exact h1.1, fun z => ?_, fun z z2 => ?_, fun z z2 p hp => ?_⟩))
    · have r3 := h3.app h5
      rw [z] at r3
      exact q _ H _ M .refl (R.tupI h4 r3) hr h1.2
    · have r3 := h3.app h5
      rw [z2, List.append_nil] at r3
      exact q _ H _ M .refl (R.tupI h2 r3) hr h1.2
    · obtain ⟨s, r, hr2⟩ := newTup hr hp (h3.app h5)
      exact q _ _ _ M s r hr2 h1.2
  · unfold on2 at h1
    split at h1
    · rename_i e1 e2
      obtain ⟨a, xs, e3, h2, h3⟩ := lstM_of hr rx e1
      obtain ⟨b, ys, e4, h4, h5⟩ := lstM_of hr ry e2
      refine .inr (.inr (.inr ⟨a, b, xs, ys, e3, e4, h2, h4, by rw [h3.len, h5.len]; exact h1.1, fun p hp => ?_⟩))
      obtain ⟨s, r, hr2⟩ := newLst hr hp (h3.app h5)
      exact q _ _ _ M s r hr2 h1.2
    · exact h1.elim
/-- when a product is taken -/
def MulC (i j : Int) : Prop := CMul i j ∨ CMulW i j
def mulF : F2 := fun x y M Q => match x, y with
  | .int i, .int j => MulC i j ∧ Q (.int (i * j)) M
  | x, .int k => on2 (lstM M x) (some []) fun a _ => (-(2 ^ 63) ≤ k ∧ k < 2 ^ 63) ∧ a.length * k.toNat ≤ sizeLine ∧ Q (.lst (List.replicate k.toNat a).flatten) M
  | _, _ => False
theorem op_mulC : OpR X (binaryOp .Mult) (rI MulC fun i j => .int (i * j)) := opI fun _ _ _ _ _ _ _ hc q => PyProof.Rows.mul_int q (hc.elim CMul.ok CMulW.ok)
def rMulU : R2 := fun x y H Q => rI MulC (fun i j => .int (i * j)) x y H Q ∨ rRep x y H Q
theorem op_mulU : OpR X (binaryOp .Mult) rMulU := op_mulC.or op_rep
theorem RA.rep {xs : List V} {ds : List D} (r : RA K H M xs ds) : ∀ n : Nat, RA K H M (List.replicate n xs).flatten (List.replicate n ds).flatten
  | 0 => RA.nil
  | n + 1 => by
    rw [List.replicate_succ, List.replicate_succ, List.flatten_cons, List.flatten_cons]
    exact r.app (RA.rep r n)
theorem ov_mul : OpV K rMulU mulF := by
  intro H M v w x y Q Qd hr rx ry h1 q
  unfold mulF at h1
  split at h1
  · exact .inl ⟨_, _, rx.int_v, ry.int_v, h1.1, q _ H _ M .refl R.intI hr h1.2⟩
  · unfold on2 at h1
    split at h1
    · rename_i e1 e2
      obtain ⟨a, xs, e3, h2, h3⟩ := lstM_of hr rx e1
      refine .inr ⟨a, _, xs, e3, ry.int_v, h2, h1.1.1, h1.1.2, by rw [h3.len]; exact h1.2.1, fun p hp => ?_⟩
      obtain ⟨s, r, hr2⟩ := newLst hr hp (h3.rep _)
      exact q _ _ _ M s r hr2 h1.2.2
    · exact h1.elim
  · exact h1.elim

/-! ### == of data -/
mutual
def pyOf : D → Option PyData
  | .non => some .none
  | .bl b => some (.bool b)
  | .int i => some (.int i)
  | .str x => some (.str x)
  | .tup ds => (pyOfs ds).map .tuple
  | .lst ds => (pyOfs ds).map .list
  | .seq ds => (pyOfs ds).map .list
  | _ => none
def pyOfs : List D → Option (List PyData)
  | [] => some []
  | d :: ds => match pyOf d, pyOfs ds with
    | some p, some ps => some (p :: ps)
    | _, _ => none
end
mutual
theorem dp_of : ∀ {d : D} {v : V} {p : PyData}, R K H M v d → pyOf d = some p → Dp K H v p
  | .non, v, p, r, h => by
    unfold R at r
    unfold pyOf at h
    cases h
    subst r
    exact .non
  | .bl b, v, p, r, h => by
    unfold pyOf at h
    cases h
    rw [r.bl_v]
    exact .bl b
  | .int b, v, p, r, h => by
    unfold pyOf at h
    cases h
    rw [r.int_v]
    exact .int b
  | .str b, v, p, r, h => by
    unfold pyOf at h
    cases h
    rw [r.str_v]
    exact .str b
  | .tup ds, v, p, r, h => by
    unfold pyOf at h
    obtain ⟨a, xs, e, h1, h2⟩ := r.tup_v
    rw [e]
    cases q : pyOfs ds with
    | none => rw [q] at h; cases h
    | some ps =>
      rw [q] at h
      cases h
      exact .tup h1 (dps_of h2 q)
  | .lst ds, v, p, r, h => by
    unfold pyOf at h
    obtain ⟨a, xs, e, h1, _, h2⟩ := r.lst_v
    rw [e]
    cases q : pyOfs ds with
    | none => rw [q] at h; cases h
    | some ps =>
      rw [q] at h
      cases h
      exact .lst (SqL.of h1) (dps_of h2 q)
  | .seq ds, v, p, r, h => by
    unfold pyOf at h
    obtain ⟨a, xs, e, h1, h2⟩ := r.seq_v
    rw [e]
    cases q : pyOfs ds with
    | none => rw [q] at h; cases h
    | some ps =>
      rw [q] at h
      cases h
      exact .lst h1 (dps_of h2 q)
  | .ref a, v, p, r, h => by
    unfold pyOf at h
    cases h
  | .ty n, v, p, r, h => by
    unfold pyOf at h
    cases h
  | .exc .., v, p, r, h => by
    unfold pyOf at h
    cases h
  | .dct .., v, p, r, h => by
    unfold pyOf at h
    cases h
theorem dps_of : ∀ {ds : List D} {vs : List V} {ps : List PyData}, RA K H M vs ds → pyOfs ds = some ps → DpAll K H vs ps
  | [], vs, ps, r, h => by
    unfold RA at r
    unfold pyOfs at h
    cases h
    subst r
    exact .nil
  | d :: ds, vs, ps, r, h => by
    unfold RA at r
    obtain ⟨x, xs, e, h1, h2⟩ := r
    subst e
    unfold pyOfs at h
    cases q : pyOf d with
    | none => simp [q] at h
    | some p =>
      cases q2 : pyOfs ds with
      | none => simp [q, q2] at h
      | some pr =>
        simp only [q, q2] at h
        cases h
        exact .cons (dp_of h1 q) (dps_of h2 q2)
end
def pyM (M : DM) (d : D) : Option PyData := match d with
  | .ref a => match M a with
    | some (.lst ds) => (pyOfs ds).map .list
    | _ => none
  | d => pyOf d
theorem pyM_of {p : PyData} (hr : HR K H M) (r : R K H M v x) (h : pyM M x = some p) : Dp K H v p := by
  unfold pyM at h
  split at h
  · rename_i a
    have e := r.ref_v
    split at h
    · rename_i ds e1
      obtain ⟨_, xs, h1, h2⟩ := hr a _ e1
      cases q : pyOfs ds with
      | none => rw [q] at h; cases h
      | some ps =>
        rw [q] at h
        cases h
        rw [e]
        exact .lst (SqL.of h1) (dps_of h2 q)
    · cases h
  · exact dp_of r h
def onP (a b : Option PyData) (k : PyData → PyData → Prop) : Prop := match a, b with
  | some x, some y => k x y
  | _, _ => False
/-- what == gives -/
def cmpF (f : Bool → Bool) : F2 := fun x y M Q => match x, y with
  | .int i, .int j => Q (.bl (f (decide (i = j)))) M
  | .str i, .str j => Q (.bl (f (decide (i = j)))) M
  | x, y => onP (pyM M x) (pyM M y) fun a b => SeqAt.shaped a = true ∧ SeqAt.shaped b = true ∧ Q (.bl (f (PyData.eqv a b))) M
abbrev eqF : F2 := cmpF id
abbrev neF : F2 := cmpF not
def rEqU (K : PySem.W.Frag) : R2 := fun x y H Q => rEq x y H Q ∨ rEqD K x y H Q
def rNeU (K : PySem.W.Frag) : R2 := fun x y H Q => rNe x y H Q ∨ rNeD K x y H Q
theorem op_eqU (hu : X.A.units + 64 < cLine) : OpR X (compareOp .Eq) (rEqU X.K) := op_eq.or (op_eqD hu)
theorem op_neU (hu : X.A.units + 64 < cLine) : OpR X (compareOp .NotEq) (rNeU X.K) := op_ne.or (op_neD hu)
theorem ov_eq : OpV K (rEqU K) eqF := by
  intro H M v w x y Q Qd hr rx ry h1 q
  unfold eqF cmpF at h1
  split at h1
  · rename_i i j
    rw [rx.int_v, ry.int_v]
    refine .inl ⟨rfl, ?_⟩
    rw [show decide (V.int i = V.int j) = decide (i = j) by simp]
    exact q _ H _ M .refl R.blI hr h1
  · rename_i i j
    rw [rx.str_v, ry.str_v]
    refine .inl ⟨rfl, ?_⟩
    rw [show decide (V.str i = V.str j) = decide (i = j) by simp]
    exact q _ H _ M .refl R.blI hr h1
  · unfold onP at h1
    split at h1
    · rename_i e1 e2
      exact .inr ⟨_, _, pyM_of hr rx e1, pyM_of hr ry e2, h1.1, h1.2.1, q _ H _ M .refl R.blI hr h1.2.2⟩
    · exact h1.elim
theorem ov_ne : OpV K (rNeU K) neF := by
  intro H M v w x y Q Qd hr rx ry h1 q
  unfold neF cmpF at h1
  split at h1
  · rename_i i j
    rw [rx.int_v, ry.int_v]
    refine .inl ⟨rfl, ?_⟩
    rw [show decide (V.int i = V.int j) = decide (i = j) by simp]
    exact q _ H _ M .refl R.blI hr h1
  · rename_i i j
    rw [rx.str_v, ry.str_v]
    refine .inl ⟨rfl, ?_⟩
    rw [show decide (V.str i = V.str j) = decide (i = j) by simp]
    exact q _ H _ M .refl R.blI hr h1
  · unfold onP at h1
    split at h1
    · rename_i e1 e2
      exact .inr ⟨_, _, pyM_of hr rx e1, pyM_of hr ry e2, h1.1, h1.2.1, q _ H _ M .refl R.blI hr h1.2.2⟩
    · exact h1.elim

/-! ### items, slices -/
def onO {α : Type} (o : Option α) (k : α → Prop) : Prop := match o with
  | some a => k a
  | none => False
theorem onO_of {α : Type} {o : Option α} {k : α → Prop} (h : onO o k) : ∃ a, o = some a ∧ k a := by
  cases o with
  | none => exact h.elim
  | some a => exact ⟨a, rfl, h⟩
def ixF : F2 := fun x y M Q => match x, y with
  | .str z, .int i => z.length ≤ sizeLine ∧ onO (atI z.cps.toList i) fun c => Q (.str ⟨#[c]⟩) M
  | x, .int i => onSeq M x fun ds => onO (atI ds i) fun d => Q d M
  | _, _ => False
theorem RA.at {xs : List V} {ds : List D} {i : Int} {d : D} (r : RA K H M xs ds) (h : atI ds i = some d) : ∃ x, atI xs i = some x ∧ R K H M x d := by
  unfold atI at *
  rw [r.len]
  cases q : ixN ds.length i with
  | none => rw [q] at h; cases h
  | some j =>
    rw [q] at h
    exact r.get h
theorem ov_ix : OpV K (rIx K) ixF := by
  intro H M v w x y Q Qd hr rx ry h1 q
  unfold ixF at h1
  split at h1
  · obtain ⟨c, hc, h2⟩ := onO_of h1.2
    exact .inr (.inr ⟨_, _, c, rx.str_v, ry.int_v, h1.1, hc, q _ H _ M .refl R.strI hr h2⟩)
  · obtain ⟨a, xs, ds, e, sq, ra, h2⟩ := onSeq_of hr rx h1
    obtain ⟨d, hd, h3⟩ := onO_of h2
    obtain ⟨z, hz, rz⟩ := ra.at hd
    rcases sq with sq | sq
    · exact .inl ⟨a, xs, _, z, e, ry.int_v, sq, hz, q _ H _ M .refl rz hr h3⟩
    · exact .inr (.inl ⟨a, xs, _, z, e, ry.int_v, sq, hz, q _ H _ M .refl rz hr h3⟩)
  · exact h1.elim
abbrev DO := DR → DM → (Option Int → DM → Prop) → DX → Prop
def uO (K : PySem.W.Frag) (W : WX) (d : DO) : TO := fun σ H Q => ∃ ρ M Qd Xd, En K H M σ ρ ∧ HR K H M ∧ d ρ M Qd Xd ∧ (∀ o H' M', Stp K H M H' M' → HR K H' M' → Qd o M' → Q o H') ∧ LdX K H M Xd fun c od H' => W c od σ H'
theorem po_imp {e : Option Expr} {t t' : TO} (h : PO X e t) (i : ∀ σ H Q, t' σ H Q → t σ H Q) : PO X e t' := ⟨fun pins s σ H Q I q => h.run pins s σ H Q I (i σ H Q q)⟩
def doNo : DO := fun _ M Q _ => Q none M
def onI (d : D) (k : Int → Prop) : Prop := match d with
  | .int i => k i
  | _ => False
theorem onI_of {k : Int → Prop} (r : R K H M v x) (h : onI x k) : ∃ i, v = .int i ∧ k i := by
  unfold onI at h
  split at h
  · exact ⟨_, r.int_v, h⟩
  · exact h.elim
def doAt (de : DE) : DO := fun ρ M Q Xd => de ρ M (fun d M1 => onI d fun i => Q (some i) M1) Xd
theorem do_no : PO X none (uO X.K W doNo) := po_imp po_none fun σ H Q ⟨ρ, M, Qd, Xd, en, hr, h, q, x⟩ => q none H M .refl hr h
theorem do_at {e : Expr} {de : DE} (he : PE X e (uE X.K W de)) : PO X (some e) (uO X.K W (doAt de)) := po_imp (po_some he) fun σ H Q ⟨ρ, M, Qd, Xd, en, hr, h, q, x⟩ => ⟨ρ, M, _, Xd, en, hr, h, fun v H1 d M1 s1 r1 hr1 h1 => by
  obtain ⟨i, e, h2⟩ := onI_of r1 h1
  exact ⟨i, e, q _ H1 M1 s1 hr1 h2⟩, x⟩
/-- a list, read -/
def lstV (M : DM) (d : D) : Option (List D) := match d with
  | .lst ds => some ds
  | .seq ds => some ds
  | .ref a => match M a with
    | some (.lst ds) => some ds
    | _ => none
  | _ => none
theorem lstV_of {ds : List D} (hr : HR K H M) (r : R K H M v x) (h : lstV M x = some ds) : ∃ a xs, v = .ref a ∧ SqL K H a xs ∧ RA K H M xs ds := by
  unfold lstV at h
  split at h
  · cases h
    obtain ⟨a, xs, e, h1, _, h2⟩ := r.lst_v
    exact ⟨a, xs, e, SqL.of h1, h2⟩
  · cases h
    exact r.seq_v
  · rename_i a
    split at h
    · rename_i es e
      cases h
      obtain ⟨_, xs, h1, h2⟩ := hr a _ e
      exact ⟨a, xs, r.ref_v, SqL.of h1, h2⟩
    · cases h
  · cases h
def cutD (ds : List D) (lo hi : Option Int) : List D := (ds.drop (HT.sIx ds.length 0 lo)).take (HT.sIx ds.length ds.length hi - HT.sIx ds.length 0 lo)
theorem RA.cut {xs : List V} {ds : List D} (r : RA K H M xs ds) (lo hi : Option Int) : RA K H M (cutV xs lo hi) (cutD ds lo hi) := by
  unfold cutV cutD
  rw [r.len]
  exact (r.drop _).take _
def slF (x : D) (lo hi : Option Int) (M : DM) (Q : DK) : Prop := match x with
  | .str z => z.length ≤ sizeLine ∧ Q (.str (cutS z lo hi)) M
  | .tup ds => Q (.tup (cutD ds lo hi)) M
  | x => onO (lstV M x) fun ds => Q (.lst (cutD ds lo hi)) M
def dSl (de : DE) (dl dh : DO) : DE := fun ρ M Q Xd => de ρ M (fun x M1 => dl ρ M1 (fun l M2 => dh ρ M2 (fun h M3 => slF x l h M3 Q) Xd) Xd) Xd
def rSlU (K : PySem.W.Frag) : V → Option Int → Option Int → Hp → VK → Prop := fun x lo hi H Q => rSlS x lo hi H Q ∨ rSlA K x lo hi H Q ∨ rSlL K x lo hi H Q
theorem sl_U : SlR X (rSlU X.K) := sl_str.or (sl_tupA.or sl_list)
theorem dd_sl {e : Expr} {lo hi : Option Expr} {p2 pos : Pos} {de : DE} {dl dh : DO} (he : PE X e (uE X.K W de)) (hl : PO X lo (uO X.K W dl)) (hh : PO X hi (uO X.K W dh)) : PE X (.Subscript e (.Slice lo hi none p2) pos) (uE X.K W (dSl de dl dh)) :=
  pe_imp (pe_slice sl_U he hl hh) fun σ H Q ⟨ρ, M, Qd, Xd, en, hr, h, q, x⟩ => by
    refine ⟨ρ, M, _, Xd, en, hr, h, fun v H1 d M1 s1 r1 hr1 h1 => ?_, x⟩
    refine ⟨ρ, M1, _, Xd, en.stp s1, hr1, h1, fun l H2 M2 s2 hr2 h2 => ?_, x.stp s1⟩
    refine ⟨ρ, M2, _, Xd, en.stp (s1.trans s2), hr2, h2, fun u H3 M3 s3 hr3 h3 => ?_, x.stp (s1.trans s2)⟩
    have s := (s1.trans s2).trans s3
    have r3 := (r1.stp s2).stp s3
    unfold slF at h3
    split at h3
    · exact .inl ⟨_, r3.str_v, h3.1, q _ H3 _ M3 s R.strI hr3 h3.2⟩
    · obtain ⟨a, xs, e, h4, h5⟩ := r3.tup_v
      refine .inr (.inl ⟨a, xs, e, h4, fun z => ?_, fun _ p hp => ?_⟩)
      · have r6 := h5.cut l u
        unfold cutV at r6
        rw [z.1, z.2, List.drop_zero, Nat.sub_zero, List.take_length] at r6
        exact q _ H3 _ M3 s (R.tupI h4 r6) hr3 h3
      · obtain ⟨s4, r4, hr4⟩ := newTup hr3 hp (h5.cut l u)
        exact q _ _ _ M3 (s.trans s4) r4 hr4 h3
    · obtain ⟨ds, e1, h4⟩ := onO_of h3
      obtain ⟨a, xs, e, sq, ra⟩ := lstV_of hr3 r3 e1
      refine .inr (.inr ⟨a, xs, e, sq, fun p hp => ?_⟩)
      obtain ⟨s4, r4, hr4⟩ := newLst hr3 hp (ra.cut l u)
      exact q _ _ _ M3 (s.trans s4) r4 hr4 h4

/-! ### a[i] = v -/
def setF (o i v : D) (M : DM) (Q : DM → Prop) : Prop := match o, i with
  | .ref a, .int k => match M a with
    | some (.lst ds) => noL v = true ∧ onO (ixN ds.length k) fun j => Q (put M a (.lst (ds.set j v)))
    | _ => False
  | _, _ => False
theorem sv_list : SeV K rSetL setF := by
  intro H M o i v x y z Q Qd hr ro ri rv h1 q
  unfold setF at h1
  split at h1
  · rename_i a k
    split at h1
    · rename_i ds e
      obtain ⟨nv, h2⟩ := h1
      obtain ⟨j, hj, h3⟩ := onO_of h2
      obtain ⟨nl, xs, h4, h5⟩ := hr a _ e
      have w := Stp.wr (o' := .lst (xs.set j v)) (u' := .lst (ds.set j z)) e h4 (fun _ z => nomatch z) (fun _ _ z => nomatch z) (fun _ z => nomatch z) hr fun s => ⟨noLs_set nl nv, _, upd_same, (h5.stp s).set j (rv.stp s)⟩
      exact ⟨a, xs, k, j, ro.ref_v, ri.int_v, h4, by rw [h5.len]; exact hj, q _ _ w.1 w.2 h3⟩
    · exact h1.elim
  · exact h1.elim

/-! ### built-in calls -/
def on1 (ds : List D) (k : D → Prop) : Prop := match ds with
  | [d] => k d
  | _ => False
theorem on1_of {vs : List V} {ds : List D} {k : D → Prop} (r : RA K H M vs ds) (h : on1 ds k) : ∃ v d, vs = [v] ∧ R K H M v d ∧ k d := by
  unfold on1 at h
  split at h
  · unfold RA at r
    obtain ⟨v, w, e, r1, r2⟩ := r
    unfold RA at r2
    subst r2
    exact ⟨v, _, e, r1, h⟩
  · exact h.elim
def rLenU (K : PySem.W.Frag) : List V → Hp → VK → Prop := fun xs H Q => (∃ p ys, xs = [.ref p] ∧ (SqL K H p ys ∨ SqT K H p ys) ∧ Q (.int ys.length) H) ∨ ∃ z, xs = [.str z] ∧ z.length ≤ sizeLine ∧ Q (.int z.length) H
theorem call_lenU : CallR X (.builtin "len") (rLenU X.K) := call_len_seq.or call_len_str
def lenF (ds : List D) (M : DM) (Q : DK) : Prop := on1 ds fun d => match d with
  | .str z => z.length ≤ sizeLine ∧ Q (.int z.length) M
  | d => onSeq M d fun es => Q (.int es.length) M
theorem cv_len : CaV K (rLenU K) lenF := by
  intro H M vs ds Q Qd hr ra h1 q
  obtain ⟨v, d, e, r, h2⟩ := on1_of ra h1
  split at h2
  · exact .inr ⟨_, by rw [e, r.str_v], h2.1, q _ H _ M .refl R.intI hr h2.2⟩
  · obtain ⟨a, xs, es, e1, sq, re, h3⟩ := onSeq_of hr r h2
    refine .inl ⟨a, xs, by rw [e, e1], sq, ?_⟩
    rw [re.len]
    exact q _ H _ M .refl R.intI hr h3
def absF (ds : List D) (M : DM) (Q : DK) : Prop := onI1 ds fun i => Q (.int (if i < 0 then -i else i)) M
theorem cv_abs : CaV K (fun xs H Q => ∃ i, xs = [.int i] ∧ Q (.int (if i < 0 then -i else i)) H) absF := by
  intro H M vs ds Q Qd hr ra h1 q
  obtain ⟨i, e, h2⟩ := onI1_of ra h1
  exact ⟨i, e, q _ H _ M .refl R.intI hr h2⟩
def maxF (ds : List D) (M : DM) (Q : DK) : Prop := onI2 ds fun i j => Q (.int (if j > i then j else i)) M
def minF (ds : List D) (M : DM) (Q : DK) : Prop := onI2 ds fun i j => Q (.int (if j < i then j else i)) M
theorem cv_max : CaV K (fun xs H Q => ∃ i j, xs = [.int i, .int j] ∧ Q (.int (if j > i then j else i)) H) maxF := by
  intro H M vs ds Q Qd hr ra h1 q
  obtain ⟨i, j, e, h2⟩ := onI2_of ra h1
  exact ⟨i, j, e, q _ H _ M .refl R.intI hr h2⟩
theorem cv_min : CaV K (fun xs H Q => ∃ i j, xs = [.int i, .int j] ∧ Q (.int (if j < i then j else i)) H) minF := by
  intro H M vs ds Q Qd hr ra h1 q
  obtain ⟨i, j, e, h2⟩ := onI2_of ra h1
  exact ⟨i, j, e, q _ H _ M .refl R.intI hr h2⟩
def tupleF (ds : List D) (M : DM) (Q : DK) : Prop := on1 ds fun d => onSeq M d fun es => Q (.tup es) M
theorem cv_tuple : CaV K (fun xs H Q => ∃ p ys, xs = [.ref p] ∧ ((SqL K H p ys ∧ ∀ l, H l = none → Q (.ref l) (upd H l (.tup ys))) ∨ (SqT K H p ys ∧ Q (.ref p) H))) tupleF := by
  intro H M vs ds Q Qd hr ra h1 q
  obtain ⟨v, d, e, r, h2⟩ := on1_of ra h1
  obtain ⟨a, xs, es, e1, sq, re, h3⟩ := onSeq_of hr r h2
  refine ⟨a, xs, by rw [e, e1], ?_⟩
  rcases sq with sq | sq
  · refine .inl ⟨sq, fun l hl => ?_⟩
    obtain ⟨s, r2, hr2⟩ := newTup hr hl re
    exact q _ _ _ M s r2 hr2 h3
  · exact .inr ⟨sq, q _ H _ M .refl (R.tupI sq re) hr h3⟩
def listF (ds : List D) (M : DM) (Q : DK) : Prop := on1 ds fun d => onSeq M d fun es => Q (.lst es) M
/-- a new list that is to change -/
def listFM (ds : List D) (M : DM) (Q : DK) : Prop := on1 ds fun d => onSeq M d fun es => noLs es = true ∧ ∀ p, M p = none → Q (.ref p) (put M p (.lst es))
theorem cv_list : CaV K (fun xs H Q => ∃ p ys, xs = [.ref p] ∧ (SqL K H p ys ∨ SqT K H p ys) ∧ ∀ l, H l = none → Q (.ref l) (upd H l (.lst ys))) listF := by
  intro H M vs ds Q Qd hr ra h1 q
  obtain ⟨v, d, e, r, h2⟩ := on1_of ra h1
  obtain ⟨a, xs, es, e1, sq, re, h3⟩ := onSeq_of hr r h2
  refine ⟨a, xs, by rw [e, e1], sq, fun l hl => ?_⟩
  obtain ⟨s, r2, hr2⟩ := newLst hr hl re
  exact q _ _ _ M s r2 hr2 h3
theorem cv_listM : CaV K (fun xs H Q => ∃ p ys, xs = [.ref p] ∧ (SqL K H p ys ∨ SqT K H p ys) ∧ ∀ l, H l = none → Q (.ref l) (upd H l (.lst ys))) listFM := by
  intro H M vs ds Q Qd hr ra h1 q
  obtain ⟨v, d, e, r, h2⟩ := on1_of ra h1
  obtain ⟨a, xs, es, e1, sq, re, h3⟩ := onSeq_of hr r h2
  refine ⟨a, xs, by rw [e, e1], sq, fun l hl => ?_⟩
  obtain ⟨s, hr2⟩ := newLstM hr hl re h3.1
  exact q _ _ _ _ s R.refI hr2 (h3.2 l (hr.none hl))
end

/-! ### a def by its body -/
/-- what is given back may be told with less of the data heap, lists that no one else has standing still -/
inductive Fz (M M' : DM) : D → D → Prop
  | same (d : D) : Fz M M' d d
  | fr {a : Addr} {ds : List D} : M a = some (.lst ds) → M' a = none → Fz M M' (.ref a) (.lst ds)
  | fd {a : Addr} {ks : List Key} {ds : List D} : M a = some (.dct ks ds) → M' a = none → Fz M M' (.ref a) (.dct ks ds)
def Sub (M' M : DM) : Prop := ∀ a o, M' a = some o → M a = some o
def rtD (Qd : DK) : DK := fun d M => ∃ d' M', Sub M' M ∧ Fz M M' d d' ∧ Qd d' M'
theorem rtD.of {Qd : DK} {d : D} {M : DM} (h : Qd d M) : rtD Qd d M := ⟨d, M, fun _ _ z => z, .same d, h⟩
theorem Stp.sub {K : PySem.W.Frag} {H H' : Hp} {M M' M2 : DM} (s : Stp K H M H' M') (h : Sub M2 M') : Stp K H M H' M2 :=
  ⟨s.t, fun a xs z0 z z2 => ⟨(s.g a xs z0 z z2).1, by
    cases e : M2 a with
    | none => rfl
    | some o =>
      have e2 := h a o e
      rw [(s.g a xs z0 z z2).2] at e2
      cases e2⟩, s.x, s.f⟩
theorem R.sub {K : PySem.W.Frag} {H : Hp} {M M2 : DM} {v : V} {d : D} (h : Sub M2 M) (r : R K H M v d) : R K H M2 v d := r.stp ((Stp.refl (K := K) (H := H) (M := M)).sub h)
theorem HR.sub {K : PySem.W.Frag} {H : Hp} {M M2 : DM} (h : Sub M2 M) (r : HR K H M) : HR K H M2 := fun a o e => (r a o (h a o e)).stp ((Stp.refl (K := K) (H := H) (M := M)).sub h) rfl
theorem rtD.ld {K : PySem.W.Frag} {H : Hp} {M : DM} {Qd : DK} {Q : VK} (l : LdV K H M Qd Q) : LdV K H M (rtD Qd) Q := by
  rintro v H' d M' s r hr ⟨d', M2, hs, hf, hq⟩
  refine l v H' d' M2 (s.sub hs) ?_ (hr.sub hs) hq
  cases hf with
  | same => exact r.sub hs
  | fr h1 h2 =>
    obtain ⟨_, xs, h3, h4⟩ := hr _ _ h1
    rw [r.ref_v]
    unfold R
    exact ⟨_, xs, rfl, h3, h2, h4.stp ((Stp.refl (K := K) (H := H') (M := M')).sub hs)⟩
  | fd h1 h2 =>
    obtain ⟨_, z, xs, h3, h4⟩ := hr _ _ h1
    rw [r.ref_v]
    unfold R
    exact ⟨_, xs, rfl, h3, h2, z, h4.stp ((Stp.refl (K := K) (H := H') (M := M')).sub hs)⟩
def startD (n : Nat) (ds : List D) : DR := ds.map some ++ List.replicate (n - ds.length) none
theorem en_start {K : PySem.W.Frag} {H : Hp} {M : DM} {N : List Str} {vs : List V} {ds : List D} (hl : ds.length ≤ N.length) (r : RA K H M vs ds) : En K H M (L2.start N vs) (startD N.length ds) := by
  have e := r.len
  refine ⟨?_, fun i d h => ?_⟩
  · unfold L2.start startD
    rw [List.length_append, List.length_append, List.length_map, List.length_map, List.length_replicate, List.length_replicate, e]
  · unfold startD at h
    by_cases hi : i < ds.length
    · rw [List.getElem?_append_left (by rw [List.length_map]; exact hi), List.getElem?_map] at h
      cases q : ds[i]? with
      | none => rw [q] at h; cases h
      | some d' =>
        rw [q] at h
        cases h
        obtain ⟨x, h1, h2⟩ := r.get q
        refine ⟨x, ?_, h2⟩
        unfold L2.start
        rw [List.getElem?_append_left (by rw [List.length_map]; omega), List.getElem?_map, h1]
        rfl
    · rw [List.getElem?_append_right (by rw [List.length_map]; omega)] at h
      by_cases hj : i - (ds.map some).length < N.length - ds.length
      · rw [List.getElem?_replicate_of_lt hj] at h
        cases h
      · rw [List.getElem?_eq_none (by rw [List.length_replicate]; omega)] at h
        cases h
/-- what a body is to reach -/
def endsD (Qd : DK) (Xd : DX) : DN := { nx := fun _ M => rtD Qd .non M, rt := rtD Qd, ex := fun x _ M => Xd x M }
section
variable {P : Program} {w : World} {K : PySem.W.Frag} {mg : Str → Option Value} {base : Heap}
theorem okD {x qual : Str} {st : Stmt} {f : Addr} {fd : FuncData} {N ps : List Str} {k : Nat} {sp : DSp} (F : Fun K x qual st f fd) (S : FnScope N ps (defScope st)) (hps : ps.length ≤ N.length)
    (hbody : ∀ (cdv : Value) (A : Around) (outer : List Env) (s : Shared) (H : Hp) (E : XK), Room k (A.deeper (PyProof.Rows.envOfC qual (defScope st) s.heap.objs.size f cdv)) →
      ∃ ds : DS, PSs (cxOf (L2.CX P w) P w K mg base N qual (defScope st) f cdv A outer s H E) (defBody st) (uS K (fun cls d _ H => E cls d H) ds) ∧ ∀ as M Qd Xd, as.length = ps.length → sp as M Qd Xd → ds (endsD Qd Xd) (startD N.length as) M) :
    FnOk P w K mg base (L2.CX P w) (k + 1) f fd ps (spD K ps.length sp) := by
  refine F.okX S (fun vs H Q E h => ?_) (fun cdv A outer s H vs Q E hr h => ?_)
  · obtain ⟨ds, M, Qd, Xd, hl, ra, _⟩ := h
    exact ra.len.trans hl
  · obtain ⟨as, M, Qd, Xd, hl, ra, hr2, hsp, l, x⟩ := h
    obtain ⟨ds, h1, h2⟩ := hbody cdv A outer s H E hr
    refine ⟨_, h1, startD N.length as, M, endsD Qd Xd, en_start (by omega) ra, hr2, h2 as M Qd Xd hl hsp, ?_⟩
    exact ⟨fun σ' H' ρ' M' s' en' hr' q => rtD.ld l .non H' .non M' s' R.nonI hr' q, rtD.ld l, fun _ _ _ _ _ _ _ z => z.elim, fun _ _ _ _ _ _ _ z => z.elim, fun c od fs σ' H' ρ' M' s' xr en' hr' q => x c od fs H' M' s' xr hr' q⟩
theorem takesD {cdv : Value} {A : Around} {outer : List Env} {s : Shared} {H : Hp} {E : XK} {N : List Str} {qual : Str} {st : Stmt} {f : Addr} : Takes (cxOf (L2.CX P w) P w K mg base N qual (defScope st) f cdv A outer s H E) (fun cls d _ H => E cls d H) := takes_of rfl rfl rfl rfl
end

section
variable {X : Cx} {W : WX} {K : PySem.W.Frag} {H : Hp} {M : DM}
/-- {'a': x, ..}[k], the dict dropped at once -/
def dPairs : List (Str × DE) → DR → DM → (List (Str × D) → DM → Prop) → DX → Prop
  | [], _, M, Q, _ => Q [] M
  | (k, de) :: r, ρ, M, Q, Xd => de ρ M (fun d M1 => dPairs r ρ M1 (fun ps M2 => Q ((k, d) :: ps) M2) Xd) Xd
def upairs (K : PySem.W.Frag) (W : WX) (ps : List (Str × DE)) : List (TE × TE) := ps.map fun p => (uE K W (dC (.str p.1)), uE K W p.2)
inductive KVR (K : PySem.W.Frag) (H : Hp) (M : DM) : List (V × V) → List (Str × D) → Prop
  | nil : KVR K H M [] []
  | cons {v : V} {d : D} {x : Str} {ps : List (V × V)} {kvs : List (Str × D)} : R K H M v d → KVR K H M ps kvs → KVR K H M ((.str x, v) :: ps) ((x, d) :: kvs)
theorem KVR.stp {H' : Hp} {M' : DM} (s : Stp K H M H' M') {ps : List (V × V)} {kvs : List (Str × D)} (r : KVR K H M ps kvs) : KVR K H' M' ps kvs := by
  induction r with
  | nil => exact .nil
  | cons r _ ih => exact .cons (r.stp s) ih
theorem pairs_in : ∀ {ps : List (Str × DE)} {σ : L2.St} {H : Hp} {ρ : DR} {M : DM} {Qd : List (Str × D) → DM → Prop} {Xd : DX} {Q : List (V × V) → Hp → Prop}, En K H M σ ρ → HR K H M → dPairs ps ρ M Qd Xd → LdX K H M Xd (fun c od H' => W c od σ H') →
    (∀ vs H' kvs M', Stp K H M H' M' → HR K H' M' → KVR K H' M' vs kvs → Qd kvs M' → Q vs H') → tPairs (upairs K W ps) σ H Q
  | [], σ, H, ρ, M, Qd, Xd, Q, en, hr, h, x, q => q [] H [] M .refl hr .nil h
  | (k, de) :: r, σ, H, ρ, M, Qd, Xd, Q, en, hr, h, x, q => by
    refine ⟨ρ, M, fun d M1 => M1 = M ∧ d = .str k, X0, en, hr, ⟨rfl, rfl⟩, fun v H1 d M1 s1 r1 hr1 ⟨e1, e2⟩ => ?_, fun _ _ _ _ _ _ _ _ z => z.elim⟩
    subst e1 e2
    have ev := r1.str_v
    subst ev
    refine ⟨ρ, M1, _, Xd, en.stp s1, hr1, h, fun w H2 d2 M2 s2 r2 hr2 h2 => ?_, x.stp s1⟩
    refine pairs_in (ps := r) (en.stp (s1.trans s2)) hr2 h2 (x.stp (s1.trans s2)) fun vs H3 kvs M3 s3 hr3 rk h3 => ?_
    exact q _ H3 _ M3 ((s1.trans s2).trans s3) hr3 (.cons (r2.stp s3) rk) h3
/-- the last of a name's values -/
def lastD : List (Str × D) → Str → Option D
  | [], _ => none
  | (k, d) :: r, x => (lastD r x).or (if k = x then some d else none)
theorem KVR.split {ps : List (V × V)} {kvs : List (Str × D)} (r : KVR K H M ps kvs) : ∃ gs : List (Key × V), ps = gs.map (fun kv => (kV kv.1, kv.2)) ∧ gs.length = kvs.length ∧
    ∀ (acc : List (Key × V)) x d, lastD kvs x = some d → ∃ v, valV (mergeK acc gs) (Sum.inr x) = some v ∧ R K H M v d := by
  induction r with
  | nil => exact ⟨[], rfl, rfl, fun _ x d h => by cases h⟩
  | @cons v d x ps kvs r _ ih =>
    obtain ⟨gs, e, el, f⟩ := ih
    refine ⟨(Sum.inr x, v) :: gs, by rw [List.map_cons, ← e] <;> rfl, by simp [el], fun acc y d' h => ?_⟩
    unfold lastD at h
    show ∃ v', valV (mergeK (putK acc (Sum.inr x) v) gs) (Sum.inr y) = some v' ∧ R K H M v' d'
    cases q : lastD kvs y with
    | some z =>
      rw [q] at h
      cases h
      exact f _ y _ q
    | none =>
      rw [q] at h
      by_cases c : x = y
      · rw [if_pos c] at h
        cases h
        subst c
        have keep : ∀ (gs : List (Key × V)) (kvs : List (Str × D)) (ps : List (V × V)) (acc : List (Key × V)), KVR K H M ps kvs → ps = gs.map (fun kv => (kV kv.1, kv.2)) → lastD kvs x = none → valV (mergeK acc gs) (Sum.inr x) = valV acc (Sum.inr x) := by
          intro gs
          induction gs with
          | nil => intros; rfl
          | cons g gs ih2 =>
            intro kvs ps acc kr pe ln
            cases kr with
            | nil => rw [List.map_cons] at pe; cases pe
            | @cons v2 d2 x2 ps2 kvs2 r2 kr2 =>
              rw [List.map_cons] at pe
              injection pe with p1 p2
              unfold lastD at ln
              have n1 : lastD kvs2 x = none := by
                cases q3 : lastD kvs2 x with
                | none => rfl
                | some z => rw [q3] at ln; cases ln
              have n2 : ¬ x2 = x := fun z => by rw [n1, if_pos z] at ln; cases ln
              show valV (mergeK (putK acc g.1 g.2) gs) (Sum.inr x) = _
              rw [ih2 kvs2 ps2 _ kr2 p2 n1, valV_put, if_neg]
              intro z
              have p3 : V.str x2 = kV g.1 := congrArg Prod.fst p1
              rw [← z] at p3
              exact n2 (V.str.inj p3)
        refine ⟨v, ?_, r⟩
        rw [keep gs kvs ps _ (by assumption) e q, valV_put, if_pos rfl]
      · rw [if_neg c] at h
        cases h
def onS (d : D) (k : Str → Prop) : Prop := match d with
  | .str x => k x
  | _ => False
theorem onS_of {v : V} {d : D} {k : Str → Prop} (r : R K H M v d) (h : onS d k) : ∃ x, v = .str x ∧ k x := by
  unfold onS at h
  split at h
  · exact ⟨_, r.str_v, h⟩
  · exact h.elim
def dDictIx (ps : List (Str × DE)) (dk : DE) : DE := fun ρ M Q Xd => dPairs ps ρ M (fun kvs M1 => kvs.length ≤ 15 ∧ dk ρ M1 (fun k M2 => onS k fun x => onO (lastD kvs x) fun d => noL d = true ∧ Q d M2) Xd) Xd
theorem dd_dictIx {i : Expr} {p1 pos : Pos} {keys : List (Option Expr)} {values : List Expr} {ps : List (Str × DE)} {dk : DE} (hu : X.A.units + 1 < cLine) (h : PPs X p1 keys values (upairs X.K W ps)) (hk : PE X i (uE X.K W dk)) (hall : keys.all (·.isSome) = true) (hl : keys.length = values.length) (h0 : keys ≠ [])
    (h15 : keys.length ≤ 15) (hs : NoSl i) : PE X (.Subscript (.Dict keys values p1) i pos) (uE X.K W (dDictIx ps dk)) :=
  pe_imp (pe_dget hu (pe_disp h hall hl h0 h15) hk hs) fun σ H Q ⟨ρ, M, Qd, Xd, en, hr, h, q, x⟩ => by
    intro p hp
    obtain ⟨s0, hr1⟩ := Stp.new (o := .dK []) hp hr
    have hMp := hr.none hp
    refine pairs_in (en.stp s0) hr1 h (x.stp s0) fun vs H2 kvs M2 s2 hr2 kr ⟨h15, hq⟩ => ?_
    obtain ⟨e2, m2⟩ := s2.g p _ rfl upd_same hMp
    obtain ⟨gs, ge, gl, gf⟩ := kr.split
    refine ⟨e2, gs, ge, by rw [gl]; exact h15, ?_⟩
    have s02 := s0.trans s2
    have tt : ∀ a xs, SqT X.K H2 a xs → SqT X.K (upd H2 p (.dK (mergeK [] gs))) a xs := sqT_upd fun xs z => by
      rcases z with z | ⟨o, z⟩ <;> (rw [e2] at z; cases z)
    have s3 : Stp X.K H M (upd H2 p (.dK (mergeK [] gs))) M2 := ⟨fun a xs z => tt a xs (s02.t a xs z), fun a o z0 z z2 => by
      have z3 := s02.g a o z0 z z2
      exact ⟨by rw [upd_ne (ne_of_none z hp)]; exact z3.1, z3.2⟩, fun a fs z => by
      rw [upd_ne (ne_of_none z hp)]
      exact s02.x a fs z, fun a o u z => by
      rw [upd_ne (ne_of_none z hp)]
      exact s02.f a o u z⟩
    have hr3 : HR X.K (upd H2 p (.dK (mergeK [] gs))) M2 := fun a o z => (hr2 a o z).flat tt (upd_ne fun z2 => by
      rw [z2, m2] at z
      cases z)
    refine ⟨ρ, M2, _, Xd, en.stp s3, hr3, hq, fun y H4 k M4 s4 r4 hr4 hk => ?_, x.stp s3⟩
    obtain ⟨z, ez, hk2⟩ := onS_of r4 hk
    obtain ⟨d, ed, hk3⟩ := onO_of hk2
    obtain ⟨v, ev, rv⟩ := gf [] z d ed
    obtain ⟨e4, _⟩ := s4.g p _ rfl upd_same m2
    refine ⟨p, v, rfl, ?_, q v H4 d M4 (s3.trans s4) ((rv.flat tt hk3.1).stp s4) hr4 hk3.2⟩
    rw [ez, ← ev]
    exact DGet.k (k := Sum.inr z) e4
theorem du_nil {pos : Pos} : PPs X pos [] [] (upairs X.K W []) := pps_nil
theorem du_cons {pos : Pos} {x : Str} {p1 : Pos} {j : Nat} {v : Expr} {ks : List (Option Expr)} {vs : List Expr} {dv : DE} {ps : List (Str × DE)} (hv : PE X v (uE X.K W dv)) (hr : PPs X pos ks vs (upairs X.K W ps)) :
    PPs X pos (some (.Constant (.str x) j p1) :: ks) (v :: vs) (upairs X.K W ((x, dv) :: ps)) := pps_cons dd_str hv hr
end
end DL

set_option Elab.async false
set_option linter.all false
set_option maxRecDepth 100000
set_option maxHeartbeats 4000000
namespace DL
open PySem PySem.Spec L2
/-- every parameter is given -/
def Bd (fd : FuncData) (ps : List Str) : Prop := ∀ us : List Value, us.length = ps.length → bindArgs fd ⟨us, []⟩ = pure (ps.zip us)
/-- a def stands at the top under its name -/
def Df (K : PySem.W.Frag) (mg : Str → Option Value) (x : Str) (st : Stmt) (ps : List Str) : Prop := ∃ (f : Addr) (fd : FuncData), mg x = some (.ref f) ∧ Fun K x x st f fd ∧ Bd fd ps
/-- .. and keeps its data promise -/
def Dn (P : Program) (w : World) (K : PySem.W.Frag) (mg : Str → Option Value) (base : Heap) (x : Str) (ps : List Str) (k : Nat) (sp : DSp) : Prop :=
  ∃ (f : Addr) (fd : FuncData), mg x = some (.ref f) ∧ PySem.W.keepIn K (.ref f) = true ∧ Bd fd ps ∧ (∃ oc od osl, K.lookup f = some ⟨oc, od, .func fd, osl⟩) ∧ FnOk P w K mg base (L2.CX P w) k f fd ps (spD K ps.length sp)
section
variable {X : Cx} {W : WX} {e : Expr} {es : List Expr} {dag : DA} {pos : Pos}
theorem dd_fnD {x : Str} {p : Pos} {k : Nat} {ps : List Str} {sp : DSp} (G : Dn X.prog X.w X.K X.mg X.base x ps k sp) (hr : Room k X.A) (hg : Gl X x) (tk : Takes X W) (ha : PA X (e :: es) (uA X.K W dag)) {n : Nat} (hn : ps.length = n := by exact rfl) (hd : (x == ("__debug__" : Str)) = false := by decide)
    (he : starEach (e :: es) X.env = (false, eval e X.env) :: starEach es X.env := by exact rfl) (hpl : (backTo pos (starEach es X.env)).any (·.1) = false := by exact rfl) :
    PE X (.Call (.Name x p) (e :: es) [] pos) (uE X.K W (dFn sp n dag)) := by
  subst hn
  obtain ⟨f, fd, hm, hk, hb, hl, F⟩ := G
  exact dd_fn F hr hg hm hk (.all hb) tk ha hd he hpl
end
section
variable {P : Program} {w : World} {K : PySem.W.Frag} {mg : Str → Option Value} {base : Heap}
theorem okF {x : Str} {st : Stmt} {N ps : List Str} {k : Nat} {sp : DSp} (F : Df K mg x st ps) (S : FnScope N ps (defScope st)) (hps : ps.length ≤ N.length)
    (hbody : ∀ (f : Addr) (cdv : Value) (A : Around) (outer : List Env) (s : Shared) (H : Hp) (E : XK), Room k (A.deeper (PyProof.Rows.envOfC x (defScope st) s.heap.objs.size f cdv)) →
      ∃ ds : DS, PSs (cxOf (L2.CX P w) P w K mg base N x (defScope st) f cdv A outer s H E) (defBody st) (uS K (fun cls d _ H => E cls d H) ds) ∧ ∀ as M Qd Xd, as.length = ps.length → sp as M Qd Xd → ds (endsD Qd Xd) (startD N.length as) M) :
    Dn P w K mg base x ps (k + 1) sp := by
  obtain ⟨f, fd, hm, hF, hb⟩ := F
  obtain ⟨oc, od, kV, doc, pm, an, cdv, ct, osl, e, lk, hcd⟩ := id hF.ex
  exact ⟨f, fd, hm, hF.kp, hb, ⟨oc, od, osl, lk⟩, okD hF S hps fun cdv A outer s H E hr => hbody f cdv A outer s H E hr⟩
theorem passD {cdv : Value} {A : Around} {outer : List Env} {s : Shared} {H : Hp} {E : XK} {N : List Str} {qual : Str} {st : Stmt} {f : Addr} : PassesOwn (model P w) (cxOf (L2.CX P w) P w K mg base N qual (defScope st) f cdv A outer s H E).A (cxOf (L2.CX P w) P w K mg base N qual (defScope st) f cdv A outer s H E).env (cxOf (L2.CX P w) P w K mg base N qual (defScope st) f cdv A outer s H E).xe := passes_of rfl
theorem Dn.mono {x : Str} {ps : List Str} {j k : Nat} {sp : DSp} (G : Dn P w K mg base x ps j sp) (h : j ≤ k) : Dn P w K mg base x ps k sp := by
  obtain ⟨f, fd, hm, hk, hb, hl, F⟩ := G
  exact ⟨f, fd, hm, hk, hb, hl, F.mono h⟩
theorem dn_raw {x : Str} {ps : List Str} {k : Nat} {sp : DSp} (G : Dn P w K mg base x ps k sp) : ∃ (f : Addr) (fd : FuncData), mg x = some (.ref f) ∧ Bd fd ps ∧ FnOk P w K mg base (L2.CX P w) k f fd ps (spD K ps.length sp) := by
  obtain ⟨f, fd, hm, hk, hb, hl, F⟩ := G
  exact ⟨f, fd, hm, hb, F⟩
end
/-- a law's end: from the script to True -/
theorem law_end {K : PySem.W.Frag} {H : Hp} {a : Addr} {ns : List Int} {sp : DSp} (hO : Only H) (hS : SqL K H a (ns.map V.int)) (h : sp [.seq (ns.map D.int)] (fun _ => none) (fun d _ => d = D.bl true) (fun _ _ => False)) :
    spD K 1 sp [.ref a] H (fun v _ => v = .bl true) (fun _ _ _ => False) := by
  refine ⟨[.seq (ns.map D.int)], fun _ => none, fun d _ => d = D.bl true, fun _ _ => False, rfl, RA.cons ?_ RA.nil, (fun _ _ z => nomatch z), h, ?_, fun _ _ _ _ _ _ _ _ z => False.elim z⟩
  · unfold R
    refine ⟨a, _, rfl, ?_, RA.ints⟩
    rcases hS with (z | ⟨o, z⟩) | z
    · rcases hO a with y | ⟨o, xs, y⟩
      · rw [z] at y; cases y
      · rw [z] at y; cases y
    · exact .inl ⟨o, z⟩
    · exact .inr fun H' => .inr z
  · intro v H' d M' _ r _ e
    subst e
    exact r.bl_v
theorem no_exc {P : Program} {w : World} {H : Hp} {s : Shared} {e : Value} {s' : Shared} (h : L2.CX P w [] H s (fun _ _ _ => False) e s') : False := by
  obtain ⟨_, _, _, _, _, _, _, _, _, _, _, _, z⟩ := h
  exact z
theorem law_fn {P : Program} {w : World} {K : PySem.W.Frag} {mg : Str → Option Value} {base : Heap} {k : Nat} {sp : DSp} {fa : Addr} {x : Str} {ps : List Str} (G : Dn P w K mg base x ps k sp) (hfa : mg x = some (.ref fa)) : ∃ fd : FuncData, Bd fd ps ∧ FnOk P w K mg base (L2.CX P w) k fa fd ps (spD K ps.length sp) := by
  obtain ⟨f, fd, hm, hk, hb, hl, F⟩ := G
  rw [hfa] at hm
  cases hm
  exact ⟨fd, hb, F⟩
theorem df_mk {K : PySem.W.Frag} {h : Heap} {mg : Str → Option Value} {x : Str} {st : Stmt} {ps : List Str} {f : Addr} {oc : Value} {od an : Option Addr} {osl : Array (Option Value)} {kV doc pm cdv ct : Value} (X : K.In h) (G : h.Ns mainGlobals mg)
    (a : PySem.W.nsIn K mainGlobals x = some (some (.ref f))) (l : K.lookup f = some ⟨oc, od, .func (PySem.W.fnOf x x (defArgs st) (defBody st) (defScope st) .none kV doc pm an cdv ct), osl⟩) (c : PySem.W.codeIn K cdv x = true) (k : PySem.W.keepIn K (.ref f) = true)
    (b : Bd (PySem.W.fnOf x x (defArgs st) (defBody st) (defScope st) .none kV doc pm an cdv ct) ps) : Df K mg x st ps := ⟨f, _, PySem.W.mg_of X G a, fun_mk l c k, b⟩
theorem law_fn2 {P : Program} {w : World} {K : PySem.W.Frag} {mg : Str → Option Value} {base : Heap} {k : Nat} {sp : DSp} {fa : Addr} {fd : FuncData} {x : Str} {ps : List Str} {st : Stmt} (G : Dn P w K mg base x ps k sp) (hfa : mg x = some (.ref fa)) (F : Fun K x x st fa fd) : FnOk P w K mg base (L2.CX P w) k fa fd ps (spD K ps.length sp) := by
  obtain ⟨f, fd2, hm, hk, hb, ⟨oc, od, osl, hl⟩, F2⟩ := G
  rw [hfa] at hm
  cases hm
  obtain ⟨oc', od', kV, doc, pm, an, cdv, ct, osl', e, lk, hcd⟩ := F.ex
  rw [hl] at lk
  cases lk
  exact F2
end DL

set_option Elab.async false
set_option linter.all false
set_option maxRecDepth 100000
set_option maxHeartbeats 4000000
namespace DL
open PySem PySem.Spec L2
/-- a def called where nothing is being shown (repr) -/
structure FnG (P : Program) (w : World) (K : PySem.W.Frag) (mg : Str → Option Value) (base : Heap) (k : Nat) (f : Addr) (fd : FuncData) (ps : List Str) (sp : Sp) : Prop where
  len : ∀ vs H Q E, sp vs H Q E → vs.length = ps.length
  run : ∀ (A : Around) (outer : List Env) (s : Shared) (H : Hp) (args : Args) (us : List Value) (vs : List V) (Q : VK) (E : XK), Room k A → A.guards = some [] → Env0 P w K mg base A outer s H → BindsTo s fd args (ps.zip us) → Vals vs us → sp vs H Q E →
    codeAny (model P w) A (.call (.ref f) args) (CR (L2.CX P w) outer P w H s Q E) s
section
variable {P : Program} {w : World} {K : PySem.W.Frag} {mg : Str → Option Value} {base : Heap}
theorem FnG.mono {j k : Nat} {f : Addr} {fd : FuncData} {ps : List Str} {sp : Sp} (F : FnG P w K mg base j f fd ps sp) (h : j ≤ k) : FnG P w K mg base k f fd ps sp :=
  ⟨F.len, fun A outer s H args us vs Q E hr => F.run A outer s H args us vs Q E (hr.mono h)⟩
open PyProof.Rows in
theorem fng_of {x qual : Str} {st : Stmt} {f : Addr} {fd : FuncData} {N ps : List Str} {k : Nat} {sp : Sp} (F : Fun K x qual st f fd) (S : FnScope N ps (defScope st)) (len : ∀ vs H Q E, sp vs H Q E → vs.length = ps.length)
    (hbody : ∀ (cdv : Value) (A : Around) (outer : List Env) (s : Shared) (H : Hp) (vs : List V) (Q : VK) (E : XK), Room k (A.deeper (envOfC qual (defScope st) s.heap.objs.size f cdv)) → A.guards = some [] → sp vs H Q E →
      ∃ t, PSs (cxOf (L2.CX P w) P w K mg base N qual (defScope st) f cdv A outer s H E) (defBody st) t ∧ t { nx := fun _ H' => Q .non H', rt := Q } (L2.start N vs) H) : FnG P w K mg base (k + 1) f fd ps sp := by
  obtain ⟨oc, od, kV, doc, pm, an, cdv, ct, osl, rfl, lk, hcd⟩ := F.ex
  constructor
  · exact len
  intro A outer s H args us vs Q E hr hgd e0 hb r hsp
  have hl := len _ _ _ _ hsp
  have stands : ∀ b o, base.get? b = some o → s.heap.get? b = some o := fun b o e => (e0.bs b o e).1
  have KX : K.In s.heap := e0.mod.kin.keeps stands
  have lim : s.heap.NoLimit := e0.mod.nolimit.keeps stands
  have kinds : ∀ y ∈ ps.zip us, (defScope st).names.lookup y.1 = some .local ∨ ((defScope st).names.lookup y.1 = some .cell ∧ ((cellsFrom (s.heap.objs.size + 1) (defScope st).names []).lookup y.1).isSome = true) := by
    rintro ⟨n, v⟩ hy
    exact (S.par n (List.of_mem_zip hy).1).imp id fun q => ⟨q, PySem.W.cellsFrom_some _ _ _ (.inl q)⟩
  refine codeAny_call_function hr.depth (KX _ _ lk) rfl S.co S.gen rfl (PySem.W.codeRec_of KX hcd) (hb _ _ _ _ ?_)
  refine wpAny_newFunctionEnv_cells S.kind kinds ?_
  rintro env rfl s1 x
  refine ⟨lim.keeps x.toInCall.keep, codeAny_func ?_⟩
  obtain ⟨t, ht, hq⟩ := hbody cdv A outer s H vs Q E (hr.deeper _) hgd hsp
  have I : Inv (cxOf (L2.CX P w) P w K mg base N qual (defScope st) f cdv A outer s H E) [] (L2.start N vs) H s1 := inv_start S hr.hd e0 hl r x
  refine wpAny_mono (ht.run [] s1 (L2.start N vs) H _ I hq) ?_ fun _ _ z => z
  rintro (_ | _ | _ | u) s' hs
  · obtain ⟨σ', H', J, q⟩ := hs
    exact ⟨.non, H', J.os, J.bare, J.base, J.hok, rfl, q⟩
  all_goals first
    | (obtain ⟨v, σ', H', J, rv, q⟩ := hs; exact ⟨v, H', J.os, J.bare, J.base, J.hok, rv, q⟩)
    | (obtain ⟨_, _, _, q⟩ := hs; exact q.elim)
end

/-- the same, with its data promise -/
def Dg (P : Program) (w : World) (K : PySem.W.Frag) (mg : Str → Option Value) (base : Heap) (x : Str) (ps : List Str) (k : Nat) (sp : DSp) : Prop :=
  ∃ (f : Addr) (fd : FuncData), mg x = some (.ref f) ∧ PySem.W.keepIn K (.ref f) = true ∧ Bd fd ps ∧ (∃ oc od osl, K.lookup f = some ⟨oc, od, .func fd, osl⟩) ∧ FnG P w K mg base k f fd ps (spD K ps.length sp)
section
variable {P : Program} {w : World} {K : PySem.W.Frag} {mg : Str → Option Value} {base : Heap}
theorem okG {x : Str} {st : Stmt} {N ps : List Str} {k : Nat} {sp : DSp} (F : Df K mg x st ps) (S : FnScope N ps (defScope st)) (hps : ps.length ≤ N.length)
    (hbody : ∀ (f : Addr) (cdv : Value) (A : Around) (outer : List Env) (s : Shared) (H : Hp) (E : XK), Room k (A.deeper (PyProof.Rows.envOfC x (defScope st) s.heap.objs.size f cdv)) → (A.deeper (PyProof.Rows.envOfC x (defScope st) s.heap.objs.size f cdv)).guards = some [] →
      ∃ ds : DS, PSs (cxOf (L2.CX P w) P w K mg base N x (defScope st) f cdv A outer s H E) (defBody st) (uS K (fun cls d _ H => E cls d H) ds) ∧ ∀ as M Qd Xd, as.length = ps.length → sp as M Qd Xd → ds (endsD Qd Xd) (startD N.length as) M) :
    Dg P w K mg base x ps (k + 1) sp := by
  obtain ⟨f, fd, hm, hF, hb⟩ := F
  obtain ⟨oc, od, kV, doc, pm, an, cdv, ct, osl, e, lk, hcd⟩ := id hF.ex
  refine ⟨f, fd, hm, hF.kp, hb, ⟨oc, od, osl, lk⟩, fng_of hF S (fun vs H Q E h => ?_) fun cdv A outer s H vs Q E hr hg h => ?_⟩
  · obtain ⟨ds, M, Qd, Xd, hl, ra, _⟩ := h
    exact ra.len.trans hl
  · obtain ⟨as, M, Qd, Xd, hl, ra, hr2, hsp, l, x⟩ := h
    obtain ⟨ds, h1, h2⟩ := hbody f cdv A outer s H E hr hg
    refine ⟨_, h1, startD N.length as, M, endsD Qd Xd, en_start (by omega) ra, hr2, h2 as M Qd Xd hl hsp, ?_⟩
    exact ⟨fun σ' H' ρ' M' s' en' hr' q => rtD.ld l .non H' .non M' s' R.nonI hr' q, rtD.ld l, fun _ _ _ _ _ _ _ z => z.elim, fun _ _ _ _ _ _ _ z => z.elim, fun c od fs σ' H' ρ' M' s' xr en' hr' q => x c od fs H' M' s' xr hr' q⟩
end
section
variable {X : Cx} {W : WX} {e : Expr} {es : List Expr} {dag : DA} {pos : Pos}
theorem run_fnG {k : Nat} {f : Addr} {fd : FuncData} {ps : List Str} {sp : Sp} {E : L2.St → XK} {pins : List (Addr × Obj)} {σ : L2.St} {H : Hp} {s : Shared} {Q : VK} {us : List Value} {vs : List V} (F : FnG X.prog X.w X.K X.mg X.base k f fd ps sp) (hr : Room k X.A) (hgd : X.A.guards = some []) (hb : Bd fd ps) (hx : PassesAt (L2.CX X.prog X.w) X σ (E σ))
    (I : Inv X pins σ H s) (r : Vals vs us) (h : sp vs H Q (E σ)) : wpAny (model X.prog X.w) X.A (call (.ref f) us) (EP X pins σ Q) X.xe s := by
  have b : BindsTo s fd ⟨us, []⟩ (ps.zip us) := .of_eq (hb us (r.length.symm.trans (F.len _ _ _ _ h)))
  refine wpAny_call (codeAny_mono (F.run X.A X.stack s H ⟨us, []⟩ us vs Q (E σ) hr hgd I.env0 b r h) ?_)
  rintro (e | fl) s' hq
  · exact hx pins H s e s' I hq
  · cases fl with
    | ret u => exact I.after hq
    | next => exact False.elim hq
    | brk => exact False.elim hq
    | cont => exact False.elim hq
theorem dd_fnG {x : Str} {p : Pos} {k : Nat} {ps : List Str} {sp : DSp} (G : Dg X.prog X.w X.K X.mg X.base x ps k sp) (hr : Room k X.A) (hgd : X.A.guards = some []) (hg : Gl X x) (tk : Takes X W) (ha : PA X (e :: es) (uA X.K W dag)) {n : Nat} (hn : ps.length = n := by exact rfl) (hd : (x == ("__debug__" : Str)) = false := by decide)
    (he : starEach (e :: es) X.env = (false, eval e X.env) :: starEach es X.env := by exact rfl) (hpl : (backTo pos (starEach es X.env)).any (·.1) = false := by exact rfl) :
    PE X (.Call (.Name x p) (e :: es) [] pos) (uE X.K W (dFn sp n dag)) := by
  subst hn
  obtain ⟨f, fd, hm, hk, hb, hl, F⟩ := G
  constructor
  intro pins s σ H Q I ⟨ρ, M, Qd, Xd, en, hr2, h, q, x2⟩
  refine wpAny_Call_Name_kw (ld_glob I hg hm ?_ hd)
  refine PySem.W.callWith_K (h₀ := X.base) I.ok.mod.kin hk (thn (ha.run pos pins s σ H (fun vs H1 => spD X.K ps.length sp vs H1 Q (WE W σ)) I ⟨ρ, M, _, Xd, en, hr2, h, fun vs H1 ds M1 s1 r1 hr1 h1 => ⟨ds, M1, Qd, Xd, h1.1, r1, hr1, h1.2, q.stp s1, fun c od fs H' M' s2 xr hr2 h2 => x2 c od fs H' M' (s1.trans s2) xr hr2 h2⟩, x2⟩) ?_) he hpl
  rintro us s1 ⟨vs, H1, I1, r, q1⟩
  exact ⟨I1.kIn, run_fnG F hr hgd hb (passAt tk σ) I1 r q1⟩
mutual
theorem pyOf_flat : ∀ {d : D} {p : PyData}, pyOf d = some p → p.hasDict = false
  | .non, _, h => by unfold pyOf at h; cases h; rfl
  | .bl _, _, h => by unfold pyOf at h; cases h; rfl
  | .int _, _, h => by unfold pyOf at h; cases h; rfl
  | .str _, _, h => by unfold pyOf at h; cases h; rfl
  | .ty _, _, h => by unfold pyOf at h; cases h
  | .exc .., _, h => by unfold pyOf at h; cases h
  | .dct .., _, h => by unfold pyOf at h; cases h
  | .ref _, _, h => by unfold pyOf at h; cases h
  | .tup ds, _, h => by
    unfold pyOf at h
    cases q : pyOfs ds with
    | none => rw [q] at h; cases h
    | some ps => rw [q] at h; cases h; unfold PyData.hasDict; exact pyOfs_flat q
  | .lst ds, _, h => by
    unfold pyOf at h
    cases q : pyOfs ds with
    | none => rw [q] at h; cases h
    | some ps => rw [q] at h; cases h; unfold PyData.hasDict; exact pyOfs_flat q
  | .seq ds, _, h => by
    unfold pyOf at h
    cases q : pyOfs ds with
    | none => rw [q] at h; cases h
    | some ps => rw [q] at h; cases h; unfold PyData.hasDict; exact pyOfs_flat q
theorem pyOfs_flat : ∀ {ds : List D} {ps : List PyData}, pyOfs ds = some ps → PyData.hasDictAll ps = false
  | [], _, h => by unfold pyOfs at h; cases h; rfl
  | d :: ds, _, h => by
    unfold pyOfs at h
    cases q : pyOf d with
    | none => simp [q] at h
    | some p =>
      cases q2 : pyOfs ds with
      | none => simp [q, q2] at h
      | some pr =>
        simp only [q, q2] at h
        cases h
        unfold PyData.hasDictAll
        rw [pyOf_flat q, pyOfs_flat q2] <;> rfl
end
theorem pyM_flat {M : DM} {d : D} {p : PyData} (h : pyM M d = some p) : p.hasDict = false := by
  unfold pyM at h
  split at h
  · split at h
    · rename_i ds _
      cases q : pyOfs ds with
      | none => rw [q] at h; cases h
      | some ps => rw [q] at h; cases h; unfold PyData.hasDict; exact pyOfs_flat q
    · cases h
  · exact pyOf_flat h
def rRepr (K : PySem.W.Frag) : List V → Hp → VK → Prop := fun xs H Q => ∃ x p, xs = [x] ∧ Dp K H x p ∧ p.hasDict = false ∧ p.showable = true ∧ p.depth ≤ 60 ∧ p.shown.length ≤ sizeLine ∧ Q (.str p.shown) H
theorem call_reprD (hgd : X.A.guards = some []) (hu : X.A.units + 64 < cLine) : CallR X (.builtin "repr") (rRepr X.K) := by
  intro pins s σ H xs us Q I r h
  obtain ⟨x, p, rfl, dp, hd, hs, hdp, hz, q⟩ := h
  obtain ⟨u, rfl, ru⟩ := vals1 r
  obtain ⟨as, rd⟩ := Dp.reads I p x u dp ru
  cases dp with
  | non =>
    cases (show u = Value.none from ru)
    exact PySem.P.repr_of_none ⟨.str _, H, I.tok _, ⟨_, rfl⟩, q⟩
  | bl b =>
    cases (show u = Value.bool b from ru)
    exact PySem.P.repr_of_bool ⟨.str _, H, I.tok _, ⟨_, rfl⟩, q⟩
  | int i =>
    obtain ⟨t, rfl⟩ := ru
    exact PySem.P.repr_of_int (by simpa [PyData.showable] using hs) ⟨.str _, H, I.tok _, ⟨_, rfl⟩, q⟩
  | str z =>
    obtain ⟨t, rfl⟩ := ru
    exact PySem.P.repr_of_str ⟨.str _, H, I.tok _, ⟨_, rfl⟩, q⟩ hz
  | lst hs2 ha =>
    cases ru
    refine repr_of_reads' rd hs (fun z => by rw [hd] at z; cases z) hgd (by omega) (fun b o e => e) (fun h' u tk k => ?_) hz
    exact ⟨.str _, H, I.kept k, ⟨_, rfl⟩, q⟩
  | tup hs2 ha =>
    cases ru
    refine repr_of_reads' rd hs (fun z => by rw [hd] at z; cases z) hgd (by omega) (fun b o e => e) (fun h' u tk k => ?_) hz
    exact ⟨.str _, H, I.kept k, ⟨_, rfl⟩, q⟩
end
def reprF (ds : List D) (M : DM) (Q : DK) : Prop := on1 ds fun d => onO (pyM M d) fun p => p.showable = true ∧ p.depth ≤ 60 ∧ p.shown.length ≤ sizeLine ∧ Q (.str p.shown) M
theorem cv_repr {K : PySem.W.Frag} : CaV K (rRepr K) reprF := by
  intro H M vs ds Q Qd hr ra h1 q
  obtain ⟨v, d, e, r, h2⟩ := on1_of ra h1
  obtain ⟨p, hp, h3, h4, h5, h6⟩ := onO_of h2
  exact ⟨v, p, e, pyM_of hr r hp, pyM_flat hp, h3, h4, h5, q _ H _ M .refl R.strI hr h6⟩

/-! ### the law's end -/
open PyProof.Rows in
theorem law_callD {P : Program} {w : World} {K : PySem.W.Frag} {mg mb : Str → Option Value} {k : Nat} {fa a : Addr} {fd : FuncData} {x : Str} {sp : DSp} {s₁ : Shared} {vs : List Value} {ns : List Int}
    (KX : K.In s₁.heap) (hns : s₁.heap.Ns mainGlobals mg) (hb : s₁.heap.Ns builtinsNs mb) (hbb : ∀ x : Str, x ≠ "__name__" → mb x = bootBuiltins x) (hlim : s₁.heap.NoLimit) (hg : s₁.gens = #[])
    (ha : s₁.heap.get? a = some { cls := .type "list", data := .seq vs.toArray }) (hi : IntsAre vs ns) (hl : ns.length ≤ sizeLine) (hr : Room k callerA)
    (F : ∀ base : Heap, K.In base → base.Ns mainGlobals mg → FnG P w K mg base k fa fd [x] (spD K 1 sp)) (hbind : ∀ (s : Shared) (u : Value), BindsTo s fd ⟨[u], []⟩ [(x, u)])
    (h : sp [.seq (ns.map D.int)] (fun _ => none) (fun d _ => d = D.bl true) (fun _ _ => False)) :
    codeAny (model P w) callerA (.call (.ref fa) ⟨[.ref a], []⟩) (fun r s' => r = .ok (.ret (.bool true)) ∧ OldK s₁.heap s'.heap ∧ s'.os = s₁.os ∧ AllBare s'.gens) s₁ := by
  have rv : Vals (ns.map V.int) vs := vals_of_ints hi
  -- the script is known and nothing else; or it is the module's own, and nothing is known
  have go : ∀ H : Hp, (∀ b u, H b = some u → b = a ∧ K.lookup b = none ∧ u = .frz { cls := .type "list", data := .seq vs.toArray } (.lst (ns.map V.int))) → SqL K H a (ns.map V.int) →
      codeAny (model P w) callerA (.call (.ref fa) ⟨[.ref a], []⟩) (fun r s' => r = .ok (.ret (.bool true)) ∧ OldK s₁.heap s'.heap ∧ s'.os = s₁.os ∧ AllBare s'.gens) s₁ := by
    intro H hH hS
    have hok : HOk P w H s₁.heap := fun b u e => by
      obtain ⟨rfl, _, rfl⟩ := hH b u e
      exact ⟨ha, by rw [List.length_map]; exact hl, vs, _, rv, ha⟩
    have hO : Only H := fun b => by
      cases q : H b with
      | none => exact .inl rfl
      | some u => exact .inr ⟨_, _, by rw [(hH b u q).2.2]⟩
    have notA : ∀ {b : Addr} {o : Obj} {es : Array DictEntry} {ep : Nat}, s₁.heap.get? b = some o → o.data = .dict es ep → H b = none := by
      intro b o es ep e1 e2
      cases q : H b with
      | none => rfl
      | some u =>
        obtain ⟨rfl, _, _⟩ := hH b u q
        rw [ha] at e1
        cases e1
        cases e2
    have ns1 : ∀ {b : Addr} {m : Str → Option Value}, s₁.heap.Ns b m → (hidT s₁.heap H).Ns b m := by
      rintro b m ⟨o, es, ep, e, d, r⟩
      exact ⟨o, es, ep, hidT_get e (notA e d), d, r⟩
    have kb : K.In (hidT s₁.heap H) := fun b o e => hidT_get (KX b o e) (by
      cases q : H b with
      | none => rfl
      | some u =>
        rw [(hH b u q).2.1] at e
        cases e)
    obtain ⟨mc, l1, l2⟩ := hlim
    have e0 : Env0 P w K mg (hidT s₁.heap H) callerA [] s₁ H := ⟨rfl, ⟨kb, ns1 hns, ⟨mb, ns1 hb, hbb⟩, ⟨mc, ns1 l1, l2⟩⟩, fun b o e => of_hidT e, Nat.le_of_eq (hidT_size _ _), trivial, (fun b z => nomatch z), hok, .of_eq hg⟩
    refine codeAny_mono ((F _ kb (ns1 hns)).run callerA [] s₁ H ⟨[.ref a], []⟩ [.ref a] [.ref a] _ _ hr rfl e0 (hbind s₁ (.ref a)) (.cons rfl .nil) (law_end hO hS h)) ?_
    rintro (e | fl) s' z
    · exact (no_exc z).elim
    · cases fl with
      | next => exact False.elim z
      | brk => exact False.elim z
      | cont => exact False.elim z
      | ret u =>
        obtain ⟨v, H', os, bare, un, hok', r', q⟩ := z
        have q' : v = .bl true := q
        subst q'
        cases (show u = Value.bool true from r')
        refine ⟨rfl, OldK.of_keep fun b o e => ?_, os, bare⟩
        cases q : H b with
        | none => exact un.keep b o e q (fun z => nomatch z) (fun z => nomatch z)
        | some u =>
          obtain ⟨rfl, _, eu⟩ := hH b u q
          rw [eu] at q
          obtain ⟨e2, _⟩ := hok' b _ (un.frzs b _ _ q)
          rw [ha] at e
          cases e
          exact e2
  cases hk : K.lookup a with
  | some o =>
    have e := KX a o hk
    rw [ha] at e
    cases e
    refine go (fun _ => none) (fun _ _ z => nomatch z) (.inr ⟨_, vs.toArray, _, hk, rfl, rfl, rfl, ?_, rv⟩)
    rw [List.size_toArray, hi.length]
    exact hl
  | none =>
    refine go (fun b => if b = a then some (.frz { cls := .type "list", data := .seq vs.toArray } (.lst (ns.map V.int))) else none) (fun b u z => ?_) (.inl (.inr ⟨_, if_pos rfl⟩))
    by_cases hb : b = a
    · rw [if_pos hb] at z
      cases z
      exact ⟨hb, by rw [hb]; exact hk, rfl⟩
    · rw [if_neg hb] at z
      cases z
theorem walk_D {l : PySem.W.OpenLaw} {n k : Nat} {q : Program} {loose : List Str} {XP : (Str → Option Value) → Heap → Prop} {YP : World → Heap → Prop} {d : DefRec} {K : Params → PySem.W.Frag} {sp : DSp} {x : Str}
    (hn : l.most = some n) (hn2 : n ≤ sizeLine) (hdf : d.params.defaults = []) (hr : Room k callerA) (hY : ∀ (w : World) (h : Heap), YP w h → (K w.params).In h)
    (F : ∀ (w : World) (mg : Str → Option Value) (fa : Addr) (h : Heap), (K w.params).In h → h.Ns mainGlobals mg → mg d.name = some (.ref fa) →
      ∃ fd : FuncData, (∀ (s : Shared) (u : Value), BindsTo s fd ⟨[u], []⟩ [(x, u)]) ∧ ∀ base : Heap, (K w.params).In base → base.Ns mainGlobals mg → FnG l.prog w (K w.params) mg base k fa fd [x] (spD (K w.params) 1 sp))
    (h : ∀ ns : List Int, ns.length ≤ n → (∀ z ∈ ns, Builtin.Int.intBits z ≤ 1048576) → sp [.seq (ns.map D.int)] (fun _ => none) (fun d _ => d = D.bl true) (fun _ _ => False)) :
    PySem.W.WalkO q loose XP YP l.row.toRowW d [] (fun f vs => PySem.call f vs) := by
  refine Att.attach_callB hn hdf ?_
  intro w s₀ s₁ mg mb fa o pm cd doc a vs ns G Y ho hd hcd hmg hobj hints hlen hbits hg
  have KX := hY w _ Y
  obtain ⟨fd, hb, hF⟩ := F w mg fa _ KX G.T.g hmg
  exact law_callD KX G.T.g G.T.b G.T.builtins G.T.nolimit hg hobj hints (Nat.le_trans hlen hn2) hr hF hb (h ns hlen hbits)
theorem FnG.of {P : Program} {w : World} {K : PySem.W.Frag} {mg : Str → Option Value} {base : Heap} {k : Nat} {f : Addr} {fd : FuncData} {ps : List Str} {sp : Sp} (F : FnOk P w K mg base (L2.CX P w) k f fd ps sp) : FnG P w K mg base k f fd ps sp :=
  ⟨F.len, fun A outer s H args us vs Q E hr _ => F.run A outer s H args us vs Q E hr⟩
theorem Dn.g {P : Program} {w : World} {K : PySem.W.Frag} {mg : Str → Option Value} {base : Heap} {k : Nat} {x : Str} {ps : List Str} {sp : DSp} (G : Dn P w K mg base x ps k sp) : Dg P w K mg base x ps k sp := by
  obtain ⟨f, fd, hm, hk, hb, hl, F⟩ := G
  exact ⟨f, fd, hm, hk, hb, hl, .of F⟩
theorem law_fnG {P : Program} {w : World} {K : PySem.W.Frag} {mg : Str → Option Value} {base : Heap} {k : Nat} {sp : DSp} {fa : Addr} {fd : FuncData} {x : Str} {ps : List Str} {st : Stmt} (G : Dg P w K mg base x ps k sp) (hfa : mg x = some (.ref fa)) (F : Fun K x x st fa fd) : FnG P w K mg base k fa fd ps (spD K ps.length sp) := by
  obtain ⟨f, fd2, hm, hk, hb, ⟨oc, od, osl, hl⟩, F2⟩ := G
  rw [hfa] at hm
  cases hm
  obtain ⟨oc', od', kV, doc, pm, an, cdv, ct, osl', e, lk, hcd⟩ := F.ex
  rw [hl] at lk
  cases lk
  exact F2
end DL

set_option Elab.async false
set_option linter.all false
set_option maxRecDepth 100000
set_option maxHeartbeats 4000000
/-! Exceptions of the program's own, straight over a built-in class, with one field each. -/
namespace DL
open PySem PySem.Spec L2
/-- what the written part says of such a class, T the base's mro -/
structure OwnX (K : PySem.W.Frag) (C : Addr) (B newId initId : String) (T : List Value) : Prop where
  fb : ExcBaseFacts B newId initId T
  st : StoreFacts B T "object.__setattr__" "object"
  cls : ∃ nm q N bs sn sub ab col dd k0 k1 k2 k3 k5, K.lookup C = some (excClassObj nm q C N bs T true sn sub ab col dd k0 k1 k2 k3 k5 newId)
  ov : PySem.W.excOver K C T = true
  sa : PySem.W.findIn K (.ref C) "__setattr__" = some (some (.builtin "object.__setattr__"))
  exC : PySem.W.subIn K (.ref C) (.type "BaseException") = some true
  tyC : PySem.W.typeIn K (.ref C) = some (.type "type")
  kC : PySem.W.keepIn K (.ref C) = true
section
variable {K : PySem.W.Frag} {C : Addr} {B newId initId : String} {T : List Value}
theorem OwnX.data (o : OwnX K C B newId initId T) : ∃ cd, PySem.W.clsIn K C = some cd ∧ cd.hasDict = true := by
  obtain ⟨nm, q, N, bs, sn, sub, ab, col, dd, k0, k1, k2, k3, k5, h⟩ := o.cls
  have e : PySem.W.clsIn K C = some { name := nm, bases := bs, mro := .ref C :: T, ns := N, qualname := q, hasDict := true, slotNames := sn, subclasses := sub, abstract := ab, collection := col, hasDel := false } := by
    unfold PySem.W.clsIn
    rw [h] <;> rfl
  exact ⟨_, e, rfl⟩
/-- the first field of a new exception, over the heap -/
theorem set_first {prog : Program} {w : World} {A : Around} {E : Value → Shared → Prop} {hp : Heap} {g : Array GenState} {dr : Drawn} {tk0 : Nat} {os : OsState} {x t1 : Addr} {name : Str} {u : Value} {Q : Unit → Shared → Prop} (o : OwnX K C B newId initId T) (ht : PySem.W.takerIn K C name = some none)
    (KX : K.In hp) (hx : hp.get? x = some (PySem.W.excObj C t1 none .none))
    (q : ∀ h' tk, (∀ b v, b ≠ x → hp.get? b = some v → h'.get? b = some v) → h'.get? x = some (PySem.W.excObj C t1 (some hp.objs.size) .none) → h'.Ns1 hp.objs.size (fun y => if y = name then some u else none) → Q () ⟨h', g, dr, tk, os⟩) :
    wpAny (model prog w) A (setAttr (.ref x) name u) Q E ⟨hp, g, dr, tk0, os⟩ := by
  obtain ⟨cd, hc, hd⟩ := o.data
  have ne : x ≠ hp.objs.size := Nat.ne_of_lt (Heap.lt_size hx)
  refine PySem.W.set_plain KX (od := none) ⟨hx, rfl, rfl, trivial⟩ o.sa (PySem.W.osa_openX (s := ⟨hp, g, dr, tk0 + 1, os⟩) (od := none) o.st KX ⟨hx, rfl, rfl, trivial⟩ o.ov ht fun b => ?_)
  refine wpAny_bind (wpAny_pure (wpAny_bind (PySem.W.instanceDict_exc (s := ⟨hp, g, dr, tk0 + 1, os⟩) hx (PySem.W.looks_clsIn KX hc) hd ?_)))
  show wpAny _ _ (Builtin.ObjectAttr.storeInDict hp.objs.size (.str name tk0) name u) _ _ _
  refine PySem.HandSPX.store_in_new ?_ fun h' tk' hn hs => ?_
  · exact ⟨_, #[], _, (Heap.get?_update_ne _ _ _ _ ne.symm).trans (Heap.get?_push_at rfl rfl), rfl, fun e he => absurd he (by simp), fun _ => rfl⟩
  · refine q h' tk' (fun b v hb hv => ?_) ?_ hn
    · exact (hs.2 b (Nat.ne_of_lt (Heap.lt_size hv))).trans ((Heap.get?_update_ne _ _ _ _ hb).trans (Heap.get?_push_of_some _ hv))
    · exact (hs.2 x ne).trans (Heap.get?_update_self _ (Heap.get?_push_of_some _ hx) rfl)
end
/-- a built-in exception class, as a base -/
structure BaseX (B newId initId : String) (T : List Value) : Prop where
  fb : ExcBaseFacts B newId initId T
  st : StoreFacts B T "object.__setattr__" "object"
  ty : typeOf (.type B) = pure (.type "type")
  stub : Manifest.isStub B = false
  iC : ∀ K, PySem.W.findCls K (.type B) (.type "type") "__init__" = some (.val (.builtin initId))
  hand : PySem.W.handedIn (.builtin initId) = true
  boot : bootBuiltins (B : Str) = some (.type B)
  nn : (B : Str) ≠ "__name__"
  nd : ((B : Str) == ("__debug__" : Str)) = false
/-- how such a call is read, told at the written text -/
def CallShape (B : String) (p1 p2 pos : Pos) (es : List Expr) (env : Env) : Prop := ∃ pl : Sem Bool, eval (.Call (.Attribute (.Name (B : Str) p1) "__init__" p2) es [] pos) env = (do
      let ov ← eval (.Name (B : Str) p1) env
      standAt p2.atName
      let (f, first) ← holding [ov] (getMethod ov "__init__" pl)
      callWith pos f first (backTo pos (starEach es env)) (backToKw pos (keywordEach [] env)))
theorem baseVE : BaseX "ValueError" "ValueError.__new__" "ValueError.__init__" [.type "ValueError", .type "Exception", .type "BaseException", .type "object"] :=
  ⟨PySem.F.excBase_ValueError, PySem.F.store_ValueError, by kernel_rfl, by decide +kernel, fun K => by kernel_rfl, by decide +kernel, PyProof.Rows.Boot.«ValueError», by decide +kernel, by decide +kernel⟩
theorem baseLE : BaseX "LookupError" "LookupError.__new__" "LookupError.__init__" [.type "LookupError", .type "Exception", .type "BaseException", .type "object"] :=
  ⟨PySem.F.excBase_LookupError, PySem.F.store_LookupError, by kernel_rfl, by decide +kernel, fun K => by kernel_rfl, by decide +kernel, PyProof.Rows.Boot.«LookupError», by decide +kernel, by decide +kernel⟩
theorem baseRE : BaseX "RuntimeError" "RuntimeError.__new__" "RuntimeError.__init__" [.type "RuntimeError", .type "Exception", .type "BaseException", .type "object"] :=
  ⟨PySem.F.excBase_RuntimeError, PySem.F.store_RuntimeError, by kernel_rfl, by decide +kernel, fun K => by kernel_rfl, by decide +kernel, PyProof.Rows.Boot.«RuntimeError», by decide +kernel, by decide +kernel⟩
theorem baseOE : BaseX "OverflowError" "OverflowError.__new__" "OverflowError.__init__" [.type "OverflowError", .type "ArithmeticError", .type "Exception", .type "BaseException", .type "object"] :=
  ⟨PySem.F.excBase_OverflowError, PySem.F.store_OverflowError, by kernel_rfl, by decide +kernel, fun K => by kernel_rfl, by decide +kernel, PyProof.Rows.Boot.«OverflowError», by decide +kernel, by decide +kernel⟩
section
variable {X : Cx} {pins : List (Addr × Obj)} {σ : L2.St} {H : Hp} {s : Shared} {a C : Addr} {f : Str} {y : V} {u : Value} {B newId initId : String} {T : List Value}
/-- self.f = y, the first one -/
theorem inv_first {Q : Unit → Shared → Prop} {E : Value → Shared → Prop} {A : Around} (o : OwnX X.K C B newId initId T) (ht : PySem.W.takerIn X.K C f = some none) (I : Inv X pins σ H s) (e : H a = some (exo a C none)) (ry : RelV y u)
    (q : ∀ dx s', H dx = none → dx ≠ a → Inv X pins σ (upd (upd H dx (exd dx [(f, y)])) a (exo a C (some dx))) s' → Q () s') : wpAny (model X.prog X.w) A (setAttr (.ref a) f u) Q E s := by
  obtain ⟨t1, hx⟩ := exo_at I.hok e
  obtain ⟨hp, g, dr, tk, os⟩ := s
  refine set_first o ht I.kIn hx fun h' tk' kp hx' hn' => ?_
  generalize hdx : hp.objs.size = dx at hx' hn'
  have nw : H dx = none := I.hok.fresh (Nat.le_of_eq hdx)
  have ner : dx ≠ a := fun z => by rw [z, e] at nw; cases nw
  have od : ∀ {b : Addr} {o : Obj}, hp.get? b = some o → b ≠ dx := fun {b o} z w => by
    have := Heap.lt_size z
    rw [w, ← hdx] at this
    exact Nat.lt_irrefl _ this
  have oa : ∀ {b : Addr}, H b = none → b ≠ a := fun {b} n z => by rw [z, e] at n; cases n
  refine q dx _ nw ner (I.un (t' := tk') ⟨fun b o z n _ _ => kp b o (oa n) z, fun b o z n _ _ => ⟨o.slots, kp b o (oa n) z⟩, fun b o z n _ => ?_, fun b o z _ => ?_, fun b xs z => ?_, fun b o v z => ?_, fun b ps z => ⟨#[], ?_⟩⟩ fun b o z => ?_)
  · rw [upd_ne (oa n), upd_ne (od z)]
    exact n
  · by_cases hb : b = a
    · subst hb
      exact ⟨_, hx'⟩
    · exact ⟨o, kp b o hb z⟩
  · rw [upd_ne (at_ne e z exo_tup), upd_ne (ne_of_none z nw)]
    exact z
  · rw [upd_ne (at_ne e z exo_frz), upd_ne (ne_of_none z nw)]
    exact z
  · rw [upd_ne (at_ne e z exo_tbl), upd_ne (ne_of_none z nw), z]
    simp
  · by_cases hb : b = a
    · subst hb
      rw [upd_same] at z
      cases z
      exact exo_ok hx'
    · rw [upd_ne hb] at z
      by_cases hd : b = dx
      · subst hd
        rw [upd_same] at z
        cases z
        exact exd_ok hn' (relO_put (fs := []) ry fun _ => True.intro)
      · rw [upd_ne hd] at z
        have hx2 : ∀ {c : Addr}, H c = some (.own b) → c ≠ a ∧ c ≠ dx := fun {c} hc => ⟨at_ne e hc exo_own, ne_of_none hc nw⟩
        refine (I.hok b o z).stay (fun c v hc w => kp c v ?_ w) (fun c hc => by rw [upd_ne (hx2 hc).1, upd_ne (hx2 hc).2]; exact hc) fun c xs hc => by rw [upd_ne (at_ne e hc exo_tup), upd_ne (ne_of_none hc nw)]; exact hc
        rcases hc with hc | hc
        · rw [hc]
          exact hb
        · exact (hx2 hc).1
/-- B.__init__(self, ..) -/
theorem inv_base {us : List Value} {Q : Value → Shared → Prop} {E : Value → Shared → Prop} {A : Around} (o : OwnX X.K C B newId initId T) (I : Inv X pins σ H s) (e : H a = some (exo a C none)) (hl : us.length ≤ sizeLine) (q : ∀ s', Inv X pins σ H s' → Q .none s') :
    wpAny (model X.prog X.w) A (call (.builtin initId) (.ref a :: us)) Q E s := by
  obtain ⟨nm, qn, N, bs, sn, sub, ab, col, dd, k0, k1, k2, k3, k5, hC⟩ := o.cls
  obtain ⟨t1, hx⟩ := exo_at I.hok e
  obtain ⟨hp, g, dr, tk, os⟩ := s
  refine wpAny_call (PySem.HandSPX.init_base o.fb (fun _ => rfl) (I.kIn _ _ hC) hx hl fun h' t2 kp hx' => ?_)
  have J := I.write (t' := tk) (x := a) (e := a) (o := exo a C none) (by rw [e]; exact True.intro) (.inl rfl) kp ⟨_, hx'⟩ (exo_ok hx')
  have same : upd H a (exo a C none) = H := funext fun b => by
    by_cases hb : b = a
    · rw [hb, upd_same, e]
    · exact upd_ne hb
  exact q _ (same ▸ J)
def tBI (K : PySem.W.Frag) (B newId initId : String) (T : List Value) (ta : TA) : TE := fun σ H Q => ta σ H fun vs H1 => ∃ (a C : Addr) (ws : List V), vs = .ref a :: ws ∧ ws.length ≤ 1000 ∧ OwnX K C B newId initId T ∧ H1 a = some (exo a C none) ∧ Q .non H1
def tFF (K : PySem.W.Frag) (B newId initId : String) (T : List Value) (f : Str) (to te : TE) : TS := fun D σ H => te σ H fun y H1 => to σ H1 fun x H2 => ∃ a C : Addr, x = .ref a ∧ OwnX K C B newId initId T ∧ PySem.W.takerIn K C f = some none ∧ H2 a = some (exo a C none) ∧
  ∀ dx, H2 dx = none → dx ≠ a → D.nx σ (upd (upd H2 dx (exd dx [(f, y)])) a (exo a C (some dx)))
variable {o e : Expr} {es : List Expr} {to te : TE} {ta : TA} {p p' p1 p2 pos : Pos}
theorem pe_bi (F : BaseX B newId initId T) (hg : Gl X (B : Str)) (hm : X.mg (B : Str) = none) (ha : PA X (e :: es) ta) (hc : CallShape B p1 p2 pos (e :: es) X.env)
    (he : starEach (e :: es) X.env = (false, eval e X.env) :: starEach es X.env := by exact rfl) (hpl : (backTo pos (starEach es X.env)).any (·.1) = false := by exact rfl) :
    PE X (.Call (.Attribute (.Name (B : Str) p1) "__init__" p2) (e :: es) [] pos) (tBI X.K B newId initId T ta) := by
  constructor
  intro pins s σ H Q I h
  obtain ⟨m, fr⟩ := I.fr
  obtain ⟨pl, hc⟩ := hc
  refine PySem.W.methodCall_KW (ld_blt I hg hm F.boot (PySem.W.method_type fr I.ok.mod.kin F.ty F.stub (F.iC _) F.hand ?_) F.nn F.nd) hc
  show wpAny _ _ (callWith pos (Value.builtin initId) [] (backTo pos (starEach (e :: es) X.env)) []) _ _ _
  refine PyProof.Rows.callWith_method1 (thn (ha.run pos pins _ σ H _ (I.tok _) h) ?_) he hpl
  rintro us s1 ⟨vs, H1, I1, r1, a, C, ws, rfl, hl, T1, ea, q⟩
  cases r1 with
  | @cons _ u0 _ ur ra rw' =>
    cases (show u0 = Value.ref a from ra)
    exact inv_base T1 I1 ea (by rw [← Paired.length rw', sizeLine_eq]; omega) fun s' J => ⟨.non, H1, J, rfl, q⟩
theorem ps_ff (ho : PE X o to) (he : PE X e te) (hs : swapsWith e (some (.Attribute o f p')) pos.line X.env = pure false := by exact rfl) : PS X (.Assign [.Attribute o f p'] e pos) (tFF X.K B newId initId T f to te) := by
  constructor
  intro pins s σ H D I h
  refine plainObj_wpAny_Assign_Attribute (thn (he.run pins s σ H _ I h) ?_) hs
  rintro v s1 ⟨y, H1, I1, r1, q1⟩
  refine thn (ho.run pins s1 σ H1 _ I1 q1) ?_
  rintro u s2 ⟨x, H2, I2, r2, a, C, rfl, T1, ht, ea, q⟩
  cases (show u = Value.ref a from r2)
  exact inv_first T1 ht I2 ea r1 fun dx s' n ne J => ⟨σ, _, J, q dx n ne⟩
end
/-- what an __init__ of one argument, kept as the field f, does -/
def spI (K : PySem.W.Frag) (C : Addr) (f : Str) : Sp := fun vs H Q _ => ∃ (a : Addr) (v : V), vs = [.ref a, v] ∧ H a = some (exo a C none) ∧ ∀ dx, H dx = none → dx ≠ a → Q .non (upd (upd H dx (exd dx [(f, v)])) a (exo a C (some dx)))
section
variable {P : Program} {w : World} {K : PySem.W.Frag} {mg : Str → Option Value} {base : Heap} {B newId initId : String} {T : List Value} {C : Addr}
/-- def __init__(self, f): B.__init__(self, 'text'); self.f = f -/
theorem ok_init {x qual f m : Str} {st : Stmt} {fa : Addr} {fd : FuncData} {j : Nat} {q1 q2 q3 q4 q5 q6 q7 q8 q9 q10 : Pos} (Bx : BaseX B newId initId T) (O : OwnX K C B newId initId T) (ht : PySem.W.takerIn K C f = some none) (F : Fun K x qual st fa fd) (S : FnScope ["self", f] ["self", f] (defScope st))
    (hb : defBody st = [.Expr (.Call (.Attribute (.Name (B : Str) q1) "__init__" q2) [.Name "self" q3, .Constant (.str m) j q4] [] q5) q6, .Assign [.Attribute (.Name "self" q7) f q8] (.Name f q9) q10])
    (hc : ∀ env, CallShape B q1 q2 q5 [.Name "self" q3, .Constant (.str m) j q4] env) (hg : (defScope st).names.lookup (B : Str) = some .globalImplicit) (hm : mg (B : Str) = none) (hd : (f == ("__debug__" : Str)) = false) (hcd : (f == ("__classdict__" : Str)) = false) (hs : (defScope st).names.lookup ("self" : Str) = some .local) (hf : (defScope st).names.lookup f = some .local) :
    FnOk P w K mg base (L2.CX P w) 1 fa fd ["self", f] (spI K C f) := by
  refine F.okX S (fun vs H Q E h => ?_) (fun cdv A outer s H vs Q E hr h => ?_)
  · obtain ⟨a, v, rfl, _⟩ := h
    rfl
  · obtain ⟨a, v, rfl, ea, q⟩ := h
    refine ⟨tSeq (fun D σ H => tBI K B newId initId T (tCons (tVar 0) (tCons (tC (.str m)) tNil)) σ H fun _ H1 => D.nx σ H1) (tFF K B newId initId T f (tVar 0) (tVar 1)), ?_, ?_⟩
    · rw [hb]
      refine pss_cons (ps_expr (pe_bi Bx ?_ hm ?_ (hc _))) (pss_one (ps_ff ?_ ?_))
      · exact hg
      · exact pa_cons (pe_var (i := 0) rfl (.inl hs)) (pa_cons pe_str pa_nil)
      · exact pe_var (i := 0) rfl (.inl hs)
      · exact pe_var (i := 1) rfl (.inl hf) hd hcd
    · unfold tSeq
      refine ⟨.ref a, rfl, ?_⟩
      refine ⟨a, C, [.str m], rfl, by simp, O, ea, ?_⟩
      refine ⟨v, rfl, ?_⟩
      exact ⟨.ref a, rfl, a, C, rfl, O, ht, ea, q⟩
end
section
variable {X : Cx} {B newId initId : String} {T : List Value} {C fI : Addr} {e : Expr} {te : TE} {x f : Str} {p pos pos' : Pos}
/-- C(e), as raised -/
def tMkX (C : Addr) (f : Str) (te : TE) : L2.St → Hp → XK → Prop := fun σ H Q => te σ H fun v H1 => ∀ d, H1 d = none → Q (.ref C) (some d) (upd H1 d (.xd [(f, v)]))
theorem pmk_x {k : Nat} {fd : FuncData} (O : OwnX X.K C B newId initId T) (iC : PySem.W.findIn X.K (.ref C) "__init__" = some (some (.ref fI))) (tI : PySem.W.typeIn X.K (.ref fI) = some (.type "function")) (F1 : FnOk X.prog X.w X.K X.mg X.base (L2.CX X.prog X.w) k fI fd ["self", f] (spI X.K C f))
    (hr : Room (k + 1) X.A) (hb : Bd fd ["self", f]) (hg : Gl X x) (hm : X.mg x = some (.ref C)) (he : PE X e te) (hdb : (x == ("__debug__" : Str)) = false := by decide) (hse : starEach (e :: []) X.env = (false, eval e X.env) :: starEach [] X.env := by exact rfl) (hpl : (backTo pos (starEach [] X.env)).any (·.1) = false := by exact rfl) :
    PMk X (.Call (.Name x p) [e] [] pos) (tMkX C f te) := by
  intro pins s σ H Q I h
  obtain ⟨nm, qn, N, bs, sn, sub, ab, col, dd, k0, k1, k2, k3, k5, hC⟩ := O.cls
  refine wpAny_Call_Name_kw (ld_glob I hg hm ?_ hdb)
  refine PySem.W.callWith_K (h₀ := X.base) I.ok.mod.kin O.kC (thn ((pa_cons he pa_nil hse).run pos pins s σ H (fun vs H1 => ∃ v, vs = [v] ∧ ∀ d, H1 d = none → Q (.ref C) (some d) (upd H1 d (.xd [(f, v)]))) I ?_) ?_) hse hpl
  · show te σ H _
    have same : (fun v H1 => tNil σ H1 fun xs H2 => ∃ v2, v :: xs = [v2] ∧ ∀ d, H2 d = none → Q (.ref C) (some d) (upd H2 d (.xd [(f, v2)]))) = fun v H1 => ∀ d, H1 d = none → Q (.ref C) (some d) (upd H1 d (.xd [(f, v)])) := by
      funext v H1
      refine propext ⟨?_, fun z => ⟨v, rfl, z⟩⟩
      rintro ⟨v2, ev, z⟩
      cases ev
      exact z
    rw [same]
    exact h
  rintro us s1 ⟨vs, H1, I1, r1, v, rfl, q1⟩
  refine ⟨I1.kIn, ?_⟩
  obtain ⟨u, rfl, ru⟩ := vals1 r1
  show wpAny _ _ (call (.ref C) [u]) _ _ _
  obtain ⟨hp, g, dr, tk, os⟩ := s1
  generalize ha : hp.objs.size + 1 = a
  have above : hp.objs.size ≤ a := by omega
  have hn : H1 a = none := I1.hok.fresh above
  have kk : ∀ b o, hp.get? b = some o → ((hp.push (PySem.W.kdv_tup [u])).push (PySem.HandSPX.excO C hp.objs.size)).get? b = some o := fun b o z => Heap.get?_push_of_some _ (Heap.get?_push_of_some _ z)
  have new : ((hp.push (PySem.W.kdv_tup [u])).push (PySem.HandSPX.excO C hp.objs.size)).get? a = some (PySem.HandSPX.excO C hp.objs.size) := by
    subst ha
    heap_get
  have I2 : Inv X pins σ (upd H1 a (exo a C none)) ⟨(hp.push (PySem.W.kdv_tup [u])).push (PySem.HandSPX.excO C hp.objs.size), g, dr, tk, os⟩ := I1.laid (t' := tk) kk above (exo_ok new)
  have sp : spI X.K C f [.ref a, v] (upd H1 a (exo a C none)) (fun w H2 => w = .non ∧ ∃ d, H2 a = some (exo a C (some d)) ∧ H2 d = some (exd d [(f, v)]) ∧ H1 d = none ∧ Q (.ref C) (some d) (upd (del H2 a) d (.xd [(f, v)]))) fun _ _ _ => False := by
    refine ⟨a, v, rfl, upd_same, fun dx nd ne => ⟨rfl, dx, upd_same, by rw [upd_ne ne, upd_same], by rw [upd_ne ne] at nd; exact nd, ?_⟩⟩
    rw [upd_ne ne] at nd
    have same : upd (del (upd (upd (upd H1 a (exo a C none)) dx (exd dx [(f, v)])) a (exo a C (some dx))) a) dx (.xd [(f, v)]) = upd H1 dx (.xd [(f, v)]) := by
      funext b
      by_cases hb : b = dx
      · rw [hb, upd_same, upd_same]
      · rw [upd_ne hb, upd_ne hb]
        by_cases hb2 : b = a
        · rw [hb2, del_same, hn]
        · rw [del_ne hb2, upd_ne hb2, upd_ne hb, upd_ne hb2]
    rw [same]
    exact q1 dx nd
  have r2 : Vals (V.ref a :: [v]) (Value.ref a :: [u]) := .cons rfl (.cons ru .nil)
  subst ha
  refine wpAny_call (PySem.HandSPX.call_own O.fb (fun _ => rfl) (I1.kIn _ _ hC) (PySem.W.looks_findIn I1.kIn iC) (fun self => PySem.W.bind_fn I1.kIn self tI) (by rw [sizeLine_eq]; exact (by decide : 1 ≤ 16777216))
    (codeAny_mono (F1.run _ X.stack _ _ ⟨[Value.ref (hp.objs.size + 1), u], []⟩ _ _ _ (fun _ _ _ => False) (hr.make C [u] []) (I2.env0.make C [u] []) (.of_eq (hb _ rfl)) r2 sp) ?_))
  rintro (er | fl) s' z
  · exact L2.passL pins σ _ _ er s' I2 z
  · cases fl with
    | ret w =>
      obtain ⟨v2, H2, os2, bare2, un2, hok2, rv, rfl, d, ea, ed, hd1, q2⟩ := z
      obtain ⟨h2, g2, d2, t2, os'⟩ := s'
      exact ⟨rv, mk_end (raises_own O.exC O.tyC) I1 above kk un2 hok2 os2 bare2 ea ed hd1 q2⟩
    | next => exact z.elim
    | brk => exact z.elim
    | cont => exact z.elim
end
/-! ### except clauses, several, each with a name or without one -/
abbrev Hd := Value × Option Nat × (Addr → Value → Option Addr → TS)
/-- what is behind a suite whose name stood in the slot -/
def sufE (io : Option Nat) (D : Ends) : Ends := match io with
  | some i => { nx := fun σ H => D.nx (σ.set i none) H, rt := D.rt, bk := fun σ H => D.bk (σ.set i none) H, ct := fun σ H => D.ct (σ.set i none) H }
  | none => D
def bindE (io : Option Nat) (σ : L2.St) (a : Addr) : L2.St := match io with
  | some i => σ.set i (some (.ref a))
  | none => σ
def wHds (K : PySem.W.Frag) (Wout : WX) (D : Ends) : List Hd → WX
  | [] => Wout
  | (c, io, ts) :: r => fun cls d σ H => ∃ b, PySem.W.exmOne K cls c = some b ∧ (b = true → ∀ a, H a = none → ts a cls d (sufE io D) (bindE io σ a) H) ∧ (b = false → wHds K Wout D r cls d σ H)
inductive HdsX (X : Cx) : List ExceptHandler → List Hd → Prop
  | nil : HdsX X [] []
  | as {x n : Str} {c : Value} {i : Nat} {ts : Addr → Value → Option Addr → TS} {b0 : Stmt} {su : List Stmt} {np p' : Pos} {hds : List ExceptHandler} {l : List Hd} (hi : X.N[i]? = some n) (hl : X.env.kindOf n = some .local) (hc : Names X x c)
      (hs : ∀ (a : Addr) (oe : Obj) (cls : Value) (d : Option Addr) (pn : List (Addr × Obj)), Zc cls d oe → (∃ vs, oe.data = .fields vs) → PSs (X.suite a ((a, oe) :: pn)) (b0 :: su) (ts a cls d)) (r : HdsX X hds l) : HdsX X (.ExceptHandler (some (.Name x np)) (some n) (b0 :: su) p' :: hds) ((c, some i, ts) :: l)
  | only {x : Str} {c : Value} {ts : Addr → Value → Option Addr → TS} {b0 : Stmt} {su : List Stmt} {np p' : Pos} {hds : List ExceptHandler} {l : List Hd} (hc : Names X x c)
      (hs : ∀ (a : Addr) (oe : Obj) (cls : Value) (d : Option Addr) (pn : List (Addr × Obj)), Zc cls d oe → (∃ vs, oe.data = .fields vs) → PSs (X.suite a ((a, oe) :: pn)) (b0 :: su) (ts a cls d)) (r : HdsX X hds l) : HdsX X (.ExceptHandler (some (.Name x np)) none (b0 :: su) p' :: hds) ((c, none, ts) :: l)
section
variable {X : Cx} {body : List Stmt} {h0 : ExceptHandler} {hds : List ExceptHandler} {l : List Hd} {pos : Pos} {tb : WX → TS} {Wout : WX}
theorem ps_try_hds (hN : X.N.Nodup) (hs : X.stack = X.env :: X.outer) (hf : X.env.frame = some X.env.locals) (tk : Takes X Wout)
    (hb : ∀ (W : WX) (pn : List (Addr × Obj)) (xe : Value → Shared → Prop), Takes (X.tr pn xe) W → PassesOwn (model X.prog X.w) X.A X.env xe → PSs (X.tr pn xe) body (tb W)) (hh : HdsX X (h0 :: hds) l) :
    PS X (.Try body (h0 :: hds) [] [] pos) (fun D σ H => tb (wHds X.K Wout D l) D σ H) := by
  constructor
  intro pins s σ H D I h
  have ok := I.ok
  have fr : X.A.frames = some (X.env :: X.outer) := by rw [ok.frames, hs]
  refine wpAny_Try_except (wpAny_mono ((hb (wHds X.K Wout D l) (X.pn ++ pins) (fun e s1 => wpAny (model X.prog X.w) X.A (noteFrame e X.env) (fun _ s2 => wpAny (model X.prog X.w) X.A (setFlight e none) (fun _ s3 => wpAny (model X.prog X.w) X.A (handleBy e X.env (h0 :: hds)) (SP X pins D) X.xe s3) X.xe s2) X.xe s1) ?_ PassesOwn.looking).run [] s σ H D (I.toTry _) h) ?_ fun _ _ z => z)
  · rintro u s' ⟨a, G, sI, pins', σ', H', cls, d, rfl, J', nb, up, sky, na, os, ag, wsh⟩
    have J : Inv X pins σ' H' sI := J'.ofTry ok
    rw [hs] at sky
    refine Sky.land Zc.steady fr hf sky fun h3 fl up3 => ?_
    have J3 : Inv X pins σ' H' { s' with heap := h3 } := J.landed nb fl.1 (up.trans up3) os ag
    obtain ⟨oe, vs, ge, ze, de⟩ := fl.there
    have off : ∀ {h4 : Heap} {o : Obj} {ws : Array Value}, h4.FunFrames G (X.env :: X.outer) → h4.get? a = some o → o.data = .fields ws → a ≠ X.env.locals ∧ a ∉ X.fs := by
      intro h4 o ws ff e1 e2
      have no : a ∉ frs (X.env :: X.outer) := fun hm => by
        obtain ⟨_, o2, e3, nf⟩ := ff.mem hm
        rw [e1] at e3
        cases e3
        exact nf _ e2
      exact ⟨fun z => no (List.mem_filterMap.mpr ⟨X.env, List.mem_cons_self, by rw [hf, z]⟩), fun hm => by
        obtain ⟨e, he, q⟩ := List.mem_filterMap.mp hm
        exact no (List.mem_filterMap.mpr ⟨e, List.mem_cons_of_mem _ he, q⟩)⟩
    obtain ⟨nL, nF⟩ := off fl.2.2.1 ge de
    have S3 := J3.suite ge de na nL nF
    have LT : PySem.W.Looks (model X.prog X.w) h3 (typeOf (.ref a)) cls := fun A Q E s k q => wpAny_typeOf_ref (k _ _ ge) (by rw [ze.1]; exact q)
    have named : ∀ {x : Str} {c : Value} {np : Pos} {Q : Value → Shared → Prop} {E : Value → Shared → Prop}, Names X x c → Q c { s' with heap := h3 } → wpAny (model X.prog X.w) (X.A.mark (some (.ref a))) (eval (.Name x np) X.env) Q E { s' with heap := h3 } := by
      rintro x c np Q E ⟨hg, hd, hm | ⟨hm, hv, hn⟩⟩ q
      · exact ld_glob (X := X.suite a ((a, oe) :: (X.pn ++ pins))) S3 hg hm q hd
      · exact ld_blt (X := X.suite a ((a, oe) :: (X.pn ++ pins))) S3 hg hm hv q hn hd
    have again : ∀ {A : Around} {E : Value → Shared → Prop} {Q : Unit → Shared → Prop}, (∀ h4 oe4, Inv (X.suite a ((a, oe4) :: (X.pn ++ pins))) [] σ' H' { s' with heap := h4 } → Zc cls d oe4 → (∃ ws, oe4.data = .fields ws) → Q () { s' with heap := h4 }) → wpAny (model X.prog X.w) A (setFlight (.ref a) none) Q E { s' with heap := h3 } := by
      intro A E Q q
      refine HandSPX.lands_againZ fl fun h4 fl4 up4 => ?_
      obtain ⟨oe4, ws, g4, z4, d4⟩ := fl4.there
      have J4 : Inv X pins σ' H' { s' with heap := h4 } := J.landed nb fl4.1 ((up.trans up3).trans up4) os ag
      exact q h4 oe4 (J4.suite g4 d4 na nL nF) z4 ⟨ws, d4⟩
    have go : ∀ {hds' : List ExceptHandler} {l' : List Hd}, HdsX X hds' l' → wHds X.K Wout D l' cls d σ' H' → wpAny (model X.prog X.w) X.A (handleBy (.ref a) X.env hds') (SP X pins D) X.xe { s' with heap := h3 } := by
      intro hds' l' hk
      induction hk with
      | nil =>
        intro wo
        refine wpAny_handleBy_nil ?_
        obtain ⟨k1, k2, k3, o5, v5, tr, oT, ts', g5, z5, d5, h1, hr⟩ := id fl
        have fin : wpAny (model X.prog X.w) X.A (setFlight (.ref a) X.env.frame) (fun _ s4 => wpAny (model X.prog X.w) X.A (throw (.ref a) : Sem Flow) (SP X pins D) X.xe s4) X.xe { s' with heap := h3 } := by
          rw [hf]
          refine HandSPX.setFlight_upZ fl fun h4 hh4 up4 => wpAny_throw (tk _ _ ⟨a, G, sI, pins, σ', H', cls, d, rfl, J, nb, (up.trans up3).trans up4, ?_, na, os, ag, wo⟩)
          rw [hs]
          exact .inr (.inr hh4)
        unfold PySem.passOn
        refine wpAny_bind (wpAny_field g5 d5 h1 ?_)
        rw [if_neg (by simp)]
        first
          | exact wpAny_bind (wpAny_pure (wpAny_bind fin))
          | exact wpAny_bind fin
      | @as x n c i ts b0 su np p' hds2 l2 hi hl hc hsu r ih =>
        rintro ⟨b, hb1, yes, no⟩
        refine wpAny_handleBy_cons (codeAny_handlers_test (named hc ((PySem.W.exm_one (M := model X.prog X.w) J3.kIn LT hb1).here ?_))) (by intro q; cases q)
        cases b with
        | false => exact ih (no rfl)
        | true =>
          refine codeAny_handlers_suite_as (again fun h4 oe4 S4 z4 d4 => ?_)
          refine store_ok (X := X.suite a ((a, oe4) :: (X.pn ++ pins))) (v := .ref a) S4 hN hi (.inl hl) rfl (fun s5 S5 => ?_) (.inr hl)
          refine wpAny_mono ((hsu a oe4 cls d (X.pn ++ pins) z4 d4).run [] s5 _ H' _ S5 (yes rfl a na)) (fun fl6 s6 sp => ?_) fun _ _ z => z.elim
          have gone : ∀ {σ6 : L2.St} {H6 : Hp} {Q : Shared → Prop}, Inv (X.suite a ((a, oe4) :: (X.pn ++ pins))) [] σ6 H6 s6 → (∀ s7, Inv X pins (σ6.set i none) H6 s7 → Q s7) → wpAny (model X.prog X.w) X.A (do bindName X.env n .none; unbindBehindTheSuite X.env n p') (fun _ s7 => Q s7) X.xe s6 :=
            fun {σ6 H6 Q} S6 q => gone_ok (S6.unsuite ok) hN hi hl q
          cases fl6 with
          | ret u =>
            obtain ⟨v6, σ6, H6, S6, r6, q6⟩ := sp
            exact gone S6 fun s7 J7 => ⟨_, _, _, J7, r6, q6⟩
          | next => obtain ⟨σ6, H6, S6, q6⟩ := sp; exact gone S6 fun s7 J7 => ⟨_, _, J7, q6⟩
          | brk => obtain ⟨σ6, H6, S6, q6⟩ := sp; exact gone S6 fun s7 J7 => ⟨_, _, J7, q6⟩
          | cont => obtain ⟨σ6, H6, S6, q6⟩ := sp; exact gone S6 fun s7 J7 => ⟨_, _, J7, q6⟩
      | @only x c ts b0 su np p' hds2 l2 hc hsu r ih =>
        rintro ⟨b, hb1, yes, no⟩
        refine wpAny_handleBy_cons (codeAny_handlers_test (named hc ((PySem.W.exm_one (M := model X.prog X.w) J3.kIn LT hb1).here ?_))) (by intro q; cases q)
        cases b with
        | false => exact ih (no rfl)
        | true =>
          refine codeAny_handlers_suite (again fun h4 oe4 S4 z4 d4 => ?_)
          refine wpAny_mono ((hsu a oe4 cls d (X.pn ++ pins) z4 d4).run [] _ _ H' _ S4 (yes rfl a na)) (fun fl6 s6 sp => ?_) fun _ _ z => z.elim
          cases fl6 with
          | ret u =>
            obtain ⟨v6, σ6, H6, S6, r6, q6⟩ := sp
            exact ⟨_, _, _, S6.unsuite ok, r6, q6⟩
          | next => obtain ⟨σ6, H6, S6, q6⟩ := sp; exact ⟨_, _, S6.unsuite ok, q6⟩
          | brk => obtain ⟨σ6, H6, S6, q6⟩ := sp; exact ⟨_, _, S6.unsuite ok, q6⟩
          | cont => obtain ⟨σ6, H6, S6, q6⟩ := sp; exact ⟨_, _, S6.unsuite ok, q6⟩
    exact go hh wsh
  · intro f s1 sp
    cases f with
    | ret u =>
      obtain ⟨v, σ', H', J, r, q⟩ := sp
      exact ⟨v, σ', H', J.ofTry ok, r, q⟩
    | next => obtain ⟨σ', H', J, q⟩ := sp; exact wpAny_execs_nil ⟨σ', H', J.ofTry ok, q⟩
    | brk => obtain ⟨σ', H', J, q⟩ := sp; exact ⟨σ', H', J.ofTry ok, q⟩
    | cont => obtain ⟨σ', H', J, q⟩ := sp; exact ⟨σ', H', J.ofTry ok, q⟩
end
end DL

set_option Elab.async false
set_option linter.all false
set_option maxRecDepth 100000
set_option maxHeartbeats 4000000
/-! raise and try by data. -/
namespace DL
open PySem PySem.Spec L2
/-- a class of exceptions, ready to be raised -/
def XCls (P : Program) (w : World) (K : PySem.W.Frag) (mg : Str → Option Value) (base : Heap) (x : Str) (C : Addr) (f : Str) : Prop :=
  ∃ (B newId initId : String) (T : List Value) (fI : Addr) (fd : FuncData), OwnX K C B newId initId T ∧ PySem.W.findIn K (.ref C) "__init__" = some (some (.ref fI)) ∧ PySem.W.typeIn K (.ref fI) = some (.type "function") ∧
    FnOk P w K mg base (L2.CX P w) 1 fI fd ["self", f] (spI K C f) ∧ Bd fd ["self", f] ∧ mg x = some (.ref C)
def dRaise (C : Addr) (f : Str) (de : DE) : DS := fun N ρ M => de ρ M (fun d M1 => N.ex (.ref C, [(f, d)]) ρ M1) fun x M1 => N.ex x ρ M1
section
variable {X : Cx} {W : WX} {e : Expr} {de : DE} {x f : Str} {C : Addr} {p pos pos' : Pos}
theorem dz_raise (hc : X.calm = true) (tk : Takes X W) (Z : XCls X.prog X.w X.K X.mg X.base x C f) (hr : Room 2 X.A) (hg : Gl X x) (he : PE X e (uE X.K W de)) (hdb : (x == ("__debug__" : Str)) = false := by decide)
    (hse : starEach (e :: []) X.env = (false, eval e X.env) :: starEach [] X.env := by exact rfl) (hpl : (backTo pos (starEach [] X.env)).any (·.1) = false := by exact rfl) :
    PS X (.Raise (some (.Call (.Name x p) [e] [] pos)) none pos') (uS X.K W (dRaise C f de)) := by
  obtain ⟨B, newId, initId, T, fI, fd, O, iC, tI, F1, hb, hm⟩ := Z
  refine ps_imp (ps_raise hc tk (pmk_x O iC tI F1 hr hb hg hm he hdb hse hpl)) ?_
  rintro D σ H ⟨ρ, M, N, en, hr2, h, l⟩
  refine ⟨ρ, M, _, _, en, hr2, h, fun v H1 d M1 s1 r1 hr1 h1 dx nd => ?_, l.ex.at en⟩
  obtain ⟨s2, hr3⟩ := Stp.new (o := .xd [(f, v)]) nd hr1
  exact l.ex _ (some dx) [(f, d)] σ _ ρ M1 (s1.trans s2) ⟨_, upd_same, v, [], rfl, r1.stp s2, rfl⟩ (en.stp (s1.trans s2)) hr3 h1
end

/-! ### try -/
abbrev DHd := Value × Option Nat × (Addr → Value → Option Addr → DS)
def sufN (io : Option Nat) (N : DN) : DN := match io with
  | some i => { nx := fun ρ M => N.nx (ρ.set i none) M, rt := N.rt, bk := fun ρ M => N.bk (ρ.set i none) M, ct := fun ρ M => N.ct (ρ.set i none) M }
  | none => { nx := N.nx, rt := N.rt, bk := N.bk, ct := N.ct }
def bindX (io : Option Nat) (ρ : DR) (d : D) : DR := match io with
  | some i => ρ.set i (some d)
  | none => ρ
def catchD (io : Option Nat) (ds : Addr → Value → Option Addr → DS) (N : DN) (x : Xc) (ρ : DR) (M : DM) : Prop := match x.2 with
  | [] => ∀ a od, ds a x.1 od (sufN io N) (bindX io ρ (.ref a)) M
  | [(f, d)] => ∀ a dd, ds a x.1 (some dd) (sufN io N) (bindX io ρ (.exc a dd f d)) M
  | _ => False
def dHand (exm : Value → Value → Option Bool) : List DHd → DN → Xc → DR → DM → Prop
  | [], N, x, ρ, M => N.ex x ρ M
  | (c, io, ds) :: r, N, x, ρ, M => ∃ b, exm x.1 c = some b ∧ (b = true → catchD io ds N x ρ M) ∧ (b = false → dHand exm r N x ρ M)
def dTry (exm : Value → Value → Option Bool) (db : DS) (hs : List DHd) : DS := fun N ρ M => db { N with ex := fun x ρ1 M1 => dHand exm hs N x ρ1 M1 } ρ M
def rdH (K : PySem.W.Frag) (hs : List DHd) : List Hd := hs.map fun h => (h.1, h.2.1, fun a cls d => uS K W0 (h.2.2 a cls d))
section
variable {K : PySem.W.Frag} {W : WX} {H : Hp} {M : DM} {N : DN} {Z : Ends}
theorem En.unset {σ : L2.St} {ρ : DR} (e : En K H M σ ρ) (i : Nat) : En K H M (σ.set i none) (ρ.set i none) := e.clr i
theorem suf_ld (l : LdN K W H M N Z) (io : Option Nat) : LdN K W0 H M (sufN io N) (sufE io Z) := by
  cases io with
  | none => exact ⟨l.nx, l.rt, l.bk, l.ct, fun _ _ _ _ _ _ _ _ _ _ _ z => z.elim⟩
  | some i =>
    exact ⟨fun σ' H' ρ' M' s en hr q => l.nx _ H' _ M' s (en.clr i) hr q, l.rt, fun σ' H' ρ' M' s en hr q => l.bk _ H' _ M' s (en.clr i) hr q, fun σ' H' ρ' M' s en hr q => l.ct _ H' _ M' s (en.clr i) hr q, fun _ _ _ _ _ _ _ _ _ _ _ z => z.elim⟩
theorem bind_en {σ : L2.St} {ρ : DR} {a : Addr} {d : D} (e : En K H M σ ρ) (r : R K H M (.ref a) d) (io : Option Nat) : En K H M (bindE io σ a) (bindX io ρ d) := by
  cases io with
  | none => exact e
  | some i => exact e.set i r
theorem catch_in {io : Option Nat} {ds : Addr → Value → Option Addr → DS} {c : Value} {od : Option Addr} {fs : List (Str × D)} {σ : L2.St} {ρ : DR} (l : LdN K W H M N Z) (xr : XdR K H M od fs) (en : En K H M σ ρ) (hr : HR K H M) (h : catchD io ds N (c, fs) ρ M) (a : Addr) :
    uS K W0 (ds a c od) (sufE io Z) (bindE io σ a) H := by
  match fs, xr, h with
  | [], xr, h => exact ⟨_, M, _, bind_en en R.refI io, hr, h a od, suf_ld l io⟩
  | [(f, d)], xr, h =>
    cases od with
    | none => cases xr
    | some dd =>
      obtain ⟨gs, e1, y, r, e2, r1, e3⟩ := xr
      cases e3
      subst e2
      refine ⟨_, M, _, bind_en en ?_ io, hr, h a dd, suf_ld l io⟩
      unfold R
      exact ⟨rfl, y, e1, r1⟩
  | _ :: _ :: _, _, h => exact h.elim
theorem hand_in : ∀ (hs : List DHd) {c : Value} {od : Option Addr} {fs : List (Str × D)} {σ : L2.St} {ρ : DR} {H : Hp} {M : DM}, LdN K W H M N Z → XdR K H M od fs → En K H M σ ρ → HR K H M → dHand (PySem.W.exmOne K) hs N (c, fs) ρ M → wHds K W Z (rdH K hs) c od σ H
  | [], c, od, fs, σ, ρ, H, M, l, xr, en, hr, h => l.ex c od fs σ H ρ M .refl xr en hr h
  | (k, io, ds) :: r, c, od, fs, σ, ρ, H, M, l, xr, en, hr, h => by
    obtain ⟨b, e, yes, no⟩ := h
    exact ⟨b, e, fun z a _ => catch_in l xr en hr (yes z) a, fun z => hand_in r l xr en hr (no z)⟩
end
section
variable {X : Cx} {W : WX} {body : List Stmt} {h0 : ExceptHandler} {hds : List ExceptHandler} {hs : List DHd} {db : DS} {pos : Pos}
theorem dz_try (hN : X.N.Nodup) (hst : X.stack = X.env :: X.outer) (hf : X.env.frame = some X.env.locals) (tk : Takes X W)
    (hb : ∀ (W : WX) (pn : List (Addr × Obj)) (xe : Value → Shared → Prop), Takes (X.tr pn xe) W → PassesOwn (model X.prog X.w) X.A X.env xe → PSs (X.tr pn xe) body (uS X.K W db)) (hh : HdsX X (h0 :: hds) (rdH X.K hs)) :
    PS X (.Try body (h0 :: hds) [] [] pos) (uS X.K W (dTry (PySem.W.exmOne X.K) db hs)) := by
  refine ps_imp (ps_try_hds (tb := fun W => uS X.K W db) hN hst hf tk hb hh) ?_
  rintro D σ H ⟨ρ, M, N, en, hr, h, l⟩
  exact ⟨ρ, M, _, en, hr, h, l.nx, l.rt, l.bk, l.ct, fun c od fs σ' H' ρ' M' s xr en' hr' q => hand_in hs (l.stp s) xr en' hr' q⟩
/-- e.f, e the exception that the suite holds -/
def dXf (a : Addr) (cls : Value) (od : Option Addr) (C : Addr) (i : Nat) (f : Str) : DE := fun ρ M Q _ => match ρ[i]?, od with
  | some (some (.exc a' d' f' x)), some d => a' = a ∧ d' = d ∧ f' = f ∧ cls = .ref C ∧ Q x M
  | _, _ => False
theorem dd_xf {a C : Addr} {oe : Obj} {cls : Value} {d : Option Addr} {pn : List (Addr × Obj)} {i : Nat} {n f : Str} {p1 p2 : Pos} (T : XfC X.K C) (hno : PySem.W.findIn X.K (.ref C) f = some none) (hz : Zc cls d oe) (hf : ∃ vs, oe.data = .fields vs)
    (hN : X.N[i]? = some n) (hv : Vis X.env.scope n) (hd : (n == ("__debug__" : Str)) = false := by decide) (hcd : (n == ("__classdict__" : Str)) = false := by decide) (hb : attributeBase (.Name n p1) f X.env (eval (.Name n p1) X.env) = eval (.Name n p1) X.env := by exact rfl) :
    PE (X.suite a ((a, oe) :: pn)) (.Attribute (.Name n p1) f p2) (uE X.K W (dXf a cls d C i f)) := by
  refine pe_imp (pe_xf T hno hz hf (pe_var (X := X.suite a ((a, oe) :: pn)) (i := i) hN hv hd hcd) hb) ?_
  rintro σ H Q ⟨ρ, M, Qd, Xd, en, hr, h, q, _⟩
  unfold dXf at h
  split at h
  · rename_i a' d' f' x d2 e1
    obtain ⟨rfl, rfl, rfl, rfl, h⟩ := h
    obtain ⟨v, e2, r⟩ := en.2 i _ e1
    have r' := r
    unfold R at r'
    obtain ⟨rfl, y, e3, ry⟩ := r'
    exact ⟨_, e2, rfl, rfl, d', _, y, rfl, e3, by simp, q y H x M .refl ry hr h⟩
  · exact h.elim
end
end DL

set_option Elab.async false
set_option linter.all false
set_option maxRecDepth 100000
set_option maxHeartbeats 4000000
/-! isinstance, all, sum, is None, a tuple many times, {}, defs as values. -/
namespace DL
open PySem PySem.Spec L2
section
variable {K : PySem.W.Frag} {H : Hp} {M : DM} {X : Cx} {W : WX} {v : V} {d : D}
def tyD (M : DM) : D → Option String
  | .non => some "NoneType"
  | .bl _ => some "bool"
  | .int _ => some "int"
  | .str _ => some "str"
  | .tup _ => some "tuple"
  | .lst _ => some "list"
  | .seq _ => some "list"
  | .dct _ _ => some "dict"
  | .ref a => match M a with
    | some (.lst _) => some "list"
    | some (.dct _ _) => some "dict"
    | _ => none
  | _ => none
theorem sqT_ty {a : Addr} {xs : List V} (h : SqT K H a xs) : TyX K H (.ref a) (.type "tuple") := by
  rcases h with (h | ⟨o, h⟩) | ⟨o, its, n, e, c, _⟩
  · exact .base (.tup h)
  · exact .fTuple h
  · exact .kTuple e c
theorem sqL_ty {a : Addr} {xs : List V} (h : SqL K H a xs) : TyX K H (.ref a) (.type "list") := by
  rcases h with (h | ⟨o, h⟩) | ⟨o, its, n, e, c, _⟩
  · exact .base (.lst h)
  · exact .base (.frz h)
  · exact .kList e c
theorem tyD_of {t : String} (hr : HR K H M) (r : R K H M v d) (h : tyD M d = some t) : TyX K H v (.type t) := by
  cases d with
  | non => cases h; unfold R at r; rw [r]; exact .base .non
  | bl b => cases h; rw [r.bl_v]; exact .base (.bl b)
  | int b => cases h; rw [r.int_v]; exact .base (.int b)
  | str b => cases h; rw [r.str_v]; exact .base (.str b)
  | ty n => cases h
  | exc a d f x => cases h
  | tup ds =>
    cases h
    obtain ⟨a, xs, e, h1, _⟩ := r.tup_v
    rw [e]
    exact sqT_ty h1
  | lst ds =>
    cases h
    obtain ⟨a, xs, e, h1, _⟩ := r.lst_v
    rw [e]
    exact .base (.lst h1)
  | seq ds =>
    cases h
    obtain ⟨a, xs, e, h1, _⟩ := r.seq_v
    rw [e]
    exact sqL_ty h1
  | dct ks ds =>
    cases h
    unfold R at r
    obtain ⟨a, xs, e, h1, _⟩ := r
    rw [e]
    exact .base (.dK h1)
  | ref a =>
    have e := r.ref_v
    unfold tyD at h
    cases q : M a with
    | none => simp [q] at h
    | some o =>
      have z := hr a o q
      cases o with
      | lst ds =>
        simp [q] at h
        subst h
        obtain ⟨_, xs, h1, _⟩ := z
        rw [e]
        exact .base (.lst h1)
      | dct ks ds =>
        simp [q] at h
        subst h
        obtain ⟨_, _, xs, h1, _⟩ := z
        rw [e]
        exact .base (.dK h1)
      | ins C fs => simp [q] at h
def isiF (ds : List D) (M : DM) (Q : DK) : Prop := match ds with
  | [x, .ty T] => onO (tyD M x) fun t => onO (kitB t T) fun b => Q (.bl b) M
  | _ => False
theorem cv_isi : CaV K (rIsi K) isiF := by
  intro H M vs ds Q Qd hr ra h q
  unfold isiF at h
  split at h
  · rename_i x T
    obtain ⟨v, w, e, r1, r2⟩ := ra.two
    obtain ⟨t, e1, h1⟩ := onO_of h
    obtain ⟨b, e2, h2⟩ := onO_of h1
    have e3 : w = .ty T := by unfold R at r2; exact r2
    exact ⟨v, w, .type t, .type T, b, e, e3 ▸ .ty T, tyD_of hr r1 e1, kit_ty e2, q _ H _ M .refl R.blI hr h2⟩
  · exact h.elim
theorem dd_ty {x : Str} {T : String} {pos : Pos} (hg : Gl X x) (hm : X.mg x = none) (hv : bootBuiltins x = some (.type T)) (hn : x ≠ "__name__" := by decide) (hd : (x == ("__debug__" : Str)) = false := by decide) : PE X (.Name x pos) (uE X.K W (dC (.ty T))) :=
  dd_c (pe_bltn (v := .ty T) hg hm hv rfl hn hd) fun _ _ => by unfold R; rfl
/-- a def as a value -/
theorem dd_glob {x : Str} {a : Addr} {pos : Pos} (hg : Gl X x) (hm : X.mg x = some (.ref a)) (hd : (x == ("__debug__" : Str)) = false := by decide) : PE X (.Name x pos) (uE X.K W (dC (.ref a))) :=
  dd_c (pe_glob (v := .ref a) hg hm rfl hd) fun _ _ => R.refI
/-! ### all, any, sum of a list -/
def allB (ds : List D) : Option (List Bool) := match ds with
  | [] => some []
  | .bl b :: r => (allB r).map (b :: ·)
  | _ => none
theorem allB_of : ∀ {ds : List D} {bs : List Bool} {xs : List V}, RA K H M xs ds → allB ds = some bs → xs = bs.map V.bl
  | [], bs, xs, r, h => by
    unfold RA at r
    cases h
    exact r
  | d :: ds, bs, xs, r, h => by
    unfold RA at r
    obtain ⟨x, ys, e, h1, h2⟩ := r
    unfold allB at h
    split at h
    · rename_i e2; cases e2
    · rename_i b r2 e2
      cases e2
      obtain ⟨cs, h3, rfl⟩ := Option.map_eq_some_iff.mp h
      rw [e, h1.bl_v, allB_of h2 h3] <;> rfl
    · cases h
theorem allB_map {α : Type} (f : α → Bool) : ∀ xs : List α, allB (xs.map fun x => D.bl (f x)) = some (xs.map f)
  | [] => rfl
  | x :: xs => by
    simp only [List.map_cons, allB, allB_map f xs, Option.map_some]
def allF (ds : List D) (M : DM) (Q : DK) : Prop := on1 ds fun d => onO (lstM M d) fun es => onO (allB es) fun bs => Q (.bl (bs.all id)) M
def anyF (ds : List D) (M : DM) (Q : DK) : Prop := on1 ds fun d => onO (lstM M d) fun es => onO (allB es) fun bs => Q (.bl (bs.any id)) M
theorem cv_all : CaV K (rAll K) allF := by
  intro H M vs ds Q Qd hr ra h q
  obtain ⟨v, d, e, r, h1⟩ := on1_of ra h
  obtain ⟨es, e1, h2⟩ := onO_of h1
  obtain ⟨bs, e2, h3⟩ := onO_of h2
  obtain ⟨a, xs, e3, h4, h5⟩ := lstM_of hr r e1
  have e4 := allB_of h5 e2
  subst e4
  exact ⟨a, bs, by rw [e, e3], SqL.of h4, q _ H _ M .refl R.blI hr h3⟩
theorem cv_any : CaV K (rAny K) anyF := by
  intro H M vs ds Q Qd hr ra h q
  obtain ⟨v, d, e, r, h1⟩ := on1_of ra h
  obtain ⟨es, e1, h2⟩ := onO_of h1
  obtain ⟨bs, e2, h3⟩ := onO_of h2
  obtain ⟨a, xs, e3, h4, h5⟩ := lstM_of hr r e1
  have e4 := allB_of h5 e2
  subst e4
  exact ⟨a, bs, by rw [e, e3], SqL.of h4, q _ H _ M .refl R.blI hr h3⟩
/-! ### is None -/
def isNonD : D → Bool
  | .non => true
  | _ => false
theorem isNon_of (r : R K H M v d) : decide (v = .non) = isNonD d := by
  cases d with
  | non => unfold R at r; rw [r]; rfl
  | bl b => rw [r.bl_v]; rfl
  | int b => rw [r.int_v]; rfl
  | str b => rw [r.str_v]; rfl
  | ty n => unfold R at r; rw [r]; rfl
  | ref a => rw [r.ref_v]; rfl
  | exc a d f x => unfold R at r; rw [r.1]; rfl
  | tup ds => obtain ⟨a, xs, e, _⟩ := r.tup_v; rw [e]; rfl
  | lst ds => obtain ⟨a, xs, e, _⟩ := r.lst_v; rw [e]; rfl
  | seq ds => obtain ⟨a, xs, e, _⟩ := r.seq_v; rw [e]; rfl
  | dct ks ds =>
    unfold R at r
    obtain ⟨a, xs, e, _⟩ := r
    rw [e]; rfl
def dIsN (de : DE) : DE := fun ρ M Q Xd => de ρ M (fun d M1 => Q (.bl (isNonD d)) M1) Xd
def dNotN (de : DE) : DE := fun ρ M Q Xd => de ρ M (fun d M1 => Q (.bl (!isNonD d)) M1) Xd
variable {a b : Expr} {da : DE} {pos pos' : Pos} {j : Nat}
theorem isN_in (σ : L2.St) (H : Hp) (Q : VK) : uE X.K W (dIsN da) σ H Q → tIsN (uE X.K W da) σ H Q := fun ⟨ρ, M, Qd, Xd, en, hr, h, q, x⟩ =>
  ⟨ρ, M, _, Xd, en, hr, h, fun v H1 d M1 s1 r1 hr1 h1 => by
    dsimp only
    rw [isNon_of r1]
    exact q _ H1 _ M1 s1 R.blI hr1 h1, x⟩
theorem notN_in (σ : L2.St) (H : Hp) (Q : VK) : uE X.K W (dNotN da) σ H Q → tNotN (uE X.K W da) σ H Q := fun ⟨ρ, M, Qd, Xd, en, hr, h, q, x⟩ =>
  ⟨ρ, M, _, Xd, en, hr, h, fun v H1 d M1 s1 r1 hr1 h1 => by
    dsimp only
    rw [isNon_of r1]
    exact q _ H1 _ M1 s1 R.blI hr1 h1, x⟩
theorem dd_isN (ha : PE X a (uE X.K W da)) : PE X (.Compare a [.Is] [.Constant .none j pos'] pos) (uE X.K W (dIsN da)) := pe_imp (pe_cmp (pc_isN ha)) isN_in
theorem dd_notN (ha : PE X a (uE X.K W da)) : PE X (.Compare a [.IsNot] [.Constant .none j pos'] pos) (uE X.K W (dNotN da)) := pe_imp (pe_cmp (pc_notN ha)) notN_in
theorem bl_in {de : DE} (σ : L2.St) (H : Hp) (Q : Bool → Hp → Prop) : uT X.K W (dTest de) σ H Q → tB (uE X.K W de) σ H Q := fun ⟨ρ, M, Qd, Xd, en, hr, h, q, x⟩ => ⟨ρ, M, _, Xd, en, hr, h, fun v H1 d M1 s1 r1 hr1 h1 => by
  obtain ⟨k, _, e, h2⟩ := isBl r1 h1
  exact ⟨k, e, q k H1 M1 s1 hr1 h2⟩, x⟩
theorem dt_isN (ha : PE X a (uE X.K W da)) : PT X (.Compare a [.Is] [.Constant .none j pos'] pos) (uT X.K W (dTest (dIsN da))) := pt_imp (pt_cmp (pc_isN ha)) fun σ H Q h => by
  have := bl_in σ H Q h
  exact isN_in σ H _ this
theorem dt_notN (ha : PE X a (uE X.K W da)) : PT X (.Compare a [.IsNot] [.Constant .none j pos'] pos) (uT X.K W (dTest (dNotN da))) := pt_imp (pt_cmp (pc_notN ha)) fun σ H Q h => by
  have := bl_in σ H Q h
  exact notN_in σ H _ this
/-! ### a tuple, many times; {} -/
def mulTF : F2 := fun x y M Q => match x, y with
  | .tup a, .int k => a ≠ [] ∧ 2 ≤ k ∧ k ≤ 1000 ∧ a.length ≤ 1000 ∧ Q (.tup (List.replicate k.toNat a).flatten) M
  | _, _ => False
theorem ov_mulT : OpV K (rRepT K) mulTF := by
  intro H M v w x y Q Qd hr rx ry h q
  unfold mulTF at h
  split at h
  · rename_i es k
    obtain ⟨l, xs, e, h1, h2⟩ := rx.tup_v
    refine ⟨l, k, xs, e, ry.int_v, h1, ?_, h.2.1, h.2.2.1, by rw [h2.len]; exact h.2.2.2.1, fun p hp => ?_⟩
    · intro z
      have := h2.len
      rw [z] at this
      exact h.1 (List.eq_nil_of_length_eq_zero this.symm)
    · obtain ⟨s, r, hr2⟩ := newTup hr hp (h2.rep k.toNat)
      exact q _ _ _ M s r hr2 h.2.2.2.2
  · exact h.elim
def dNew : DE := fun _ M Q _ => Q (.dct [] []) M
theorem dd_new : PE X (.Dict [] [] pos) (uE X.K W dNew) := pe_imp pe_dnewK fun σ H Q ⟨ρ, M, Qd, Xd, en, hr, h, q, x⟩ p hp => by
  obtain ⟨s, hr1⟩ := Stp.new (o := .dK []) hp hr
  refine q _ _ _ M s ?_ hr1 h
  unfold R
  exact ⟨p, [], rfl, upd_same, hr.none hp, rfl, .nil⟩
/-- a def held by a name of the def, called -/
def dFnV (cs : Addr → Option DSp) (n i : Nat) (da : DA) : DE := fun ρ M Q Xd => match ρ[i]? with
  | some (some (.ref f)) => onO (cs f) fun sp => da ρ M (fun ds M1 => ds.length = n ∧ sp ds M1 Q Xd) Xd
  | _ => False
def CalV (X : Cx) (n : Nat) (f : Addr) (sp : DSp) : Prop := ∃ (k : Nat) (ps : List Str) (fd : FuncData), ps.length = n ∧ PySem.W.keepIn X.K (.ref f) = true ∧ Bd fd ps ∧ FnG X.prog X.w X.K X.mg X.base k f fd ps (spD X.K ps.length sp) ∧ Room k X.A
theorem dd_fnV {x : Str} {p : Pos} {i n : Nat} {cs : Addr → Option DSp} {e : Expr} {es : List Expr} {dag : DA} (hc : ∀ f sp, cs f = some sp → CalV X n f sp) (hgd : X.A.guards = some []) (hN : X.N[i]? = some x) (hv : Vis X.env.scope x) (tk : Takes X W) (ha : PA X (e :: es) (uA X.K W dag)) (hd : (x == ("__debug__" : Str)) = false := by decide)
    (hcd : (x == ("__classdict__" : Str)) = false := by decide) (he : starEach (e :: es) X.env = (false, eval e X.env) :: starEach es X.env := by exact rfl) (hpl : (backTo pos (starEach es X.env)).any (·.1) = false := by exact rfl) :
    PE X (.Call (.Name x p) (e :: es) [] pos) (uE X.K W (dFnV cs n i dag)) := by
  constructor
  rintro pins s σ H Q I ⟨ρ, M, Qd, Xd, en, hr2, h, q, x2⟩
  unfold dFnV at h
  split at h
  · rename_i f e1
    obtain ⟨sp, e2, h⟩ := onO_of h
    obtain ⟨k, ps, fd, rfl, hk, hb, F, hr⟩ := hc f sp e2
    obtain ⟨v, e3, r3⟩ := en.2 i _ e1
    have e4 := r3.ref_v
    subst e4
    refine wpAny_Call_Name_kw (thn ((pe_var (pos := p) hN hv hd hcd).run pins s σ H (fun v H1 => v = .ref f ∧ H1 = H) I ⟨.ref f, e3, rfl, rfl⟩) ?_)
    rintro u s0 ⟨v, H0, I0, r0, rfl, rfl⟩
    cases (show u = Value.ref f from r0)
    refine PySem.W.callWith_K (h₀ := X.base) I.ok.mod.kin hk (thn (ha.run pos pins s0 σ H0 (fun vs H1 => spD X.K ps.length sp vs H1 Q (WE W σ)) I0 ⟨ρ, M, _, Xd, en, hr2, h, fun vs H1 ds M1 s1 r1 hr1 h1 => ⟨ds, M1, Qd, Xd, h1.1, r1, hr1, h1.2, q.stp s1, fun c od fs H' M' s2 xr hr2 h2 => x2 c od fs H' M' (s1.trans s2) xr hr2 h2⟩, x2⟩) ?_) he hpl
    rintro us s1 ⟨vs, H1, I1, r, q1⟩
    exact ⟨I1.kIn, run_fnG F hr hgd hb (passAt tk σ) I1 r q1⟩
  · exact h.elim
end
end DL

set_option Elab.async false
set_option linter.all false
set_option maxRecDepth 100000
set_option maxHeartbeats 4000000
/-! methods of lists and texts. -/
namespace DL
open PySem PySem.Spec L2
section
variable {K : PySem.W.Frag} {H : Hp} {M : DM} {X : Cx} {W : WX} {v : V} {d : D}
/-- is of the type whose method is called -/
def tyIs (T : String) (M : DM) (d : D) : Prop := (T = "list" ∧ (lstM M d).isSome = true) ∨ (T = "str" ∧ ∃ x, d = .str x)
theorem tyIs_of {T : String} (hr : HR K H M) (r : R K H M v d) (h : tyIs T M d) : tyV K T v H := by
  rcases h with ⟨rfl, h⟩ | ⟨rfl, x, rfl⟩
  · obtain ⟨ds, e⟩ := Option.isSome_iff_exists.mp h
    obtain ⟨a, xs, e2, h1, _⟩ := lstM_of hr r e
    rw [e2]
    exact .inl ⟨rfl, _, SqL.of h1⟩
  · rw [r.str_v]
    exact rfl
abbrev FM := D → List D → DM → DK → Prop
def MtV (K : PySem.W.Frag) (r : V → List V → Hp → VK → Prop) (f : FM) : Prop := ∀ H M v vs x ds Q Qd, HR K H M → R K H M v x → RA K H M vs ds → f x ds M Qd → LdV K H M Qd Q → r v vs H Q
def dMt (T : String) (f : FM) (do_ : DE) (da : DA) : DE := fun ρ M Q Xd => do_ ρ M (fun o M1 => tyIs T M1 o ∧ da ρ M1 (fun ds M2 => f o ds M2 Q) Xd) Xd
variable {o e : Expr} {es : List Expr} {do_ : DE} {dag : DA} {name : Str} {apos cpos : Pos} {T id : String} {r : V → List V → Hp → VK → Prop} {f : FM}
theorem dd_mt (pa : PlainAttrs T) (slot : Slot T name id) (hty : typeOf (.builtin id) = pure (.type "method_descriptor")) (hm : MtR X id r) (hv : MtV X.K r f) (ho : PE X o (uE X.K W do_)) (ha : PA X (e :: es) (uA X.K W dag))
    (hbase : attributeBase o name X.env (eval o X.env) = eval o X.env := by exact rfl)
    (hfew : ((backTo cpos (starEach (e :: es) X.env)).all (fun x => !x.1) && (backToKw cpos (keywordEach [] X.env)).all (fun x => x.1.isSome) && decide ((e :: es).length + ([] : List Keyword).length + (if ([] : List Keyword).isEmpty then 0 else 1) < 30)) = true := by exact rfl)
    (hline : (apos.endLine == cpos.line) = true := by exact rfl) (hs : starEach (e :: es) X.env = (false, eval e X.env) :: starEach es X.env := by exact rfl) (hplain : (backTo cpos (starEach es X.env)).any (·.1) = false := by exact rfl) :
    PE X (.Call (.Attribute o name apos) (e :: es) [] cpos) (uE X.K W (dMt T f do_ dag)) :=
  pe_imp (pe_bm pa slot hty hm ho ha hbase hfew hline hs hplain) fun σ H Q ⟨ρ, M, Qd, Xd, en, hr, h, q, x⟩ => ⟨ρ, M, _, Xd, en, hr, h, fun v H1 d M1 s1 r1 hr1 h1 =>
    ⟨tyIs_of hr1 r1 h1.1, ρ, M1, _, Xd, en.stp s1, hr1, h1.2, fun vs H2 ds M2 s2 r2 hr2 h2 => hv H2 M2 v vs d ds Q Qd hr2 (r1.stp s2) r2 h2 (q.stp (s1.trans s2)), x.stp s1⟩, x⟩
theorem dd_mt0 (pa : PlainAttrs T) (slot : Slot T name id) (hty : typeOf (.builtin id) = pure (.type "method_descriptor")) (hm : MtR X id r) (hv : MtV X.K r f) (ho : PE X o (uE X.K W do_))
    (hbase : attributeBase o name X.env (eval o X.env) = eval o X.env := by exact rfl) (hline : (apos.endLine == cpos.line) = true := by exact rfl) : PE X (.Call (.Attribute o name apos) [] [] cpos) (uE X.K W (dMt T f do_ dNil)) :=
  pe_imp (pe_bm0 pa slot hty hm ho hbase hline) fun σ H Q ⟨ρ, M, Qd, Xd, en, hr, h, q, x⟩ => ⟨ρ, M, _, Xd, en, hr, h, fun v H1 d M1 s1 r1 hr1 h1 => ⟨tyIs_of hr1 r1 h1.1, hv H1 M1 v [] d [] Q Qd hr1 r1 .nil h1.2 (q.stp s1)⟩, x⟩
/-! ### append, pop -/
def onM (M : DM) (d : D) (k : Addr → List D → Prop) : Prop := match d with
  | .ref a => match M a with
    | some (.lst ds) => k a ds
    | _ => False
  | _ => False
theorem onM_of {k : Addr → List D → Prop} (hr : HR K H M) (r : R K H M v d) (h : onM M d k) : ∃ a ds xs, d = .ref a ∧ v = .ref a ∧ M a = some (.lst ds) ∧ noLs ds = true ∧ H a = some (.lst xs) ∧ RA K H M xs ds ∧ k a ds := by
  unfold onM at h
  split at h
  · rename_i a
    split at h
    · rename_i ds e
      obtain ⟨n, xs, h1, h2⟩ := hr a _ e
      exact ⟨a, ds, xs, rfl, r.ref_v, e, n, h1, h2, h⟩
    · exact h.elim
  · exact h.elim
theorem wrLst {a : Addr} {ds es : List D} {xs ys : List V} (hr : HR K H M) (e : M a = some (.lst ds)) (h : H a = some (.lst xs)) (n : noLs es = true) (r : RA K H M ys es) :
    Stp K H M (upd H a (.lst ys)) (put M a (.lst es)) ∧ HR K (upd H a (.lst ys)) (put M a (.lst es)) :=
  Stp.wr (o' := .lst ys) (u' := .lst es) e h (fun _ z => nomatch z) (fun _ _ z => nomatch z) (fun _ z => nomatch z) hr fun s => ⟨n, ys, upd_same, r.stp s⟩
def appF : FM := fun o ds M Q => on1 ds fun y => onM M o fun a es => es.length < sizeLine ∧ noL y = true ∧ Q .non (put M a (.lst (es ++ [y])))
theorem mv_append : MtV K rAppend appF := by
  intro H M v vs x ds Q Qd hr rx ra h q
  obtain ⟨w, y, e, ry, h1⟩ := on1_of ra h
  obtain ⟨a, es, xs, rfl, e2, e3, n, e4, h2, h3⟩ := onM_of hr rx h1
  obtain ⟨s, hr2⟩ := wrLst (es := es ++ [y]) hr e3 e4 (by rw [noLs_app, n, noLs_cons, h3.2.1, noLs_nil]; rfl) (h2.snoc ry)
  exact ⟨a, xs, w, e2, e, e4, by rw [h2.len]; exact h3.1, q _ _ _ _ s R.nonI hr2 h3.2.2⟩
def popF : FM := fun o ds M Q => match ds with
  | [] => onM M o fun a es => onO es.getLast? fun y => Q y (put M a (.lst es.dropLast))
  | _ => False
theorem noLs_mem : ∀ {ds : List D}, noLs ds = true → ∀ d ∈ ds, noL d = true
  | [], _, d, h => nomatch h
  | e :: ds, n, d, h => by
    rw [noLs_cons, Bool.and_eq_true] at n
    rcases List.mem_cons.mp h with rfl | h
    · exact n.1
    · exact noLs_mem n.2 d h
theorem noLs_take : ∀ {ds : List D} (k : Nat), noLs ds = true → noLs (ds.take k) = true
  | ds, 0, _ => by rw [List.take_zero]; exact noLs_nil
  | [], k + 1, _ => noLs_nil
  | d :: ds, k + 1, n => by
    rw [noLs_cons, Bool.and_eq_true] at n
    rw [List.take_succ_cons, noLs_cons, n.1, noLs_take k n.2]
    rfl
theorem mv_pop : MtV K rPop popF := by
  intro H M v vs x ds Q Qd hr rx ra h q
  unfold popF at h
  split at h
  · unfold RA at ra
    subst ra
    obtain ⟨a, es, xs, rfl, e2, e3, n, e4, h2, h3⟩ := onM_of hr rx h
    obtain ⟨y, e5, h4⟩ := onO_of h3
    have e6 : es[es.length - 1]? = some y := by rw [← List.getLast?_eq_getElem?]; exact e5
    obtain ⟨w, e7, ry⟩ := h2.get e6
    obtain ⟨s, hr2⟩ := wrLst (es := es.dropLast) (ys := xs.dropLast) hr e3 e4 (by rw [List.dropLast_eq_take]; exact noLs_take _ n) (by rw [List.dropLast_eq_take, List.dropLast_eq_take, h2.len]; exact h2.take _)
    exact ⟨a, xs, w, e2, rfl, e4, by rw [h2.len]; exact e7, q _ _ _ _ s (ry.stp s) hr2 h4⟩
  · exact h.elim
/-! ### join -/
def strB (ds : List D) : Option (List Str) := match ds with
  | [] => some []
  | .str b :: r => (strB r).map (b :: ·)
  | _ => none
theorem strB_of : ∀ {ds : List D} {bs : List Str} {xs : List V}, RA K H M xs ds → strB ds = some bs → xs = bs.map V.str
  | [], bs, xs, r, h => by
    unfold RA at r
    cases h
    exact r
  | d :: ds, bs, xs, r, h => by
    unfold RA at r
    obtain ⟨x, ys, e, h1, h2⟩ := r
    unfold strB at h
    split at h
    · rename_i e2; cases e2
    · rename_i b r2 e2
      cases e2
      obtain ⟨cs, h3, rfl⟩ := Option.map_eq_some_iff.mp h
      rw [e, h1.str_v, strB_of h2 h3] <;> rfl
    · cases h
theorem strB_map {α : Type} (f : α → Str) : ∀ xs : List α, strB (xs.map fun x => D.str (f x)) = some (xs.map f)
  | [] => rfl
  | x :: xs => by
    simp only [List.map_cons, strB, strB_map f xs, Option.map_some]
def joinF : FM := fun o ds M Q => on1 ds fun d => onSeq M d fun es => onO (strB es) fun ys => match o with
  | .str a => (ys.map (·.length)).sum + ys.length * a.length ≤ 16777216 ∧ Q (.str (Txt.join a ys)) M
  | _ => False
def rJoin (K : PySem.W.Frag) : V → List V → Hp → VK → Prop := fun x xs H Q => ∃ a p, ∃ ys : List Str, x = .str a ∧ xs = [.ref p] ∧ (SqL K H p (ys.map V.str) ∨ SqT K H p (ys.map V.str)) ∧ (ys.map (·.length)).sum + ys.length * a.length ≤ 16777216 ∧ Q (.str (Txt.join a ys)) H
theorem mt_joinD : MtR X "str.join" (rJoin X.K) := mt_join
theorem mv_join : MtV K (rJoin K) joinF := by
  intro H M v vs x ds Q Qd hr rx ra h q
  obtain ⟨w, d, e, rd, h1⟩ := on1_of ra h
  obtain ⟨p, xs, es, e2, sq, r3, h2⟩ := onSeq_of hr rd h1
  obtain ⟨ys, e3, h3⟩ := onO_of h2
  split at h3
  · rename_i a
    have e4 := strB_of r3 e3
    subst e4
    exact ⟨a, p, ys, rx.str_v, by rw [e, e2], sq, h3.1, q _ H _ M .refl R.strI hr h3.2⟩
  · exact h3.elim
end
end DL

set_option Elab.async false
set_option linter.all false
set_option maxRecDepth 100000
set_option maxHeartbeats 4000000
/-! the classes of exceptions of a text, told; names' addresses. -/
namespace DL
open PySem PySem.Spec L2
/-- where a module's name points -/
def xiOf (mg : Str → Option Value) (x : Str) : Addr := match mg x with
  | some (.ref a) => a
  | _ => 0
theorem xi_eq {mg : Str → Option Value} {x : Str} {a : Addr} (h : mg x = some (.ref a)) : xiOf mg x = a := by
  unfold xiOf
  rw [h]
theorem xi_mg {mg : Str → Option Value} {x : Str} (h : ∃ a, mg x = some (.ref a)) : mg x = some (.ref (xiOf mg x)) := by
  obtain ⟨a, e⟩ := h
  rw [xi_eq e, e]
def clsM (s : Stmt) (k : Nat) : Stmt := match s with
  | .ClassDef _ _ _ body _ _ _ _ _ _ _ => body.getD k s
  | s => s
/-- what is told of a class of exceptions -/
def Xf (K : PySem.W.Frag) (mg : Str → Option Value) (x qual f : Str) (B newId initId : String) (T : List Value) (st : Stmt) : Prop :=
  ∃ (C fI : Addr) (fd : FuncData), mg x = some (.ref C) ∧ OwnX K C B newId initId T ∧ PySem.W.findIn K (.ref C) "__init__" = some (some (.ref fI)) ∧ PySem.W.typeIn K (.ref fI) = some (.type "function") ∧ Fun K "__init__" qual st fI fd ∧ Bd fd ["self", f] ∧
    PySem.W.takerIn K C f = some none ∧ PySem.W.findIn K (.ref C) f = some none ∧ XfC K C
section
variable {K : PySem.W.Frag} {mg : Str → Option Value} {h : Heap} {x qual f : Str} {B newId initId : String} {T : List Value} {st : Stmt}
theorem ov_of {C N : Addr} {nm q : Str} {bs : List Value} {sn : List Str} {sub : List Value} {ab : Bool} {col : Option Bool} {dd : Option Addr} {k0 k1 k2 k3 k5 : Option Value}
    (l : K.lookup C = some (PySem.excClassObj nm q C N bs T true sn sub ab col dd k0 k1 k2 k3 k5 newId)) (ht : PySem.W.excTail T T = true) : PySem.W.excOver K C T = true := by
  have e : PySem.W.clsIn K C = some { name := nm, bases := bs, mro := .ref C :: T, ns := N, qualname := q, hasDict := true, slotNames := sn, subclasses := sub, abstract := ab, collection := col, hasDel := false } := by
    unfold PySem.W.clsIn
    rw [l] <;> rfl
  unfold PySem.W.excOver
  rw [e]
  show (C == C && PySem.W.excTail T T) = true
  rw [ht]
  simp
theorem exm_mk {A C N : Addr} {b : Bool} {nm q : Str} {bs : List Value} {sn : List Str} {sub : List Value} {ab : Bool} {col : Option Bool} {dd : Option Addr} {k0 k1 k2 k3 k5 : Option Value}
    (l : K.lookup C = some (PySem.excClassObj nm q C N bs T true sn sub ab col dd k0 k1 k2 k3 k5 newId)) (exC : PySem.W.subIn K (.ref C) (.type "BaseException") = some true) (tyC : PySem.W.typeIn K (.ref C) = some (.type "type")) (s : PySem.W.subIn K (.ref A) (.ref C) = some b) : PySem.W.exmOne K (.ref A) (.ref C) = some b := by
  have e : PySem.W.clsIn K C = some { name := nm, bases := bs, mro := .ref C :: T, ns := N, qualname := q, hasDict := true, slotNames := sn, subclasses := sub, abstract := ab, collection := col, hasDel := false } := by
    unfold PySem.W.clsIn
    rw [l] <;> rfl
  unfold PySem.W.exmOne
  rw [exC, if_pos (by decide)]
  show (if ((PySem.W.clsIn K C).isSome && PySem.W.typeIn K (.ref C) == some (.type "type")) = true then PySem.W.subIn K (.ref A) (.ref C) else none) = some b
  rw [e, tyC, if_pos (by simp)]
  exact s
theorem xf_mk (Bx : BaseX B newId initId T) (X : K.In h) (G : h.Ns mainGlobals mg) {C fI N : Addr} {nm q : Str} {bs : List Value} {sn : List Str} {sub : List Value} {ab : Bool} {col : Option Bool} {dd : Option Addr} {k0 k1 k2 k3 k5 : Option Value} {oc kV doc pm cdv ct : Value} {od an : Option Addr} {osl : Array (Option Value)}
    (a : PySem.W.nsIn K mainGlobals x = some (some (.ref C))) (l : K.lookup C = some (PySem.excClassObj nm q C N bs T true sn sub ab col dd k0 k1 k2 k3 k5 newId)) (i : PySem.W.findIn K (.ref C) "__init__" = some (some (.ref fI))) (t : PySem.W.typeIn K (.ref fI) = some (.type "function"))
    (lf : K.lookup fI = some ⟨oc, od, .func (PySem.W.fnOf "__init__" qual (defArgs st) (defBody st) (defScope st) .none kV doc pm an cdv ct), osl⟩) (cf : PySem.W.codeIn K cdv qual = true) (kf : PySem.W.keepIn K (.ref fI) = true)
    (sa : PySem.W.findIn K (.ref C) "__setattr__" = some (some (.builtin "object.__setattr__"))) (exC : PySem.W.subIn K (.ref C) (.type "BaseException") = some true) (tyC : PySem.W.typeIn K (.ref C) = some (.type "type")) (kC : PySem.W.keepIn K (.ref C) = true)
    (tk : PySem.W.takerIn K C f = some none) (no : PySem.W.findIn K (.ref C) f = some none) (ga : PySem.W.findIn K (.ref C) "__getattribute__" = some (some (.builtin "BaseException.__getattribute__"))) (gg : PySem.W.findIn K (.ref C) "__getattr__" = some none) (hd : PySem.W.hasDictIn K C = true)
    (b : Bd (PySem.W.fnOf "__init__" qual (defArgs st) (defBody st) (defScope st) .none kV doc pm an cdv ct) ["self", f]) (tl : PySem.W.excTail T T = true := by decide) : Xf K mg x qual f B newId initId T st :=
  ⟨C, fI, _, PySem.W.mg_of X G a, ⟨Bx.fb, Bx.st, ⟨nm, q, N, bs, sn, sub, ab, col, dd, k0, k1, k2, k3, k5, l⟩, ov_of l tl, sa, exC, tyC, kC⟩, i, t, fun_mk lf cf kf, b, tk, no, ⟨ga, gg, exC, hd⟩⟩
theorem Xf.at_ (Z : Xf K mg x qual f B newId initId T st) : mg x = some (.ref (xiOf mg x)) := by
  obtain ⟨C, fI, fd, hm, _⟩ := Z
  exact xi_mg ⟨C, hm⟩
theorem Xf.fld (Z : Xf K mg x qual f B newId initId T st) : XfC K (xiOf mg x) ∧ PySem.W.findIn K (.ref (xiOf mg x)) f = some none := by
  obtain ⟨C, fI, fd, hm, _, _, _, _, _, _, no, xf⟩ := Z
  rw [xi_eq hm]
  exact ⟨xf, no⟩
variable {P : Program} {w : World} {base : Heap}
theorem Xf.cls {m : Str} {j : Nat} {q1 q2 q3 q4 q5 q6 q7 q8 q9 q10 : Pos} (Z : Xf K mg x qual f B newId initId T st) (Bx : BaseX B newId initId T) (hm : mg (B : Str) = none) (S : FnScope ["self", f] ["self", f] (defScope st))
    (hb : defBody st = [.Expr (.Call (.Attribute (.Name (B : Str) q1) "__init__" q2) [.Name "self" q3, .Constant (.str m) j q4] [] q5) q6, .Assign [.Attribute (.Name "self" q7) f q8] (.Name f q9) q10])
    (hc : ∀ env, CallShape B q1 q2 q5 [.Name "self" q3, .Constant (.str m) j q4] env) (hg : (defScope st).names.lookup (B : Str) = some .globalImplicit) (hd : (f == ("__debug__" : Str)) = false) (hcd : (f == ("__classdict__" : Str)) = false) (hs : (defScope st).names.lookup ("self" : Str) = some .local) (hf : (defScope st).names.lookup f = some .local) :
    XCls P w K mg base x (xiOf mg x) f := by
  obtain ⟨C, fI, fd, hx, O, iC, tI, F, b, tk, _⟩ := Z
  rw [xi_eq hx]
  exact ⟨B, newId, initId, T, fI, fd, O, iC, tI, ok_init Bx O tk F S hb hc hg hm hd hcd hs hf, b, hx⟩
end
/-! ### names that hold defs -/
def csel (l : List (Addr × DSp)) (f : Addr) : Option DSp := (l.find? fun p => p.1 == f).map (·.2)
theorem csel_ok {X : Cx} {n : Nat} {l : List (Addr × DSp)} (h : ∀ p ∈ l, CalV X n p.1 p.2) : ∀ f sp, csel l f = some sp → CalV X n f sp := by
  intro f sp e
  obtain ⟨p, e1, rfl⟩ := Option.map_eq_some_iff.mp e
  have e2 := List.find?_some e1
  have e3 : p.1 = f := by simpa using e2
  rw [← e3]
  exact h p (List.mem_of_find?_eq_some e1)
theorem Dg.calV {X : Cx} {x : Str} {k n : Nat} {ps : List Str} {sp : DSp} (G : Dg X.prog X.w X.K X.mg X.base x ps k sp) (hn : ps.length = n) (hr : Room k X.A) : CalV X n (xiOf X.mg x) sp := by
  obtain ⟨f, fd, hm, hk, hb, _, F⟩ := G
  rw [xi_eq hm]
  exact ⟨k, ps, fd, hn, hk, hb, F, hr⟩
theorem Dg.at {P : Program} {w : World} {K : PySem.W.Frag} {mg : Str → Option Value} {base : Heap} {x : Str} {k : Nat} {ps : List Str} {sp : DSp} (G : Dg P w K mg base x ps k sp) : mg x = some (.ref (xiOf mg x)) := by
  obtain ⟨f, fd, hm, _⟩ := G
  exact xi_mg ⟨f, hm⟩
theorem Dn.at_ {P : Program} {w : World} {K : PySem.W.Frag} {mg : Str → Option Value} {base : Heap} {x : Str} {k : Nat} {ps : List Str} {sp : DSp} (G : Dn P w K mg base x ps k sp) : mg x = some (.ref (xiOf mg x)) := by
  obtain ⟨f, fd, hm, _⟩ := G
  exact xi_mg ⟨f, hm⟩
/-- a dict that is to change -/
def dNewM : DE := fun _ M Q _ => ∀ p, M p = none → Q (.ref p) (put M p (.dct [] []))
theorem dd_newM {X : Cx} {W : WX} {pos : Pos} : PE X (.Dict [] [] pos) (uE X.K W dNewM) := pe_imp pe_dnewK fun σ H Q ⟨ρ, M, Qd, Xd, en, hr, h, q, x⟩ p hp => by
  obtain ⟨s, hr1⟩ := Stp.newM (o := .dK []) (u := .dct [] []) hp hr fun s => ⟨noLs_nil, rfl, [], upd_same, .nil⟩
  exact q _ _ _ _ s R.refI hr1 (h p (hr.none hp))
end DL

set_option Elab.async false
set_option linter.all false
set_option maxRecDepth 100000
set_option maxHeartbeats 4000000
/-! repr, of an empty dict too. -/
namespace DL
open PySem PySem.Spec L2
def rReprE : List V → Hp → VK → Prop := fun xs H Q => ∃ a, xs = [.ref a] ∧ H a = some (.dK []) ∧ Q (.str "{}") H
section
variable {X : Cx}
theorem call_reprE (hgd : X.A.guards = some []) (hu : X.A.units + 64 < cLine) : CallR X (.builtin "repr") rReprE := by
  intro pins s σ H xs us Q I r h
  obtain ⟨a, rfl, e, q⟩ := h
  obtain ⟨u, rfl, ru⟩ := vals1 r
  cases (show u = Value.ref a from ru)
  obtain ⟨z, hd, vs, rel, o, es, ep, h1, h2, h3, h4⟩ := dk_of I.hok e
  cases rel
  have em : es.toList = [] := by
    have hp := h4.2.1
    cases z2 : es.toList with
    | nil => rfl
    | cons e1 es2 =>
      rw [z2] at hp
      cases hp
  have rd : Reads s.heap (.ref a) (.dict []) [a] := by
    have := Reads.dict (kvs := []) (as := []) (bs := []) h1 h2.1 h3 (by rw [em]; exact .nil) (by rw [em]; exact .nil)
    exact this
  have sh : (PyData.dict []).shown = ("{}" : Str) := by decide +kernel
  refine repr_of_reads' rd (by decide +kernel) (fun _ => ?_) hgd ?_ (fun b o e => e) (fun h' u tk k => ?_) (by rw [sh]; decide +kernel)
  · have := hd
    simp at this ⊢
    exact fun z => this z.symm
  · have e1 : (PyData.dict []).depth ≤ 5 := by decide +kernel
    omega
  · rw [sh]
    exact ⟨.str _, H, I.kept k, ⟨_, rfl⟩, q⟩
end
/-- repr, of what data tells; an empty dict that may change, too -/
def reprXF (ds : List D) (M : DM) (Q : DK) : Prop := (ds = [.dct [] []] ∧ Q (.str "{}") M) ∨ (∃ a, ds = [.ref a] ∧ M a = some (.dct [] []) ∧ Q (.str "{}") M) ∨ reprF ds M Q
def rReprX (K : PySem.W.Frag) : List V → Hp → VK → Prop := fun xs H Q => rReprE xs H Q ∨ rRepr K xs H Q
theorem call_reprX {X : Cx} (hgd : X.A.guards = some []) (hu : X.A.units + 64 < cLine) : CallR X (.builtin "repr") (rReprX X.K) := by
  intro pins s σ H xs us Q I r h
  rcases h with h | h
  · exact call_reprE hgd hu pins s σ H xs us Q I r h
  · exact call_reprD hgd hu pins s σ H xs us Q I r h
theorem cv_reprX {K : PySem.W.Frag} : CaV K (rReprX K) reprXF := by
  intro H M vs ds Q Qd hr ra h q
  rcases h with ⟨rfl, h⟩ | ⟨a, rfl, e, h⟩ | h
  · unfold RA at ra
    obtain ⟨v, r, rfl, h1, h2⟩ := ra
    unfold RA at h2
    subst h2
    unfold R at h1
    obtain ⟨a, xs, e, h3, _⟩ := h1
    exact .inl ⟨a, by rw [e], h3, q _ H _ M .refl R.strI hr h⟩
  · unfold RA at ra
    obtain ⟨v, r, rfl, h1, h2⟩ := ra
    unfold RA at h2
    subst h2
    obtain ⟨_, l, xs, h3, h4⟩ := hr a _ e
    unfold RA at h4
    subst h4
    exact .inl ⟨a, by rw [h1.ref_v], h3, q _ H _ M .refl R.strI hr h⟩
  · exact .inr (cv_repr H M vs ds Q Qd hr ra h q)
end DL

set_option linter.all false
set_option Elab.async false
/-! Moves: matrices up to sign, in plain Lean. -/
namespace Wm
structure Mv where
  a : Int
  b : Int
  c : Int
  d : Int
  deriving DecidableEq
def Mv.l (m : Mv) : List Int := [m.a, m.b, m.c, m.d]
def neg (m : Mv) : Mv := ⟨-m.a, -m.b, -m.c, -m.d⟩
/-- first m, then n -/
def mul (m n : Mv) : Mv := ⟨n.a * m.a + n.b * m.c, n.a * m.b + n.b * m.d, n.c * m.a + n.d * m.c, n.c * m.b + n.d * m.d⟩
def det (m : Mv) : Int := m.a * m.d - m.b * m.c
def inv (m : Mv) : Mv := ⟨m.d, -m.b, -m.c, m.a⟩
def one : Mv := ⟨1, 0, 0, 1⟩
/-- the sign with the first number that is not 0 positive -/
def signed : List Int → List Int
  | [] => []
  | n :: r => if n = 0 then 0 :: signed r else if n < 0 then (n :: r).map (-·) else n :: r
def sgn (m : Mv) : Mv := if m.a < 0 ∨ m.a = 0 ∧ (m.b < 0 ∨ m.b = 0 ∧ (m.c < 0 ∨ m.c = 0 ∧ m.d < 0)) then neg m else m
theorem signed_eq (m : Mv) : signed m.l = (sgn m).l := by
  obtain ⟨a, b, c, d⟩ := m
  unfold sgn Mv.l neg signed
  dsimp only
  by_cases ha : a = 0
  · subst ha
    rw [if_pos rfl]
    unfold signed
    by_cases hb : b = 0
    · subst hb
      rw [if_pos rfl]
      unfold signed
      by_cases hc : c = 0
      · subst hc
        rw [if_pos rfl]
        unfold signed
        by_cases hd : d = 0
        · subst hd
          simp [signed]
        · rw [if_neg hd]
          by_cases h : d < 0
          · rw [if_pos h, if_pos (by omega)]
            simp
          · rw [if_neg h, if_neg (by omega)]
      · rw [if_neg hc]
        by_cases h : c < 0
        · rw [if_pos h, if_pos (by omega)]
          simp
        · rw [if_neg h, if_neg (by omega)]
    · rw [if_neg hb]
      by_cases h : b < 0
      · rw [if_pos h, if_pos (by omega)]
        simp
      · rw [if_neg h, if_neg (by omega)]
  · rw [if_neg ha]
    by_cases h : a < 0
    · rw [if_pos h, if_pos (by omega)]
      simp
    · rw [if_neg h, if_neg (by omega)]
theorem ext {m n : Mv} (h1 : m.a = n.a) (h2 : m.b = n.b) (h3 : m.c = n.c) (h4 : m.d = n.d) : m = n := by
  cases m; cases n; simp at *; exact ⟨h1, h2, h3, h4⟩
theorem neg_neg (m : Mv) : neg (neg m) = m := by cases m; simp [neg]
theorem sgn_or (m : Mv) : sgn m = m ∨ sgn m = neg m := by
  unfold sgn
  split
  · exact .inr rfl
  · exact .inl rfl
theorem sgn_neg (m : Mv) : sgn (neg m) = sgn m := by
  obtain ⟨a, b, c, d⟩ := m
  unfold sgn neg
  dsimp only
  by_cases h : a < 0 ∨ a = 0 ∧ (b < 0 ∨ b = 0 ∧ (c < 0 ∨ c = 0 ∧ d < 0))
  · rw [if_pos h, if_neg (by omega)]
  · rw [if_neg h]
    by_cases z : a = 0 ∧ b = 0 ∧ c = 0 ∧ d = 0
    · obtain ⟨rfl, rfl, rfl, rfl⟩ := z
      simp
    · rw [if_pos (by omega)]
      simp
theorem sgn_sgn (m : Mv) : sgn (sgn m) = sgn m := by
  rcases sgn_or m with h | h
  · rw [h, h]
  · rw [h, sgn_neg, h]
theorem mul_neg_l (m n : Mv) : mul (neg m) n = neg (mul m n) := by
  apply ext <;> simp [mul, neg, Int.neg_add, Int.mul_neg]
theorem mul_neg_r (m n : Mv) : mul m (neg n) = neg (mul m n) := by
  apply ext <;> simp [mul, neg, Int.neg_add, Int.neg_mul]
theorem sgn_mul_l (m n : Mv) : sgn (mul (sgn m) n) = sgn (mul m n) := by
  rcases sgn_or m with h | h
  · rw [h]
  · rw [h, mul_neg_l, sgn_neg]
theorem sgn_mul_r (m n : Mv) : sgn (mul m (sgn n)) = sgn (mul m n) := by
  rcases sgn_or n with h | h
  · rw [h]
  · rw [h, mul_neg_r, sgn_neg]
theorem mul_assoc (m n k : Mv) : mul (mul m n) k = mul m (mul n k) := by
  apply ext <;> simp only [mul, Int.mul_add, Int.add_mul, Int.mul_assoc] <;> omega
theorem mul_one (m : Mv) : mul m one = m := by apply ext <;> simp [mul, one]
theorem one_mul (m : Mv) : mul one m = m := by apply ext <;> simp [mul, one]
theorem sgn_one : sgn one = one := by decide
theorem det_neg (m : Mv) : det (neg m) = det m := by simp only [det, neg, Int.neg_mul_neg]
theorem det_sgn (m : Mv) : det (sgn m) = det m := by
  rcases sgn_or m with h | h
  · rw [h]
  · rw [h, det_neg]
theorem det_mul (m n : Mv) : det (mul m n) = det m * det n := by
  obtain ⟨a, b, c, d⟩ := m
  obtain ⟨e, f, g, h⟩ := n
  simp only [det, mul, Int.mul_add, Int.add_mul, Int.sub_mul, Int.mul_sub, Int.mul_assoc, Int.mul_comm, Int.mul_left_comm]
  omega
theorem det_inv (m : Mv) : det (inv m) = det m := by
  simp only [det, inv, Int.neg_mul_neg, Int.mul_comm]
theorem inv_neg (m : Mv) : inv (neg m) = neg (inv m) := by apply ext <;> simp [inv, neg]
theorem sgn_inv (m : Mv) : sgn (inv (sgn m)) = sgn (inv m) := by
  rcases sgn_or m with h | h
  · rw [h]
  · rw [h, inv_neg, sgn_neg]
theorem inv_inv (m : Mv) : inv (inv m) = m := by cases m; simp [inv]
theorem mul_inv (m : Mv) (h : det m = 1) : mul m (inv m) = one := by
  obtain ⟨a, b, c, d⟩ := m
  simp only [det] at h
  apply ext <;> simp only [mul, inv, one, Int.neg_mul, Int.mul_neg, Int.mul_comm] at * <;> omega
theorem inv_mul (m : Mv) (h : det m = 1) : mul (inv m) m = one := by
  obtain ⟨a, b, c, d⟩ := m
  simp only [det] at h
  apply ext <;> simp only [mul, inv, one, Int.neg_mul, Int.mul_neg, Int.mul_comm] at * <;> omega
/-- how large -/
def Bn (n : Nat) (m : Mv) : Prop := m.a.natAbs ≤ 2 ^ n ∧ m.b.natAbs ≤ 2 ^ n ∧ m.c.natAbs ≤ 2 ^ n ∧ m.d.natAbs ≤ 2 ^ n
theorem Bn.mono {j k : Nat} {m : Mv} (h : Bn j m) (l : j ≤ k) : Bn k m := by
  have e : 2 ^ j ≤ 2 ^ k := Nat.pow_le_pow_right (by omega) l
  obtain ⟨a, b, c, d⟩ := h
  exact ⟨Nat.le_trans a e, Nat.le_trans b e, Nat.le_trans c e, Nat.le_trans d e⟩
theorem Bn.neg {k : Nat} {m : Mv} (h : Bn k m) : Bn k (neg m) := by
  unfold Bn Wm.neg at *
  simpa using h
theorem Bn.sgn {k : Nat} {m : Mv} (h : Bn k m) : Bn k (sgn m) := by
  rcases sgn_or m with e | e
  · rw [e]; exact h
  · rw [e]; exact h.neg
theorem Bn.inv {k : Nat} {m : Mv} (h : Bn k m) : Bn k (inv m) := by
  unfold Bn Wm.inv at *
  simp only [Int.natAbs_neg]
  exact ⟨h.2.2.2, h.2.1, h.2.2.1, h.1⟩
theorem dot_le {x y z w : Int} {j k : Nat} (h1 : x.natAbs ≤ 2 ^ j) (h2 : y.natAbs ≤ 2 ^ k) (h3 : z.natAbs ≤ 2 ^ j) (h4 : w.natAbs ≤ 2 ^ k) : (x * y + z * w).natAbs ≤ 2 ^ (j + k + 1) := by
  have a : (x * y).natAbs ≤ 2 ^ (j + k) := by rw [Int.natAbs_mul, Nat.pow_add]; exact Nat.mul_le_mul h1 h2
  have b : (z * w).natAbs ≤ 2 ^ (j + k) := by rw [Int.natAbs_mul, Nat.pow_add]; exact Nat.mul_le_mul h3 h4
  have c := Int.natAbs_add_le (x * y) (z * w)
  rw [Nat.pow_succ]
  omega
theorem Bn.mul {j k : Nat} {m n : Mv} (h : Bn j m) (h' : Bn k n) : Bn (j + k + 1) (mul m n) := by
  obtain ⟨a, b, c, d⟩ := h
  obtain ⟨e, f, g, i⟩ := h'
  have z : j + k + 1 = k + j + 1 := by omega
  rw [z]
  exact ⟨dot_le e a f c, dot_le e b f d, dot_le g a i c, dot_le g b i d⟩
theorem Bn.one : Bn 0 one := by unfold Bn Wm.one; decide
/-! ### letters and words -/
inductive Lt where
  | s | r | R
  deriving DecidableEq
def Lt.mv : Lt → Mv
  | .s => ⟨0, 1, -1, 0⟩
  | .r => ⟨0, 1, -1, -1⟩
  | .R => ⟨1, 1, -1, 0⟩
/-- one letter more: the entries at most double -/
theorem Bn.letter {k : Nat} {m : Mv} (h : Bn k m) (x : Lt) : Bn (k + 1) (Wm.mul m x.mv) := by
  obtain ⟨a, b, c, d⟩ := h
  have e : 2 ^ (k + 1) = 2 * 2 ^ k := by rw [Nat.pow_succ]; omega
  cases x <;> (unfold Bn Wm.mul Lt.mv; simp only; rw [e]; refine ⟨?_, ?_, ?_, ?_⟩ <;> omega)
/-- a word's move, the first letter first -/
def moveL (m : Mv) : List Lt → Mv
  | [] => m
  | x :: w => moveL (sgn (mul m x.mv)) w
abbrev moveW (w : List Lt) : Mv := moveL one w
structure Good (n : Nat) (m : Mv) : Prop where
  det : Wm.det m = 1
  sg : sgn m = m
  bn : Bn n m
theorem Good.one : Good 0 one := ⟨by decide, sgn_one, Bn.one⟩
theorem det_mv (x : Lt) : det x.mv = 1 := by cases x <;> decide
theorem Good.letter {n : Nat} {m : Mv} (h : Good n m) (x : Lt) : Good (n + 1) (sgn (mul m x.mv)) :=
  ⟨by rw [det_sgn, det_mul, h.det, det_mv]; rfl, sgn_sgn _, (h.bn.letter x).sgn⟩
theorem Good.moveL : ∀ (w : List Lt) {n : Nat} {m : Mv}, Good n m → Good (n + w.length) (Wm.moveL m w)
  | [], n, m, h => h
  | x :: w, n, m, h => by
    have q := Good.moveL w (h.letter x)
    rw [List.length_cons, show n + (w.length + 1) = n + 1 + w.length by omega]
    exact q
theorem Good.word (w : List Lt) : Good w.length (moveW w) := by
  have q := Good.moveL w Good.one
  rw [Nat.zero_add] at q
  exact q
theorem Good.mul {j k : Nat} {m n : Mv} (h : Good j m) (h' : Good k n) : Good (j + k + 1) (sgn (Wm.mul m n)) :=
  ⟨by rw [det_sgn, det_mul, h.det, h'.det]; rfl, sgn_sgn _, (h.bn.mul h'.bn).sgn⟩
theorem Good.inv {j : Nat} {m : Mv} (h : Good j m) : Good j (sgn (Wm.inv m)) := ⟨by rw [det_sgn, det_inv, h.det], sgn_sgn _, h.bn.inv.sgn⟩
theorem Good.mono {j k : Nat} {m : Mv} (h : Good j m) (l : j ≤ k) : Good k m := ⟨h.det, h.sg, h.bn.mono l⟩
def isS : Lt → Bool
  | .s => true
  | _ => false
/-- no two neighbours cancel or melt -/
def red : List Lt → Bool
  | x :: y :: w => (isS x != isS y) && red (y :: w)
  | _ => true
theorem red_snoc : ∀ (w : List Lt) (x : Lt), red w = true → (∀ y, w.getLast? = some y → isS y ≠ isS x) → red (w ++ [x]) = true
  | [], x, _, _ => rfl
  | [y], x, _, h => by
    have := h y rfl
    show ((isS y != isS x) && true) = true
    simpa using this
  | y :: z :: w, x, hr, h => by
    have hr' : ((isS y != isS z) && red (z :: w)) = true := hr
    rw [Bool.and_eq_true] at hr'
    have q := red_snoc (z :: w) x hr'.2 (fun u hu => h u (by rw [List.getLast?_cons_cons]; exact hu))
    show ((isS y != isS z) && red (z :: (w ++ [x]))) = true
    rw [hr'.1]
    exact q
end Wm

set_option Elab.async false
set_option linter.all false
set_option maxRecDepth 100000
set_option maxHeartbeats 4000000
namespace DP
open PySem PySem.Spec L2 DL Wm
theorem go_seq {a b : DS} {N : DN} {ρ : DR} {M : DM} (h : ∀ k : DS, k = b → a { N with nx := fun ρ M => k N ρ M } ρ M) : dSeq a b N ρ M := h b rfl
theorem atI_0 {α : Type} {x : α} {xs : List α} : atI (x :: xs) 0 = some x := atI_nat (j := 0) rfl
theorem atI_1 {α : Type} {x y : α} {xs : List α} : atI (x :: y :: xs) 1 = some y := atI_nat (j := 1) rfl
theorem atI_2 {α : Type} {x y z : α} {xs : List α} : atI (x :: y :: z :: xs) 2 = some z := atI_nat (j := 2) rfl
theorem atI_3 {α : Type} {x y z u : α} {xs : List α} : atI (x :: y :: z :: u :: xs) 3 = some u := atI_nat (j := 3) rfl
theorem ixN30 : ixN 3 0 = some 0 := rfl
theorem ixN31 : ixN 3 1 = some 1 := rfl
theorem ixN32 : ixN 3 2 = some 2 := rfl
/-! ### comprehensions that change nothing -/
theorem dCL_map {α : Type} {bind : D → DR → DM → (DR → Prop) → Prop} {t : DT} {de : DE} {chk : DM → Prop} {ρw : DR} {M : DM} {Q : DK} (e h : α → D) (hc : chk M) : ∀ (xs : List α) (acc : List D), (∀ x ∈ xs, noL (h x) = true) →
    (∀ x ∈ xs, ∀ (A : D → DM → Prop) (B : DM → Prop), A (h x) M → bind (e x) ρw M fun ρ1 => t ρ1 M (fun b M2 => if b = true then de ρ1 M2 A X0 else B M2) X0) →
    Q (.lst (acc ++ xs.map h)) M → dCL bind t de chk ρw (xs.map e) acc M Q
  | [], acc, _, _, q => by
    rw [List.map_nil, List.append_nil] at q
    exact ⟨hc, q⟩
  | x :: xs, acc, hn, hs, q => by
    refine ⟨hc, hs x List.mem_cons_self _ _ ⟨hn x List.mem_cons_self, ?_⟩⟩
    refine dCL_map e h hc xs (acc ++ [h x]) (fun y hy => hn y (List.mem_cons_of_mem _ hy)) (fun y hy => hs y (List.mem_cons_of_mem _ hy)) ?_
    rw [List.append_assoc]
    exact q
theorem r1_lit {n : Int} {ρ : DR} {M : DM} {Q : List D → (DM → Prop) → DM → Prop} {Xd : DX} : diR1 (dCons (dC (.int n)) dNil) ρ M Q Xd = (-(2 ^ 62) ≤ n ∧ n < 2 ^ 62 ∧ Q (rangeD 0 n.toNat) (fun _ => True) M) := rfl
/-! ### with_sign -/
def sg (ns : List Int) : List Int → List Int
  | [] => ns
  | n :: r => if n = 0 then sg ns r else if n < 0 then ns.map (-·) else ns
theorem sg_pre : ∀ (suf pre : List Int), (∀ n ∈ pre, n = 0) → sg (pre ++ suf) suf = pre ++ signed suf
  | [], pre, _ => rfl
  | n :: r, pre, h => by
    unfold sg signed
    by_cases z : n = 0
    · rw [if_pos z, if_pos z]
      have q := sg_pre r (pre ++ [n]) (fun m hm => by
        rcases List.mem_append.mp hm with e | e
        · exact h m e
        · rw [List.mem_singleton.mp e]; exact z)
      rw [List.append_assoc, List.append_assoc] at q
      rw [z] at q
      rw [z]
      exact q
    · rw [if_neg z, if_neg z]
      by_cases c : n < 0
      · rw [if_pos c, if_pos c, List.map_append]
        congr 1
        have : pre.map (-·) = pre := by
          rw [List.map_eq_iff]
          intro i
          cases e : pre[i]? with
          | none => rfl
          | some m =>
            have : m = 0 := h m (List.mem_of_getElem? e)
            subst this
            rfl
        exact this
      · rw [if_neg c, if_neg c]
theorem sg_all (ns : List Int) : sg ns ns = signed ns := sg_pre ns [] (fun _ h => nomatch h)
def intsD (ns : List Int) : D := .tup (ns.map D.int)
def sp_with_sign : DSp := fun as M Q _ => ∃ ns : List Int, as = [intsD ns] ∧ ns.length ≤ 1000 ∧ Q (intsD (signed ns)) M
def d_with_sign : DS :=
  (dSeq (dFor (diSq (dVar 0)) (hName 1) (dIfS (dTest (dOp neF (dVar 1) (dC (.int 0)))) (dRet (dIf (dTest (dOp ltF (dVar 1) (dC (.int 0)))) (dCall tupleF (dCons (dComp (diSq (dVar 0)) (bName 2) dYes (dUn negF (dVar 2)) [2]) dNil)) (dCall tupleF (dCons (dVar 0) dNil)))) dNext))
  (dRet (dCall tupleF (dCons (dVar 0) dNil))))
theorem b_with_sign {as : List D} {M : DM} {Qd : DK} {Xd : DX} (hl : as.length = 1) (h : sp_with_sign as M Qd Xd) : d_with_sign (endsD Qd Xd) (startD 3 as) M := by
  obtain ⟨ns, rfl, hn, q⟩ := h
  rw [← sg_all] at q
  have key : ∀ (suf : List Int) (o : Option D), Qd (intsD (sg ns suf)) M → dLoop (hName 1) (dIfS (dTest (dOp neF (dVar 1) (dC (.int 0)))) (dRet (dIf (dTest (dOp ltF (dVar 1) (dC (.int 0)))) (dCall tupleF (dCons (dComp (diSq (dVar 0)) (bName 2) dYes (dUn negF (dVar 2)) [2]) dNil)) (dCall tupleF (dCons (dVar 0) dNil)))) dNext)
      (fun _ => True) { endsD Qd Xd with nx := fun ρ M => dRet (dCall tupleF (dCons (dVar 0) dNil)) (endsD Qd Xd) ρ M } (suf.map D.int) [some (intsD ns), o, none] M := by
    intro suf
    induction suf with
    | nil =>
      intro o q
      simp only [List.map_nil, dLoop, intsD, dSeq, dSet, dAsg, dPar, dAug, dRet, dRetN, dDrop, dIfS, dNext, dNever, dBreak, dCont, dFor, diSq, diR1, diR2, items, onI1, onI2, dVar, dC, dOp, dUn, dTest, onB, dAnd, dOr, dNot, dAndV, dOrV, dNotV, dIf, dNil, dCons, dTup, dLst, dLstM, dCall, dFn, hName, hNil, hCons, hSeq, hSub, setF, onSeq, seqD, dSl, doNo, doAt, onI, slF, lstV, lstM, on2, addF, mulF, iF, CT, negF, cmpF, id, ixF, onO, lenF, absF, maxF, minF, tupleF, listF, listFM, reprF, on1, dDictIx, dPairs, onS, lastD, dComp, bName, bSeq, bNames, dYes, wipeD, subF, fdivF, modF, powF, ltF, leF, gtF, geF, eqF, neF, endsD, atI_0, atI_1, atI_2, atI_3, ixN31, ixN32, ixN30, startD, List.map_cons, List.map_nil, List.length_cons, List.length_nil, List.cons_append, List.nil_append, Nat.reduceAdd, Nat.reduceSub, List.replicate, List.getElem?_cons_zero, List.getElem?_cons_succ, List.set_cons_zero, List.set_cons_succ, List.set_nil, true_and, and_true, if_true, ite_true]
      exact rtD.of q
    | cons n r ih =>
      intro o q
      unfold sg at q
      rw [List.map_cons]
      refine ⟨trivial, ?_⟩
      simp only [intsD, dSeq, dSet, dAsg, dPar, dAug, dRet, dRetN, dDrop, dIfS, dNext, dNever, dBreak, dCont, dFor, diSq, diR1, diR2, items, onI1, onI2, dVar, dC, dOp, dUn, dTest, onB, dAnd, dOr, dNot, dAndV, dOrV, dNotV, dIf, dNil, dCons, dTup, dLst, dLstM, dCall, dFn, hName, hNil, hCons, hSeq, hSub, setF, onSeq, seqD, dSl, doNo, doAt, onI, slF, lstV, lstM, on2, addF, mulF, iF, CT, negF, cmpF, id, ixF, onO, lenF, absF, maxF, minF, tupleF, listF, listFM, reprF, on1, dDictIx, dPairs, onS, lastD, dComp, bName, bSeq, bNames, dYes, wipeD, subF, fdivF, modF, powF, ltF, leF, gtF, geF, eqF, neF, endsD, atI_0, atI_1, atI_2, atI_3, ixN31, ixN32, ixN30, startD, List.map_cons, List.map_nil, List.length_cons, List.length_nil, List.cons_append, List.nil_append, Nat.reduceAdd, Nat.reduceSub, List.replicate, List.getElem?_cons_zero, List.getElem?_cons_succ, List.set_cons_zero, List.set_cons_succ, List.set_nil, true_and, and_true, if_true, ite_true]
      by_cases z : n = 0
      · rw [if_pos z] at q
        rw [if_neg (by simp [z])]
        exact ih _ q
      · rw [if_neg z] at q
        rw [if_pos (by simp [z])]
        by_cases c : n < 0
        · rw [if_pos c] at q
          rw [if_pos (by simpa using c)]
          refine ⟨by rw [List.length_map]; exact Nat.le_trans hn (by decide), ?_⟩
          refine dCL_map D.int (fun n => D.int (-n)) trivial ns [] (fun _ _ => by simp [noL]) (fun x _ A B hA => ?_) ?_
          · simp only [dSeq, dSet, dAsg, dPar, dAug, dRet, dRetN, dDrop, dIfS, dNext, dNever, dBreak, dCont, dFor, diSq, diR1, diR2, items, onI1, onI2, dVar, dC, dOp, dUn, dTest, onB, dAnd, dOr, dNot, dAndV, dOrV, dNotV, dIf, dNil, dCons, dTup, dLst, dLstM, dCall, dFn, hName, hNil, hCons, hSeq, hSub, setF, onSeq, seqD, dSl, doNo, doAt, onI, slF, lstV, lstM, on2, addF, mulF, iF, CT, negF, cmpF, id, ixF, onO, lenF, absF, maxF, minF, tupleF, listF, listFM, reprF, on1, dDictIx, dPairs, onS, lastD, dComp, bName, bSeq, bNames, dYes, wipeD, subF, fdivF, modF, powF, ltF, leF, gtF, geF, eqF, neF, endsD, atI_0, atI_1, atI_2, atI_3, ixN31, ixN32, ixN30, startD, List.map_cons, List.map_nil, List.length_cons, List.length_nil, List.cons_append, List.nil_append, Nat.reduceAdd, Nat.reduceSub, List.replicate, List.getElem?_cons_zero, List.getElem?_cons_succ, List.set_cons_zero, List.set_cons_succ, List.set_nil, true_and, and_true, if_true, ite_true]
            exact hA
          · rw [List.nil_append]
            refine rtD.of ?_
            have e : ns.map (fun n => D.int (-n)) = (ns.map (-·)).map D.int := by rw [List.map_map]; rfl
            rw [e]
            exact q
        · rw [if_neg c] at q
          rw [if_neg (by simpa using c)]
          exact rtD.of q
  have := key ns none q
  simp only [d_with_sign, intsD, dSeq, dFor, diSq, dVar, items, atI_0, atI_1, atI_2, atI_3, ixN31, ixN32, ixN30, startD, List.map_cons, List.map_nil, List.length_cons, List.length_nil, List.cons_append, List.nil_append, Nat.reduceAdd, Nat.reduceSub, List.replicate, List.getElem?_cons_zero, List.getElem?_cons_succ, List.set_cons_zero, List.set_cons_succ, List.set_nil, true_and, and_true, if_true, ite_true]
  exact this
end DP

set_option Elab.async false
set_option linter.all false
set_option maxRecDepth 100000
set_option maxHeartbeats 4000000
namespace DP
open PySem PySem.Spec L2 DL Wm
def mvD (m : Mv) : D := intsD m.l
theorem mulC_of {x y : Int} {j k : Nat} (hx : x.natAbs ≤ 2 ^ j) (hy : y.natAbs ≤ 2 ^ k) (h : j + k ≤ 900000) : MulC x y := by
  refine .inr (wide_mul (a := j + 1) (b := k + 1) ?_ ?_ (by omega) (by omega) (by omega))
  · rw [Nat.pow_succ]; have := Nat.two_pow_pos j; omega
  · rw [Nat.pow_succ]; have := Nat.two_pow_pos k; omega
def sp_product : DSp := fun as M Q _ => ∃ (m n : Mv) (j k : Nat), as = [mvD m, mvD n] ∧ Bn j m ∧ Bn k n ∧ j + k ≤ 900000 ∧ Q (mvD (sgn (mul m n))) M
def d_product (c_with_sign : DSp) : DS :=
  (dSeq (dAsg (dVar 0) (hSeq 4 (hCons (hName 2) (hCons (hName 3) (hCons (hName 4) (hCons (hName 5) hNil))))))
  (dSeq (dAsg (dVar 1) (hSeq 4 (hCons (hName 6) (hCons (hName 7) (hCons (hName 8) (hCons (hName 9) hNil))))))
  (dRet (dFn c_with_sign 1 (dCons (dTup (dCons (dOp addF (dOp mulF (dVar 6) (dVar 2)) (dOp mulF (dVar 7) (dVar 4))) (dCons (dOp addF (dOp mulF (dVar 6) (dVar 3)) (dOp mulF (dVar 7) (dVar 5))) (dCons (dOp addF (dOp mulF (dVar 8) (dVar 2)) (dOp mulF (dVar 9) (dVar 4))) (dCons (dOp addF (dOp mulF (dVar 8) (dVar 3)) (dOp mulF (dVar 9) (dVar 5))) dNil))))) dNil)))))
theorem sgn_of {m : Mv} {Qd : DK} {M : DM} (q : Qd (mvD (sgn m)) M) : Qd (intsD (signed m.l)) M := by
  rw [signed_eq]
  exact q
theorem four (m : Mv) : (4 : Nat) ≤ sizeLine := by decide
theorem b_product {as : List D} {M : DM} {Qd : DK} {Xd : DX} (hl : as.length = 2) (h : sp_product as M Qd Xd) : d_product sp_with_sign (endsD Qd Xd) (startD 10 as) M := by
  obtain ⟨m, n, j, k, rfl, ⟨m1, m2, m3, m4⟩, ⟨n1, n2, n3, n4⟩, hjk, q⟩ := h
  have c : ∀ {x y : Int}, x.natAbs ≤ 2 ^ k → y.natAbs ≤ 2 ^ j → MulC x y := fun hx hy => mulC_of hx hy (by omega)
  simp only [d_product, mvD, intsD, Mv.l, dSeq, dSet, dAsg, dPar, dAug, dRet, dRetN, dDrop, dIfS, dNext, dNever, dBreak, dCont, dFor, diSq, diR1, diR2, items, onI1, onI2, dVar, dC, dOp, dUn, dTest, onB, dAnd, dOr, dNot, dAndV, dOrV, dNotV, dIf, dNil, dCons, dTup, dLst, dLstM, dCall, dFn, hName, hNil, hCons, hSeq, hSub, setF, onSeq, seqD, dSl, doNo, doAt, onI, slF, lstV, lstM, on2, addF, mulF, iF, CT, negF, cmpF, id, ixF, onO, lenF, absF, maxF, minF, tupleF, listF, listFM, reprF, on1, dDictIx, dPairs, onS, lastD, dComp, bName, bSeq, bNames, dYes, wipeD, subF, fdivF, modF, powF, ltF, leF, gtF, geF, eqF, neF, endsD, atI_0, atI_1, atI_2, atI_3, ixN31, ixN32, ixN30, startD, List.map_cons, List.map_nil, List.length_cons, List.length_nil, List.cons_append, List.nil_append, Nat.reduceAdd, Nat.reduceSub, List.replicate, List.getElem?_cons_zero, List.getElem?_cons_succ, List.set_cons_zero, List.set_cons_succ, List.set_nil, true_and, and_true, if_true, ite_true]
  exact ⟨c n1 m1, c n2 m3, c n1 m2, c n2 m4, c n3 m1, c n4 m3, c n3 m2, c n4 m4, by decide, (mul m n).l, rfl, by simp [Mv.l], rtD.of (sgn_of q)⟩
def sp_inverse_move : DSp := fun as M Q _ => ∃ m : Mv, as = [mvD m] ∧ Q (mvD (sgn (inv m))) M
def d_inverse_move (c_with_sign : DSp) : DS :=
  (dSeq (dAsg (dVar 0) (hSeq 4 (hCons (hName 1) (hCons (hName 2) (hCons (hName 3) (hCons (hName 4) hNil))))))
  (dRet (dFn c_with_sign 1 (dCons (dTup (dCons (dVar 4) (dCons (dUn negF (dVar 2)) (dCons (dUn negF (dVar 3)) (dCons (dVar 1) dNil))))) dNil))))
theorem b_inverse_move {as : List D} {M : DM} {Qd : DK} {Xd : DX} (hl : as.length = 1) (h : sp_inverse_move as M Qd Xd) : d_inverse_move sp_with_sign (endsD Qd Xd) (startD 5 as) M := by
  obtain ⟨m, rfl, q⟩ := h
  simp only [d_inverse_move, mvD, intsD, Mv.l, dSeq, dSet, dAsg, dPar, dAug, dRet, dRetN, dDrop, dIfS, dNext, dNever, dBreak, dCont, dFor, diSq, diR1, diR2, items, onI1, onI2, dVar, dC, dOp, dUn, dTest, onB, dAnd, dOr, dNot, dAndV, dOrV, dNotV, dIf, dNil, dCons, dTup, dLst, dLstM, dCall, dFn, hName, hNil, hCons, hSeq, hSub, setF, onSeq, seqD, dSl, doNo, doAt, onI, slF, lstV, lstM, on2, addF, mulF, iF, CT, negF, cmpF, id, ixF, onO, lenF, absF, maxF, minF, tupleF, listF, listFM, reprF, on1, dDictIx, dPairs, onS, lastD, dComp, bName, bSeq, bNames, dYes, wipeD, subF, fdivF, modF, powF, ltF, leF, gtF, geF, eqF, neF, endsD, atI_0, atI_1, atI_2, atI_3, ixN31, ixN32, ixN30, startD, List.map_cons, List.map_nil, List.length_cons, List.length_nil, List.cons_append, List.nil_append, Nat.reduceAdd, Nat.reduceSub, List.replicate, List.getElem?_cons_zero, List.getElem?_cons_succ, List.set_cons_zero, List.set_cons_succ, List.set_nil, true_and, and_true, if_true, ite_true]
  exact ⟨by decide, (inv m).l, rfl, by simp [Mv.l], rtD.of (sgn_of q)⟩
/-! ### the pen of the laws -/
def penO (l : Addr) (at_ bits : Int) : MO := .lst [.ref l, .int at_, .int bits]
def Pen (M : DM) (p : Addr) : Prop := ∃ (l : Addr) (cs : List Int) (at_ bits : Int), M p = some (penO l at_ bits) ∧ M l = some (.lst (cs.map D.int)) ∧ l ≠ p
/-- only the pen has moved on -/
structure PenTo (M M' : DM) (p : Addr) : Prop where
  pen : Pen M' p
  rest : ∀ a, a ≠ p → M' a = M a
  own : ∀ l a b, M p = some (penO l a b) → ∃ a' b', M' p = some (penO l a' b')
theorem PenTo.refl {M : DM} {p : Addr} (h : Pen M p) : PenTo M M p := ⟨h, fun _ _ => rfl, fun l a b e => ⟨a, b, e⟩⟩
theorem PenTo.trans {M M' M2 : DM} {p : Addr} (h : PenTo M M' p) (h' : PenTo M' M2 p) : PenTo M M2 p := ⟨h'.pen, fun a ha => (h'.rest a ha).trans (h.rest a ha), fun l a b e => by
  obtain ⟨a', b', e'⟩ := h.own l a b e
  exact h'.own l a' b' e'⟩
theorem pen_put {M : DM} {p l : Addr} {cs : List Int} {a0 b0 a b : Int} (hp : M p = some (penO l a0 b0)) (h : M l = some (.lst (cs.map D.int))) (ne : l ≠ p) : PenTo M (put M p (penO l a b)) p :=
  ⟨⟨l, cs, a, b, put_same, by rw [put_ne ne]; exact h, ne⟩, fun c hc => put_ne hc, fun l2 a2 b2 e => by
    rw [hp] at e
    have e2 : l = l2 := by simp only [penO, Option.some.injEq, MO.lst.injEq, List.cons.injEq, D.ref.injEq] at e; exact e.1
    subst e2
    exact ⟨a, b, put_same⟩⟩
def sp_law_pen : DSp := fun as M Q _ => ∃ ns : List Int, as = [.seq (ns.map D.int)] ∧ ∀ p M', Pen M' p → (∀ a o, M a = some o → M' a = some o) → Q (.ref p) M'
def d_law_pen : DS :=
  (dRet (dLstM (dCons (dCall listFM (dCons (dSl (dVar 0) doNo (doAt (dC (.int 63)))) dNil)) (dCons (dC (.int 0)) (dCons (dC (.int 0)) dNil)))))
theorem cutD_map {α : Type} (f : α → D) (xs : List α) (lo hi : Option Int) : ∃ ys : List α, cutD (xs.map f) lo hi = ys.map f := by
  unfold cutD
  rw [← List.map_drop, ← List.map_take]
  exact ⟨_, rfl⟩
theorem b_law_pen {as : List D} {M : DM} {Qd : DK} {Xd : DX} (hl : as.length = 1) (h : sp_law_pen as M Qd Xd) : d_law_pen (endsD Qd Xd) (startD 1 as) M := by
  obtain ⟨ns, rfl, q⟩ := h
  simp only [d_law_pen, dSeq, dSet, dAsg, dPar, dAug, dRet, dRetN, dDrop, dIfS, dNext, dNever, dBreak, dCont, dFor, diSq, diR1, diR2, items, onI1, onI2, dVar, dC, dOp, dUn, dTest, onB, dAnd, dOr, dNot, dAndV, dOrV, dNotV, dIf, dNil, dCons, dTup, dLst, dLstM, dCall, dFn, hName, hNil, hCons, hSeq, hSub, setF, onSeq, seqD, dSl, doNo, doAt, onI, slF, lstV, lstM, on2, addF, mulF, iF, CT, negF, cmpF, id, ixF, onO, lenF, absF, maxF, minF, tupleF, listF, listFM, reprF, on1, dDictIx, dPairs, onS, lastD, dComp, bName, bSeq, bNames, dYes, wipeD, subF, fdivF, modF, powF, ltF, leF, gtF, geF, eqF, neF, endsD, atI_0, atI_1, atI_2, atI_3, ixN31, ixN32, ixN30, startD, List.map_cons, List.map_nil, List.length_cons, List.length_nil, List.cons_append, List.nil_append, Nat.reduceAdd, Nat.reduceSub, List.replicate, List.getElem?_cons_zero, List.getElem?_cons_succ, List.set_cons_zero, List.set_cons_succ, List.set_nil, true_and, and_true, if_true, ite_true]
  obtain ⟨cs, e⟩ := cutD_map D.int ns none (some 63)
  rw [e]
  refine ⟨noLs_ints, fun l hl => ⟨by decide, by simp [noLs, noL], fun p hp => rtD.of (q p _ ?_ ?_)⟩⟩
  · have ne : l ≠ p := fun z => by
      subst z
      rw [put_same] at hp
      cases hp
    exact ⟨l, cs, 0, 0, put_same, by rw [put_ne ne, put_same], ne⟩
  · intro a o ha
    have n1 : a ≠ l := fun z => by subst z; rw [hl] at ha; cases ha
    have n2 : a ≠ p := fun z => by subst z; rw [put_ne n1] at hp; rw [hp] at ha; cases ha
    rw [put_ne n2, put_ne n1]
    exact ha
theorem dLoop_inv {g : DG} {b : DS} {N : DN} (I : List D → DR → DM → Prop) (done : ∀ ρ M, I [] ρ M → N.nx ρ M)
    (step : ∀ d r ρ M, I (d :: r) ρ M → ∀ nx : DR → DM → Prop, (∀ ρ M, I r ρ M → nx ρ M) → g d ρ M (fun ρ1 M1 => b { N with nx := nx, ct := nx, bk := N.nx } ρ1 M1) N.ex) : ∀ ds ρ M, I ds ρ M → dLoop g b (fun _ => True) N ds ρ M
  | [], ρ, M, h => ⟨trivial, done ρ M h⟩
  | d :: ds, ρ, M, h => ⟨trivial, step d ds ρ M h _ fun ρ' M' h' => dLoop_inv I done step ds ρ' M' h'⟩
theorem pyOfs_ints : ∀ cs : List Int, pyOfs (cs.map D.int) = some (cs.map PyData.int)
  | [] => by simp [pyOfs]
  | c :: cs => by simp [pyOfs, pyOf, pyOfs_ints cs]
theorem lay_ints : ∀ cs : List Int, PyData.canLayAll0 (cs.map PyData.int) = true
  | [] => by simp [PyData.canLayAll0]
  | c :: cs => by simp [PyData.canLayAll0, PyData.canLay0, lay_ints cs]
theorem depth_ints : ∀ cs : List Int, PyData.depthAll (cs.map PyData.int) ≤ 1
  | [] => by simp [PyData.depthAll]
  | c :: cs => by
    have := depth_ints cs
    simp [PyData.depthAll, PyData.depth]
    omega
theorem shaped_ints (cs : List Int) : SeqAt.shaped (.list (cs.map PyData.int)) = true ∧ SeqAt.shaped (.tuple (cs.map PyData.int)) = true := by
  have h1 := lay_ints cs
  have h2 := depth_ints cs
  unfold SeqAt.shaped
  simp [PyData.canLay0, PyData.depth, h1]
  omega
theorem cmp_ints_nil {f : Bool → Bool} {M : DM} {l : Addr} {cs : List Int} {Q : DK} (h : M l = some (.lst (cs.map D.int))) (q : Q (.bl (f (decide (cs = [])))) M) : cmpF f (.ref l) (.lst []) M Q := by
  have e : PyData.eqv (.list (cs.map PyData.int)) (.list []) = decide (cs = []) := by
    cases cs <;> simp [PyData.eqv, PyData.eqvAll]
  simp only [cmpF, pyM, h, pyOfs_ints, pyOf, pyOfs, Option.map_some, onP, e]
  exact ⟨(shaped_ints cs).1, (shaped_ints []).1, q⟩
theorem atI_lt {α : Type} {xs : List α} {i : Int} (h0 : 0 ≤ i) (h : i < xs.length) : ∃ x, atI xs i = some x ∧ x ∈ xs := by
  obtain ⟨n, rfl⟩ := Int.eq_ofNat_of_zero_le h0
  have hn : n < xs.length := by exact Int.ofNat_lt.mp h
  exact ⟨xs[n], atI_nat (List.getElem?_eq_getElem hn), List.getElem_mem hn⟩
def sp_law_fresh : DSp := fun as M Q _ => ∃ p, as = [.ref p] ∧ Pen M p ∧ ∀ v M', PenTo M M' p → Q (.int v) M'
def d_law_fresh : DS :=
  (dSeq (dSet (dOp ixF (dVar 0) (dC (.int 1))) 1)
  (dSeq (dAsg (dOp addF (dVar 1) (dC (.int 1))) (hSub (dVar 0) (dC (.int 1)) setF))
  (dSeq (dSet (dC (.int 0)) 2)
  (dSeq (dIfS (dTest (dOp neF (dOp ixF (dVar 0) (dC (.int 0))) (dLst dNil))) (dSet (dOp ixF (dOp ixF (dVar 0) (dC (.int 0))) (dOp modF (dVar 1) (dCall lenF (dCons (dOp ixF (dVar 0) (dC (.int 0))) dNil)))) 2) dNext)
  (dSeq (dIfS (dAnd (dTest (dOp ltF (dVar 1) (dCall lenF (dCons (dOp ixF (dVar 0) (dC (.int 0))) dNil)))) (dTest (dOp geF (dVar 2) (dOp powF (dC (.int 10)) (dC (.int 18)))))) (dRet (dOp subF (dVar 2) (dOp powF (dC (.int 10)) (dC (.int 18))))) dNext)
  (dSeq (dSet (dC (.int 2305843009213693951)) 3)
  (dSeq (dSet (dOp modF (dOp addF (dOp addF (dOp mulF (dVar 2) (dC (.int 48271))) (dOp mulF (dC (.int 40692)) (dVar 1))) (dC (.int 31))) (dVar 3)) 4)
  (dSeq (dSet (dVar 4) 5)
  (dSeq (dFor (diR1 (dCons (dC (.int 6)) dNil)) (hName 6) (dSeq (dSet (dOp modF (dOp addF (dOp addF (dOp mulF (dVar 4) (dVar 4)) (dOp mulF (dOp mulF (dC (.int 69621)) (dOp addF (dVar 6) (dC (.int 1)))) (dOp addF (dVar 1) (dC (.int 1))))) (dVar 2)) (dVar 3)) 4)
  (dSet (dOp addF (dOp mulF (dVar 5) (dVar 3)) (dVar 4)) 5)))
  (dRet (dVar 5)))))))))))
theorem b_law_fresh {as : List D} {M : DM} {Qd : DK} {Xd : DX} (hl : as.length = 1) (h : sp_law_fresh as M Qd Xd) : d_law_fresh (endsD Qd Xd) (startD 7 as) M := by
  obtain ⟨p, rfl, ⟨l, cs, a, b, hp, hc, ne⟩, q⟩ := h
  unfold d_law_fresh
  simp only [startD, atI_0, atI_1, atI_2, atI_3, ixN31, ixN32, ixN30, startD, List.map_cons, List.map_nil, List.length_cons, List.length_nil, List.cons_append, List.nil_append, Nat.reduceAdd, Nat.reduceSub, List.replicate, List.getElem?_cons_zero, List.getElem?_cons_succ, List.set_cons_zero, List.set_cons_succ, List.set_nil, true_and, and_true, if_true, ite_true]
  refine go_seq fun k hk => ?_; simp only [penO, hp, dSet, dAsg, dPar, dAug, dRet, dRetN, dDrop, dNext, dNever, dBreak, dCont, diSq, diR1, diR2, items, onI1, onI2, dVar, dC, dOp, dUn, dTest, onB, dAnd, dOr, dNot, dAndV, dOrV, dNotV, dIf, dNil, dCons, dTup, dLst, dLstM, dCall, dFn, hName, hNil, hCons, hSeq, hSub, setF, onSeq, seqD, dSl, doNo, doAt, onI, slF, lstV, lstM, on2, addF, mulF, iF, CT, negF, cmpF, id, ixF, onO, lenF, absF, maxF, minF, tupleF, listF, listFM, reprF, on1, dDictIx, dPairs, onS, lastD, dComp, bName, bSeq, bNames, dYes, wipeD, subF, fdivF, modF, powF, ltF, leF, gtF, geF, eqF, neF, endsD, atI_0, atI_1, atI_2, atI_3, ixN31, ixN32, ixN30, startD, List.map_cons, List.map_nil, List.length_cons, List.length_nil, List.cons_append, List.nil_append, Nat.reduceAdd, Nat.reduceSub, List.replicate, List.getElem?_cons_zero, List.getElem?_cons_succ, List.set_cons_zero, List.set_cons_succ, List.set_nil, true_and, and_true, if_true, ite_true]; subst hk
  refine go_seq fun k hk => ?_; simp only [penO, hp, noL, dSet, dAsg, dPar, dAug, dRet, dRetN, dDrop, dNext, dNever, dBreak, dCont, diSq, diR1, diR2, items, onI1, onI2, dVar, dC, dOp, dUn, dTest, onB, dAnd, dOr, dNot, dAndV, dOrV, dNotV, dIf, dNil, dCons, dTup, dLst, dLstM, dCall, dFn, hName, hNil, hCons, hSeq, hSub, setF, onSeq, seqD, dSl, doNo, doAt, onI, slF, lstV, lstM, on2, addF, mulF, iF, CT, negF, cmpF, id, ixF, onO, lenF, absF, maxF, minF, tupleF, listF, listFM, reprF, on1, dDictIx, dPairs, onS, lastD, dComp, bName, bSeq, bNames, dYes, wipeD, subF, fdivF, modF, powF, ltF, leF, gtF, geF, eqF, neF, endsD, atI_0, atI_1, atI_2, atI_3, ixN31, ixN32, ixN30, startD, List.map_cons, List.map_nil, List.length_cons, List.length_nil, List.cons_append, List.nil_append, Nat.reduceAdd, Nat.reduceSub, List.replicate, List.getElem?_cons_zero, List.getElem?_cons_succ, List.set_cons_zero, List.set_cons_succ, List.set_nil, true_and, and_true, if_true, ite_true]; subst hk
  have t1 : PenTo M (put M p (penO l (a + 1) b)) p := pen_put hp hc ne
  have hp1 : put M p (penO l (a + 1) b) p = some (penO l (a + 1) b) := put_same
  have hc1 : put M p (penO l (a + 1) b) l = some (.lst (cs.map D.int)) := by rw [put_ne ne]; exact hc
  change dSeq _ _ _ _ (put M p (penO l (a + 1) b))
  generalize put M p (penO l (a + 1) b) = M1 at t1 hp1 hc1
  unfold penO at hp1
  refine go_seq fun k hk => ?_; simp only [dSet, dAsg, dPar, dAug, dRet, dRetN, dDrop, dNext, dNever, dBreak, dCont, diSq, diR1, diR2, items, onI1, onI2, dVar, dC, dOp, dUn, dTest, onB, dAnd, dOr, dNot, dAndV, dOrV, dNotV, dIf, dNil, dCons, dTup, dLst, dLstM, dCall, dFn, hName, hNil, hCons, hSeq, hSub, setF, onSeq, seqD, dSl, doNo, doAt, onI, slF, lstV, lstM, on2, addF, mulF, iF, CT, negF, cmpF, id, ixF, onO, lenF, absF, maxF, minF, tupleF, listF, listFM, reprF, on1, dDictIx, dPairs, onS, lastD, dComp, bName, bSeq, bNames, dYes, wipeD, subF, fdivF, modF, powF, ltF, leF, gtF, geF, eqF, neF, endsD]; subst hk
  refine go_seq fun k hk => ?_
  have rest : ∀ (c : Int), k { endsD Qd Xd with nx := (endsD Qd Xd).nx } [some (.ref p), some (.int a), some (.int c), none, none, none, none] M1 := by
    intro c
    subst hk
    refine go_seq fun k hk => ?_
    have rest2 : k (endsD Qd Xd) [some (.ref p), some (.int a), some (.int c), none, none, none, none] M1 := by
      subst hk
      refine go_seq fun k hk => ?_; simp only [dSet, dAsg, dPar, dAug, dRet, dRetN, dDrop, dNext, dNever, dBreak, dCont, diSq, diR1, diR2, items, onI1, onI2, dVar, dC, dOp, dUn, dTest, onB, dAnd, dOr, dNot, dAndV, dOrV, dNotV, dIf, dNil, dCons, dTup, dLst, dLstM, dCall, dFn, hName, hNil, hCons, hSeq, hSub, setF, onSeq, seqD, dSl, doNo, doAt, onI, slF, lstV, lstM, on2, addF, mulF, iF, CT, negF, cmpF, id, ixF, onO, lenF, absF, maxF, minF, tupleF, listF, listFM, reprF, on1, dDictIx, dPairs, onS, lastD, dComp, bName, bSeq, bNames, dYes, wipeD, subF, fdivF, modF, powF, ltF, leF, gtF, geF, eqF, neF, endsD, atI_0, atI_1, atI_2, atI_3, ixN31, ixN32, ixN30, startD, List.map_cons, List.map_nil, List.length_cons, List.length_nil, List.cons_append, List.nil_append, Nat.reduceAdd, Nat.reduceSub, List.replicate, List.getElem?_cons_zero, List.getElem?_cons_succ, List.set_cons_zero, List.set_cons_succ, List.set_nil, true_and, and_true, if_true, ite_true]; subst hk
      refine go_seq fun k hk => ?_; simp only [dSet, dAsg, dPar, dAug, dRet, dRetN, dDrop, dNext, dNever, dBreak, dCont, diSq, diR1, diR2, items, onI1, onI2, dVar, dC, dOp, dUn, dTest, onB, dAnd, dOr, dNot, dAndV, dOrV, dNotV, dIf, dNil, dCons, dTup, dLst, dLstM, dCall, dFn, hName, hNil, hCons, hSeq, hSub, setF, onSeq, seqD, dSl, doNo, doAt, onI, slF, lstV, lstM, on2, addF, mulF, iF, CT, negF, cmpF, id, ixF, onO, lenF, absF, maxF, minF, tupleF, listF, listFM, reprF, on1, dDictIx, dPairs, onS, lastD, dComp, bName, bSeq, bNames, dYes, wipeD, subF, fdivF, modF, powF, ltF, leF, gtF, geF, eqF, neF, endsD, atI_0, atI_1, atI_2, atI_3, ixN31, ixN32, ixN30, startD, List.map_cons, List.map_nil, List.length_cons, List.length_nil, List.cons_append, List.nil_append, Nat.reduceAdd, Nat.reduceSub, List.replicate, List.getElem?_cons_zero, List.getElem?_cons_succ, List.set_cons_zero, List.set_cons_succ, List.set_nil, true_and, and_true, if_true, ite_true]; subst hk
      refine ⟨.inl (.inr ⟨by decide, by decide⟩), .inl (.inl ⟨by decide, by decide⟩), by decide, ?_⟩
      generalize he : (c * 48271 + 40692 * a + 31) % 2305843009213693951 = st
      have h1 : 0 ≤ st := by omega
      have h2 : st < 2305843009213693951 := by omega
      refine go_seq fun k hk => ?_; simp only [dSet, dAsg, dPar, dAug, dRet, dRetN, dDrop, dNext, dNever, dBreak, dCont, diSq, diR1, diR2, items, onI1, onI2, dVar, dC, dOp, dUn, dTest, onB, dAnd, dOr, dNot, dAndV, dOrV, dNotV, dIf, dNil, dCons, dTup, dLst, dLstM, dCall, dFn, hName, hNil, hCons, hSeq, hSub, setF, onSeq, seqD, dSl, doNo, doAt, onI, slF, lstV, lstM, on2, addF, mulF, iF, CT, negF, cmpF, id, ixF, onO, lenF, absF, maxF, minF, tupleF, listF, listFM, reprF, on1, dDictIx, dPairs, onS, lastD, dComp, bName, bSeq, bNames, dYes, wipeD, subF, fdivF, modF, powF, ltF, leF, gtF, geF, eqF, neF, endsD, atI_0, atI_1, atI_2, atI_3, ixN31, ixN32, ixN30, startD, List.map_cons, List.map_nil, List.length_cons, List.length_nil, List.cons_append, List.nil_append, Nat.reduceAdd, Nat.reduceSub, List.replicate, List.getElem?_cons_zero, List.getElem?_cons_succ, List.set_cons_zero, List.set_cons_succ, List.set_nil, true_and, and_true, if_true, ite_true]; subst hk
      refine go_seq fun k hk => ?_; simp only [dFor, diR1, onI1, dSet, dAsg, dPar, dAug, dRet, dRetN, dDrop, dNext, dNever, dBreak, dCont, diSq, diR1, diR2, items, onI1, onI2, dVar, dC, dOp, dUn, dTest, onB, dAnd, dOr, dNot, dAndV, dOrV, dNotV, dIf, dNil, dCons, dTup, dLst, dLstM, dCall, dFn, hName, hNil, hCons, hSeq, hSub, setF, onSeq, seqD, dSl, doNo, doAt, onI, slF, lstV, lstM, on2, addF, mulF, iF, CT, negF, cmpF, id, ixF, onO, lenF, absF, maxF, minF, tupleF, listF, listFM, reprF, on1, dDictIx, dPairs, onS, lastD, dComp, bName, bSeq, bNames, dYes, wipeD, subF, fdivF, modF, powF, ltF, leF, gtF, geF, eqF, neF, endsD, atI_0, atI_1, atI_2, atI_3, ixN31, ixN32, ixN30, startD, List.map_cons, List.map_nil, List.length_cons, List.length_nil, List.cons_append, List.nil_append, Nat.reduceAdd, Nat.reduceSub, List.replicate, List.getElem?_cons_zero, List.getElem?_cons_succ, List.set_cons_zero, List.set_cons_succ, List.set_nil, true_and, and_true, if_true, ite_true]
      refine ⟨by decide, by decide, ?_⟩
      have hN : ∀ (s f : Int) (o : Option D), k (endsD Qd Xd) [some (.ref p), some (.int a), some (.int c), some (.int 2305843009213693951), some (.int s), some (.int f), o] M1 := by
        intro s f o
        subst hk
        simp only [dSet, dAsg, dPar, dAug, dRet, dRetN, dDrop, dNext, dNever, dBreak, dCont, diSq, diR1, diR2, items, onI1, onI2, dVar, dC, dOp, dUn, dTest, onB, dAnd, dOr, dNot, dAndV, dOrV, dNotV, dIf, dNil, dCons, dTup, dLst, dLstM, dCall, dFn, hName, hNil, hCons, hSeq, hSub, setF, onSeq, seqD, dSl, doNo, doAt, onI, slF, lstV, lstM, on2, addF, mulF, iF, CT, negF, cmpF, id, ixF, onO, lenF, absF, maxF, minF, tupleF, listF, listFM, reprF, on1, dDictIx, dPairs, onS, lastD, dComp, bName, bSeq, bNames, dYes, wipeD, subF, fdivF, modF, powF, ltF, leF, gtF, geF, eqF, neF, endsD, atI_0, atI_1, atI_2, atI_3, ixN31, ixN32, ixN30, startD, List.map_cons, List.map_nil, List.length_cons, List.length_nil, List.cons_append, List.nil_append, Nat.reduceAdd, Nat.reduceSub, List.replicate, List.getElem?_cons_zero, List.getElem?_cons_succ, List.set_cons_zero, List.set_cons_succ, List.set_nil, true_and, and_true, if_true, ite_true]
        exact rtD.of (q f M1 t1)
      refine dLoop_inv (fun ds ρ M2 => M2 = M1 ∧ (∀ d ∈ ds, ∃ i : Int, d = .int i ∧ 0 ≤ i ∧ i < 6) ∧ ∃ (s f : Int) (o : Option D), 0 ≤ s ∧ s < 2305843009213693951 ∧ ρ = [some (.ref p), some (.int a), some (.int c), some (.int 2305843009213693951), some (.int s), some (.int f), o]) ?_ ?_ _ _ _ ⟨rfl, ?_, st, st, none, h1, h2, rfl⟩
      · rintro ρ M2 ⟨rfl, _, s, f, o, _, _, rfl⟩
        exact hN s f o
      · rintro d r ρ M2 ⟨rfl, hd, s, f, o, s1, s2, rfl⟩ nx hnx
        obtain ⟨i, rfl, i1, i2⟩ := hd d List.mem_cons_self
        simp only [dSeq, dSet, dAsg, dPar, dAug, dRet, dRetN, dDrop, dNext, dNever, dBreak, dCont, diSq, diR1, diR2, items, onI1, onI2, dVar, dC, dOp, dUn, dTest, onB, dAnd, dOr, dNot, dAndV, dOrV, dNotV, dIf, dNil, dCons, dTup, dLst, dLstM, dCall, dFn, hName, hNil, hCons, hSeq, hSub, setF, onSeq, seqD, dSl, doNo, doAt, onI, slF, lstV, lstM, on2, addF, mulF, iF, CT, negF, cmpF, id, ixF, onO, lenF, absF, maxF, minF, tupleF, listF, listFM, reprF, on1, dDictIx, dPairs, onS, lastD, dComp, bName, bSeq, bNames, dYes, wipeD, subF, fdivF, modF, powF, ltF, leF, gtF, geF, eqF, neF, endsD, atI_0, atI_1, atI_2, atI_3, ixN31, ixN32, ixN30, startD, List.map_cons, List.map_nil, List.length_cons, List.length_nil, List.cons_append, List.nil_append, Nat.reduceAdd, Nat.reduceSub, List.replicate, List.getElem?_cons_zero, List.getElem?_cons_succ, List.set_cons_zero, List.set_cons_succ, List.set_nil, true_and, and_true, if_true, ite_true]
        refine ⟨.inl (.inl ⟨by omega, by omega⟩), .inl (.inl ⟨by decide, by decide⟩), .inl (.inl ⟨by omega, by omega⟩), by decide, .inl (.inr ⟨by decide, by decide⟩), hnx _ _ ⟨rfl, fun d hd2 => hd d (List.mem_cons_of_mem _ hd2), _, _, _, ?_, ?_, rfl⟩⟩
        · exact Int.emod_nonneg _ (by decide)
        · exact Int.emod_lt_of_pos _ (by decide)
      · intro d hd
        unfold rangeD at hd
        obtain ⟨i, hi, rfl⟩ := List.mem_map.mp hd
        have := List.mem_range.mp hi
        exact ⟨_, rfl, by omega, by have : (Int.toNat 6) = 6 := rfl; omega⟩
    simp only [dIfS, dAnd, hp1, hc1, dSet, dAsg, dPar, dAug, dRet, dRetN, dDrop, dNext, dNever, dBreak, dCont, diSq, diR1, diR2, items, onI1, onI2, dVar, dC, dOp, dUn, dTest, onB, dAnd, dOr, dNot, dAndV, dOrV, dNotV, dIf, dNil, dCons, dTup, dLst, dLstM, dCall, dFn, hName, hNil, hCons, hSeq, hSub, setF, onSeq, seqD, dSl, doNo, doAt, onI, slF, lstV, lstM, on2, addF, mulF, iF, CT, negF, cmpF, id, ixF, onO, lenF, absF, maxF, minF, tupleF, listF, listFM, reprF, on1, dDictIx, dPairs, onS, lastD, dComp, bName, bSeq, bNames, dYes, wipeD, subF, fdivF, modF, powF, ltF, leF, gtF, geF, eqF, neF, endsD, atI_0, atI_1, atI_2, atI_3, ixN31, ixN32, ixN30, startD, List.map_cons, List.map_nil, List.length_cons, List.length_nil, List.cons_append, List.nil_append, Nat.reduceAdd, Nat.reduceSub, List.replicate, List.getElem?_cons_zero, List.getElem?_cons_succ, List.set_cons_zero, List.set_cons_succ, List.set_nil, true_and, and_true, if_true, ite_true]
    by_cases c1 : a < ((cs.map D.int).length : Int)
    · simp only [c1, decide_true, if_true]
      refine ⟨by unfold CPow; decide, ?_⟩
      by_cases c2 : (10 : Int) ^ Int.toNat 18 ≤ c
      · simp only [c2, decide_true, if_true]
        exact ⟨by unfold CPow; decide, rtD.of (q _ M1 t1)⟩
      · simp only [c2, decide_false, Bool.false_eq_true, if_false]
        exact rest2
    · simp only [c1, decide_false, Bool.false_eq_true, if_false]
      exact rest2
  simp only [dIfS, dTest, dOp, dVar, dC, dLst, dNil, ixF, onSeq, seqD, hp1, onO, atI_0, atI_1, atI_2, atI_3, ixN31, ixN32, ixN30, startD, List.map_cons, List.map_nil, List.length_cons, List.length_nil, List.cons_append, List.nil_append, Nat.reduceAdd, Nat.reduceSub, List.replicate, List.getElem?_cons_zero, List.getElem?_cons_succ, List.set_cons_zero, List.set_cons_succ, List.set_nil, true_and, and_true, if_true, ite_true]
  refine ⟨by decide, cmp_ints_nil hc1 ?_⟩
  simp only [onB]
  by_cases e : cs = []
  · rw [if_neg (by simp [e])]
    exact rest 0
  · rw [if_pos (by simp [e])]
    have hpos : 0 < cs.length := List.length_pos_iff.mpr e
    simp only [hp1, hc1, List.length_map, dSet, dAsg, dPar, dAug, dRet, dRetN, dDrop, dNext, dNever, dBreak, dCont, diSq, diR1, diR2, items, onI1, onI2, dVar, dC, dOp, dUn, dTest, onB, dAnd, dOr, dNot, dAndV, dOrV, dNotV, dIf, dNil, dCons, dTup, dLst, dLstM, dCall, dFn, hName, hNil, hCons, hSeq, hSub, setF, onSeq, seqD, dSl, doNo, doAt, onI, slF, lstV, lstM, on2, addF, mulF, iF, CT, negF, cmpF, id, ixF, onO, lenF, absF, maxF, minF, tupleF, listF, listFM, reprF, on1, dDictIx, dPairs, onS, lastD, dComp, bName, bSeq, bNames, dYes, wipeD, subF, fdivF, modF, powF, ltF, leF, gtF, geF, eqF, neF, endsD, atI_0, atI_1, atI_2, atI_3, ixN31, ixN32, ixN30, startD, List.map_cons, List.map_nil, List.length_cons, List.length_nil, List.cons_append, List.nil_append, Nat.reduceAdd, Nat.reduceSub, List.replicate, List.getElem?_cons_zero, List.getElem?_cons_succ, List.set_cons_zero, List.set_cons_succ, List.set_nil, true_and, and_true, if_true, ite_true]
    refine ⟨by omega, ?_⟩
    obtain ⟨x, hx, hm⟩ := atI_lt (xs := cs.map D.int) (i := a % (cs.length : Int)) (Int.emod_nonneg _ (by omega)) (by rw [List.length_map]; exact Int.emod_lt_of_pos _ (by omega))
    obtain ⟨y, _, rfl⟩ := List.mem_map.mp hm
    rw [hx]
    exact rest y
end DP

set_option Elab.async false
set_option linter.all false
set_option maxRecDepth 100000
set_option maxHeartbeats 4000000
namespace DP
open PySem PySem.Spec L2 DL Wm
def sp_law_draw : DSp := fun as M Q _ => ∃ (p : Addr) (n : Int), as = [.ref p, .int n] ∧ Pen M p ∧ 0 < n ∧ n.natAbs.log2 < 9000 ∧ ∀ v M', 0 ≤ v → v < n → PenTo M M' p → Q (.int v) M'
def d_law_draw (c_law_fresh : DSp) : DS :=
  (dSeq (dIfS (dTest (dOp ltF (dOp ixF (dVar 0) (dC (.int 2))) (dVar 1))) (dAsg (dFn c_law_fresh 1 (dCons (dVar 0) dNil)) (hSub (dVar 0) (dC (.int 2)) setF)) dNext)
  (dSeq (dSet (dOp modF (dOp ixF (dVar 0) (dC (.int 2))) (dVar 1)) 2)
  (dSeq (dAsg (dOp fdivF (dOp ixF (dVar 0) (dC (.int 2))) (dVar 1)) (hSub (dVar 0) (dC (.int 2)) setF))
  (dRet (dVar 2)))))
theorem b_law_draw {as : List D} {M : DM} {Qd : DK} {Xd : DX} (hl : as.length = 2) (h : sp_law_draw as M Qd Xd) : d_law_draw sp_law_fresh (endsD Qd Xd) (startD 3 as) M := by
  obtain ⟨p, n, rfl, hP, n0, n9, q⟩ := h
  unfold d_law_draw
  simp only [atI_0, atI_1, atI_2, atI_3, ixN31, ixN32, ixN30, startD, List.map_cons, List.map_nil, List.length_cons, List.length_nil, List.cons_append, List.nil_append, Nat.reduceAdd, Nat.reduceSub, List.replicate, List.getElem?_cons_zero, List.getElem?_cons_succ, List.set_cons_zero, List.set_cons_succ, List.set_nil, true_and, and_true, if_true, ite_true]
  refine go_seq fun k hk => ?_
  have rest : ∀ M1, PenTo M M1 p → k (endsD Qd Xd) [some (.ref p), some (.int n), none] M1 := by
    intro M1 t1
    subst hk
    obtain ⟨l, cs, a, b, hp, hc, ne⟩ := t1.pen
    simp only [dSeq, penO, hp, noL, dSet, dAsg, dPar, dAug, dRet, dRetN, dDrop, dNext, dNever, dBreak, dCont, diSq, diR1, diR2, items, onI1, onI2, dVar, dC, dOp, dUn, dTest, onB, dAnd, dOr, dNot, dAndV, dOrV, dNotV, dIf, dNil, dCons, dTup, dLst, dLstM, dCall, dFn, hName, hNil, hCons, hSeq, hSub, setF, onSeq, seqD, dSl, doNo, doAt, onI, slF, lstV, lstM, on2, addF, mulF, iF, CT, negF, cmpF, id, ixF, onO, lenF, absF, maxF, minF, tupleF, listF, listFM, reprF, on1, dDictIx, dPairs, onS, lastD, dComp, bName, bSeq, bNames, dYes, wipeD, subF, fdivF, modF, powF, ltF, leF, gtF, geF, eqF, neF, endsD, atI_0, atI_1, atI_2, atI_3, ixN31, ixN32, ixN30, startD, List.map_cons, List.map_nil, List.length_cons, List.length_nil, List.cons_append, List.nil_append, Nat.reduceAdd, Nat.reduceSub, List.replicate, List.getElem?_cons_zero, List.getElem?_cons_succ, List.set_cons_zero, List.set_cons_succ, List.set_nil, true_and, and_true, if_true, ite_true]
    refine ⟨n0, ⟨n0, n9⟩, ?_⟩
    exact rtD.of (q _ _ (Int.emod_nonneg _ (by omega)) (Int.emod_lt_of_pos _ n0) (t1.trans (pen_put hp hc ne)))
  obtain ⟨l, cs, a, b, hp, hc, ne⟩ := id hP
  simp only [dIfS, penO, hp, noL, dSet, dAsg, dPar, dAug, dRet, dRetN, dDrop, dNext, dNever, dBreak, dCont, diSq, diR1, diR2, items, onI1, onI2, dVar, dC, dOp, dUn, dTest, onB, dAnd, dOr, dNot, dAndV, dOrV, dNotV, dIf, dNil, dCons, dTup, dLst, dLstM, dCall, dFn, hName, hNil, hCons, hSeq, hSub, setF, onSeq, seqD, dSl, doNo, doAt, onI, slF, lstV, lstM, on2, addF, mulF, iF, CT, negF, cmpF, id, ixF, onO, lenF, absF, maxF, minF, tupleF, listF, listFM, reprF, on1, dDictIx, dPairs, onS, lastD, dComp, bName, bSeq, bNames, dYes, wipeD, subF, fdivF, modF, powF, ltF, leF, gtF, geF, eqF, neF, endsD, atI_0, atI_1, atI_2, atI_3, ixN31, ixN32, ixN30, startD, List.map_cons, List.map_nil, List.length_cons, List.length_nil, List.cons_append, List.nil_append, Nat.reduceAdd, Nat.reduceSub, List.replicate, List.getElem?_cons_zero, List.getElem?_cons_succ, List.set_cons_zero, List.set_cons_succ, List.set_nil, true_and, and_true, if_true, ite_true]
  by_cases c : b < n
  · rw [if_pos (by simpa using c)]
    refine ⟨p, rfl, hP, fun v M1 t1 => ?_⟩
    obtain ⟨l1, cs1, a1, b1, hp1, hc1, ne1⟩ := t1.pen
    simp only [penO, hp1, atI_0, atI_1, atI_2, atI_3, ixN31, ixN32, ixN30, startD, List.map_cons, List.map_nil, List.length_cons, List.length_nil, List.cons_append, List.nil_append, Nat.reduceAdd, Nat.reduceSub, List.replicate, List.getElem?_cons_zero, List.getElem?_cons_succ, List.set_cons_zero, List.set_cons_succ, List.set_nil, true_and, and_true, if_true, ite_true]
    exact ⟨by simp [noL], rest _ (t1.trans (pen_put hp1 hc1 ne1))⟩
  · rw [if_neg (by simpa using c)]
    exact rest M (.refl hP)
/-! ### words of letters -/
def code : Lt → Nat
  | .s => 115
  | .r => 114
  | .R => 82
def wS (w : List Lt) : Str := ⟨(w.map code).toArray⟩
theorem wS_len (w : List Lt) : (wS w).length = w.length := by
  show (wS w).cps.size = _
  simp [wS]
theorem wS_app (a b : List Lt) : wS a ++ wS b = wS (a ++ b) := by
  show Str.mk _ = _
  simp [wS]
theorem code_inj : ∀ {x y : Lt}, code x = code y → x = y := by
  intro x y
  cases x <;> cases y <;> simp [code]
theorem wS_inj {a b : List Lt} (h : wS a = wS b) : a = b := by
  have e : a.map code = b.map code := by
    have := congrArg (fun z : Str => z.cps.toList) h
    simpa [wS] using this
  exact List.map_inj_right (fun x y => code_inj) |>.mp e
theorem wS_nil : ("" : Str) = wS [] := by decide +kernel
theorem wS_s : ("s" : Str) = wS [.s] := by decide +kernel
theorem wS_rR : ("rR" : Str) = wS [.r, .R] := by decide +kernel
theorem wS_toList (w : List Lt) : (wS w).cps.toList = w.map code := by simp [wS]
theorem cutS_eq (z : Str) (lo hi : Option Int) : cutS z lo hi = ⟨((z.cps.toList.drop (HT.sIx z.length 0 lo)).take (HT.sIx z.length z.length hi - HT.sIx z.length 0 lo)).toArray⟩ := rfl
theorem cut_wS (w : List Lt) (lo hi : Option Int) : cutS (wS w) lo hi = wS ((w.drop (HT.sIx w.length 0 lo)).take (HT.sIx w.length w.length hi - HT.sIx w.length 0 lo)) := by
  rw [cutS_eq, wS_len, wS_toList, ← List.map_drop, ← List.map_take]
  rfl
theorem sIx_m1 (n : Nat) : HT.sIx n 0 (some (-1)) = n - 1 := by
  unfold HT.sIx
  simp
  omega
theorem last1 (w : List Lt) : cutS (wS w) (some (-1)) none = wS w.getLast?.toList := by
  rw [cut_wS, sIx_m1, HT.sIx_none]
  congr 1
  rcases List.eq_nil_or_concat w with rfl | ⟨r, x, rfl⟩
  · rfl
  · simp

def sp_law_word : DSp := fun as M Q _ => ∃ (p : Addr) (n : Int), as = [.ref p, .int n] ∧ Pen M p ∧ 0 ≤ n ∧ n ≤ 10000 ∧ ∀ (w : List Lt) M', red w = true → (w.length : Int) ≤ n → PenTo M M' p → Q (.str (wS w)) M'
def d_law_word (c_law_draw : DSp) : DS :=
  (dSeq (dPar 2 3 (dCons (dC (.str "")) (dCons (dFn c_law_draw 2 (dCons (dVar 0) (dCons (dOp addF (dVar 1) (dC (.int 1))) dNil))) dNil)))
  (dSeq (dIfS (dAnd (dTest (dOp eqF (dFn c_law_draw 2 (dCons (dVar 0) (dCons (dC (.int 2)) dNil))) (dC (.int 0)))) (dTest (dOp gtF (dVar 3) (dC (.int 0))))) (dSet (dC (.str "s")) 2) dNext)
  (dSeq (dWhile (dTest (dOp ltF (dCall lenF (dCons (dVar 2) dNil)) (dVar 3))) (dIfS (dOr (dTest (dOp eqF (dSl (dVar 2) (doAt (dUn negF (dC (.int 1)))) doNo) (dC (.str "s")))) (dTest (dOp eqF (dVar 2) (dC (.str ""))))) (dSet (dOp addF (dVar 2) (dOp ixF (dC (.str "rR")) (dFn c_law_draw 2 (dCons (dVar 0) (dCons (dC (.int 2)) dNil))))) 2) (dSet (dOp addF (dVar 2) (dC (.str "s"))) 2)))
  (dRet (dVar 2)))))
theorem log2_small {n : Int} {k : Nat} (h0 : 0 ≤ n) (h : n < 2 ^ k) (hk : 0 < k) : n.natAbs.log2 < k := by
  obtain ⟨m, rfl⟩ := Int.eq_ofNat_of_zero_le h0
  refine PySem.Flt.log2_lt_of hk ?_
  have e : ((m : Int)) < ((2 ^ k : Nat) : Int) := by rw [Int.natCast_pow]; exact h
  rw [Int.natAbs_natCast]
  omega
theorem log2_lit {n : Int} (h0 : 0 ≤ n) (h : n < 1000000000) : n.natAbs.log2 < 9000 := Nat.lt_of_lt_of_le (log2_small h0 (show n < 2 ^ 30 by omega) (by decide)) (by decide)
theorem b_law_word {as : List D} {M : DM} {Qd : DK} {Xd : DX} (hl : as.length = 2) (h : sp_law_word as M Qd Xd) : d_law_word sp_law_draw (endsD Qd Xd) (startD 4 as) M := by
  obtain ⟨p, n, rfl, hP, n0, n9, q⟩ := h
  unfold d_law_word
  simp only [atI_0, atI_1, atI_2, atI_3, ixN31, ixN32, ixN30, startD, List.map_cons, List.map_nil, List.length_cons, List.length_nil, List.cons_append, List.nil_append, Nat.reduceAdd, Nat.reduceSub, List.replicate, List.getElem?_cons_zero, List.getElem?_cons_succ, List.set_cons_zero, List.set_cons_succ, List.set_nil, true_and, and_true, if_true, ite_true]
  refine go_seq fun k hk => ?_; simp only [dSet, dAsg, dPar, dAug, dRet, dRetN, dDrop, dNext, dNever, dBreak, dCont, diSq, diR1, diR2, items, onI1, onI2, dVar, dC, dOp, dUn, dTest, onB, dAnd, dOr, dNot, dAndV, dOrV, dNotV, dIf, dNil, dCons, dTup, dLst, dLstM, dCall, dFn, hName, hNil, hCons, hSeq, hSub, setF, onSeq, seqD, dSl, doNo, doAt, onI, slF, lstV, lstM, on2, addF, mulF, iF, CT, negF, cmpF, id, ixF, onO, lenF, absF, maxF, minF, tupleF, listF, listFM, reprF, on1, dDictIx, dPairs, onS, lastD, dComp, bName, bSeq, bNames, dYes, wipeD, subF, fdivF, modF, powF, ltF, leF, gtF, geF, eqF, neF, endsD, atI_0, atI_1, atI_2, atI_3, ixN31, ixN32, ixN30, startD, List.map_cons, List.map_nil, List.length_cons, List.length_nil, List.cons_append, List.nil_append, Nat.reduceAdd, Nat.reduceSub, List.replicate, List.getElem?_cons_zero, List.getElem?_cons_succ, List.set_cons_zero, List.set_cons_succ, List.set_nil, true_and, and_true, if_true, ite_true]
  refine ⟨p, n + 1, rfl, hP, by omega, log2_lit (by omega) (by omega), fun many M1 m0 m1 t1 => ?_⟩
  subst hk
  refine go_seq fun k hk => ?_
  have rest : ∀ M2 (w : List Lt), PenTo M M2 p → red w = true → (w.length : Int) ≤ many → k (endsD Qd Xd) [some (.ref p), some (.int n), some (.str (wS w)), some (.int many)] M2 := by
    intro M2 w t2 hr hw
    subst hk
    refine go_seq fun k hk => ?_
    refine ⟨fun m ρ M' => ∃ w : List Lt, ρ = [some (.ref p), some (.int n), some (.str (wS w)), some (.int many)] ∧ red w = true ∧ (w.length : Int) ≤ many ∧ m = many.toNat - w.length ∧ PenTo M M' p, ⟨_, w, rfl, hr, hw, rfl, t2⟩, ?_⟩
    rintro m ρ M' ⟨w, rfl, hr, hw, rfl, t⟩
    simp only [wS_len, dSet, dAsg, dPar, dAug, dRet, dRetN, dDrop, dNext, dNever, dBreak, dCont, diSq, diR1, diR2, items, onI1, onI2, dVar, dC, dOp, dUn, dTest, onB, dAnd, dOr, dNot, dAndV, dOrV, dNotV, dIf, dNil, dCons, dTup, dLst, dLstM, dCall, dFn, hName, hNil, hCons, hSeq, hSub, setF, onSeq, seqD, dSl, doNo, doAt, onI, slF, lstV, lstM, on2, addF, mulF, iF, CT, negF, cmpF, id, ixF, onO, lenF, absF, maxF, minF, tupleF, listF, listFM, reprF, on1, dDictIx, dPairs, onS, lastD, dComp, bName, bSeq, bNames, dYes, wipeD, subF, fdivF, modF, powF, ltF, leF, gtF, geF, eqF, neF, endsD, atI_0, atI_1, atI_2, atI_3, ixN31, ixN32, ixN30, startD, List.map_cons, List.map_nil, List.length_cons, List.length_nil, List.cons_append, List.nil_append, Nat.reduceAdd, Nat.reduceSub, List.replicate, List.getElem?_cons_zero, List.getElem?_cons_succ, List.set_cons_zero, List.set_cons_succ, List.set_nil, true_and, and_true, if_true, ite_true]
    refine ⟨by rw [sizeLine_eq]; omega, ?_⟩
    by_cases c : (w.length : Int) < many
    · rw [if_pos (by simpa using c)]
      simp only [dIfS, dOr, dTest, dOp, dSl, dVar, dC, doAt, doNo, dUn, negF, onI, slF, eqF, cmpF, id, onB, dSet, dFn, dCons, dNil, wS_s, wS_nil, wS_rR, last1, wS_len, atI_0, atI_1, atI_2, atI_3, ixN31, ixN32, ixN30, startD, List.map_cons, List.map_nil, List.length_cons, List.length_nil, List.cons_append, List.nil_append, Nat.reduceAdd, Nat.reduceSub, List.replicate, List.getElem?_cons_zero, List.getElem?_cons_succ, List.set_cons_zero, List.set_cons_succ, List.set_nil, true_and, and_true, if_true, ite_true]
      refine ⟨by rw [sizeLine_eq]; omega, ?_⟩
      have addS : ∀ (x : Lt) M2, PenTo M' M2 p → (∀ y, w.getLast? = some y → isS y ≠ isS x) → ∃ m', m' < many.toNat - w.length ∧ ∃ w' : List Lt, [some (D.ref p), some (D.int n), some (D.str (wS w ++ wS [x])), some (D.int many)] = [some (.ref p), some (.int n), some (.str (wS w')), some (.int many)] ∧ red w' = true ∧ (w'.length : Int) ≤ many ∧ m' = many.toNat - w'.length ∧ PenTo M M2 p := by
        intro x M2 t2 hx
        refine ⟨many.toNat - (w ++ [x]).length, by rw [List.length_append]; simp; omega, w ++ [x], by rw [wS_app], red_snoc w x hr hx, by rw [List.length_append]; simp; omega, rfl, t.trans t2⟩
      have draw : (w.getLast? = some .s ∨ w = []) → sp_law_draw [D.ref p, D.int 2] M' (fun y M2 => ixF (.str (wS [.r, .R])) y M2 fun y M2 => addF (.str (wS w)) y M2 fun z M2 => ∃ m', m' < many.toNat - w.length ∧ ∃ w' : List Lt, [some (D.ref p), some (D.int n), some z, some (D.int many)] = [some (.ref p), some (.int n), some (.str (wS w')), some (.int many)] ∧ red w' = true ∧ (w'.length : Int) ≤ many ∧ m' = many.toNat - w'.length ∧ PenTo M M2 p) (fun x M1 => False) := by
        intro hw2
        refine ⟨p, 2, rfl, t.pen, by decide, log2_lit (by decide) (by decide), fun v M2 v0 v2 t2 => ?_⟩
        have hx : ∀ x : Lt, isS x = false → ∀ y, w.getLast? = some y → isS y ≠ isS x := by
          intro x hx y hy
          rcases hw2 with e | e
          · rw [e] at hy; cases hy; rw [hx]; decide
          · rw [e] at hy; cases hy
        have hv : v = 0 ∨ v = 1 := by omega
        rcases hv with rfl | rfl
        · simp only [wS_len, wS_toList, dSet, dAsg, dPar, dAug, dRet, dRetN, dDrop, dNext, dNever, dBreak, dCont, diSq, diR1, diR2, items, onI1, onI2, dVar, dC, dOp, dUn, dTest, onB, dAnd, dOr, dNot, dAndV, dOrV, dNotV, dIf, dNil, dCons, dTup, dLst, dLstM, dCall, dFn, hName, hNil, hCons, hSeq, hSub, setF, onSeq, seqD, dSl, doNo, doAt, onI, slF, lstV, lstM, on2, addF, mulF, iF, CT, negF, cmpF, id, ixF, onO, lenF, absF, maxF, minF, tupleF, listF, listFM, reprF, on1, dDictIx, dPairs, onS, lastD, dComp, bName, bSeq, bNames, dYes, wipeD, subF, fdivF, modF, powF, ltF, leF, gtF, geF, eqF, neF, endsD, atI_0, atI_1, atI_2, atI_3, ixN31, ixN32, ixN30, startD, List.map_cons, List.map_nil, List.length_cons, List.length_nil, List.cons_append, List.nil_append, Nat.reduceAdd, Nat.reduceSub, List.replicate, List.getElem?_cons_zero, List.getElem?_cons_succ, List.set_cons_zero, List.set_cons_succ, List.set_nil, true_and, and_true, if_true, ite_true]
          exact ⟨by decide, (by show w.length + 1 ≤ sizeLine; rw [sizeLine_eq]; omega), addS .r M2 t2 (hx _ rfl)⟩
        · simp only [wS_len, wS_toList, dSet, dAsg, dPar, dAug, dRet, dRetN, dDrop, dNext, dNever, dBreak, dCont, diSq, diR1, diR2, items, onI1, onI2, dVar, dC, dOp, dUn, dTest, onB, dAnd, dOr, dNot, dAndV, dOrV, dNotV, dIf, dNil, dCons, dTup, dLst, dLstM, dCall, dFn, hName, hNil, hCons, hSeq, hSub, setF, onSeq, seqD, dSl, doNo, doAt, onI, slF, lstV, lstM, on2, addF, mulF, iF, CT, negF, cmpF, id, ixF, onO, lenF, absF, maxF, minF, tupleF, listF, listFM, reprF, on1, dDictIx, dPairs, onS, lastD, dComp, bName, bSeq, bNames, dYes, wipeD, subF, fdivF, modF, powF, ltF, leF, gtF, geF, eqF, neF, endsD, atI_0, atI_1, atI_2, atI_3, ixN31, ixN32, ixN30, startD, List.map_cons, List.map_nil, List.length_cons, List.length_nil, List.cons_append, List.nil_append, Nat.reduceAdd, Nat.reduceSub, List.replicate, List.getElem?_cons_zero, List.getElem?_cons_succ, List.set_cons_zero, List.set_cons_succ, List.set_nil, true_and, and_true, if_true, ite_true]
          exact ⟨by decide, (by show w.length + 1 ≤ sizeLine; rw [sizeLine_eq]; omega), addS .R M2 t2 (hx _ rfl)⟩
      by_cases e1 : w.getLast? = some .s
      · rw [if_pos (by simp [e1])]
        exact draw (.inl e1)
      · rw [if_neg (by
          intro z
          have z2 := wS_inj (of_decide_eq_true z)
          cases e3 : w.getLast? with
          | none => rw [e3] at z2; cases z2
          | some y => rw [e3] at z2 e1; cases z2; exact e1 rfl)]
        by_cases e2 : w = []
        · rw [if_pos (by simp [e2])]
          exact draw (.inr e2)
        · rw [if_neg (by
            intro z
            exact e2 (wS_inj (of_decide_eq_true z)))]
          simp only [addF, wS_len]
          refine ⟨by rw [sizeLine_eq]; simp; omega, addS .s M' (.refl t.pen) fun y hy => ?_⟩
          cases y with
          | s => exact absurd hy e1
          | r => decide
          | R => decide
    · rw [if_neg (by simpa using c)]
      subst hk
      simp only [dSet, dAsg, dPar, dAug, dRet, dRetN, dDrop, dNext, dNever, dBreak, dCont, diSq, diR1, diR2, items, onI1, onI2, dVar, dC, dOp, dUn, dTest, onB, dAnd, dOr, dNot, dAndV, dOrV, dNotV, dIf, dNil, dCons, dTup, dLst, dLstM, dCall, dFn, hName, hNil, hCons, hSeq, hSub, setF, onSeq, seqD, dSl, doNo, doAt, onI, slF, lstV, lstM, on2, addF, mulF, iF, CT, negF, cmpF, id, ixF, onO, lenF, absF, maxF, minF, tupleF, listF, listFM, reprF, on1, dDictIx, dPairs, onS, lastD, dComp, bName, bSeq, bNames, dYes, wipeD, subF, fdivF, modF, powF, ltF, leF, gtF, geF, eqF, neF, endsD, atI_0, atI_1, atI_2, atI_3, ixN31, ixN32, ixN30, startD, List.map_cons, List.map_nil, List.length_cons, List.length_nil, List.cons_append, List.nil_append, Nat.reduceAdd, Nat.reduceSub, List.replicate, List.getElem?_cons_zero, List.getElem?_cons_succ, List.set_cons_zero, List.set_cons_succ, List.set_nil, true_and, and_true, if_true, ite_true]
      exact rtD.of (q w M' hr (by omega) t)
  simp only [dIfS, dAnd, dSet, dAsg, dPar, dAug, dRet, dRetN, dDrop, dNext, dNever, dBreak, dCont, diSq, diR1, diR2, items, onI1, onI2, dVar, dC, dOp, dUn, dTest, onB, dAnd, dOr, dNot, dAndV, dOrV, dNotV, dIf, dNil, dCons, dTup, dLst, dLstM, dCall, dFn, hName, hNil, hCons, hSeq, hSub, setF, onSeq, seqD, dSl, doNo, doAt, onI, slF, lstV, lstM, on2, addF, mulF, iF, CT, negF, cmpF, id, ixF, onO, lenF, absF, maxF, minF, tupleF, listF, listFM, reprF, on1, dDictIx, dPairs, onS, lastD, dComp, bName, bSeq, bNames, dYes, wipeD, subF, fdivF, modF, powF, ltF, leF, gtF, geF, eqF, neF, endsD, atI_0, atI_1, atI_2, atI_3, ixN31, ixN32, ixN30, startD, List.map_cons, List.map_nil, List.length_cons, List.length_nil, List.cons_append, List.nil_append, Nat.reduceAdd, Nat.reduceSub, List.replicate, List.getElem?_cons_zero, List.getElem?_cons_succ, List.set_cons_zero, List.set_cons_succ, List.set_nil, true_and, and_true, if_true, ite_true]
  refine ⟨p, 2, rfl, t1.pen, by decide, log2_lit (by decide) (by decide), fun v M2 v0 v2 t2 => ?_⟩
  simp only [wS_nil, wS_s]
  by_cases c1 : v = 0
  · rw [if_pos (by simp [c1])]
    by_cases c2 : 0 < many
    · rw [if_pos (by simpa using c2)]
      exact rest M2 [.s] (t1.trans t2) rfl (by simp; omega)
    · rw [if_neg (by simpa using c2)]
      exact rest M2 [] (t1.trans t2) rfl (by simpa using m0)
  · rw [if_neg (by simpa using c1)]
    exact rest M2 [] (t1.trans t2) rfl (by simpa using m0)
end DP

set_option Elab.async false
set_option linter.all false
set_option maxRecDepth 100000
set_option maxHeartbeats 4000000
namespace DP
open PySem PySem.Spec L2 DL Wm
def sp_law_signed : DSp := sp_with_sign
def d_law_signed : DS :=
  (dSeq (dFor (diSq (dVar 0)) (hName 1) (dIfS (dTest (dOp neF (dVar 1) (dC (.int 0)))) (dRet (dCall tupleF (dCons (dComp (diSq (dVar 0)) (bName 2) dYes (dOp mulF (dVar 2) (dIf (dTest (dOp gtF (dVar 1) (dC (.int 0)))) (dC (.int 1)) (dUn negF (dC (.int 1))))) [2]) dNil))) dNext))
  (dRet (dCall tupleF (dCons (dVar 0) dNil))))
theorem b_law_signed {as : List D} {M : DM} {Qd : DK} {Xd : DX} (hl : as.length = 1) (h : sp_law_signed as M Qd Xd) : d_law_signed (endsD Qd Xd) (startD 3 as) M := by
  obtain ⟨ns, rfl, hn, q⟩ := h
  rw [← sg_all] at q
  unfold d_law_signed
  simp only [atI_0, atI_1, atI_2, atI_3, ixN31, ixN32, ixN30, startD, List.map_cons, List.map_nil, List.length_cons, List.length_nil, List.cons_append, List.nil_append, Nat.reduceAdd, Nat.reduceSub, List.replicate, List.getElem?_cons_zero, List.getElem?_cons_succ, List.set_cons_zero, List.set_cons_succ, List.set_nil, true_and, and_true, if_true, ite_true]
  refine go_seq fun k hk => ?_
  simp only [dFor, diSq, dVar, items, intsD, atI_0, atI_1, atI_2, atI_3, ixN31, ixN32, ixN30, startD, List.map_cons, List.map_nil, List.length_cons, List.length_nil, List.cons_append, List.nil_append, Nat.reduceAdd, Nat.reduceSub, List.replicate, List.getElem?_cons_zero, List.getElem?_cons_succ, List.set_cons_zero, List.set_cons_succ, List.set_nil, true_and, and_true, if_true, ite_true]
  have key : ∀ (suf : List Int) (o : Option D), Qd (intsD (sg ns suf)) M → dLoop (hName 1) (dIfS (dTest (dOp neF (dVar 1) (dC (.int 0)))) (dRet (dCall tupleF (dCons (dComp (diSq (dVar 0)) (bName 2) dYes (dOp mulF (dVar 2) (dIf (dTest (dOp gtF (dVar 1) (dC (.int 0)))) (dC (.int 1)) (dUn negF (dC (.int 1))))) [2]) dNil))) dNext)
      (fun _ => True) { endsD Qd Xd with nx := fun ρ M => k (endsD Qd Xd) ρ M } (suf.map D.int) [some (intsD ns), o, none] M := by
    intro suf
    induction suf with
    | nil =>
      intro o q
      subst hk
      simp only [List.map_nil, dLoop, intsD, dSet, dAsg, dPar, dAug, dRet, dRetN, dDrop, dNext, dNever, dBreak, dCont, diSq, diR1, diR2, items, onI1, onI2, dVar, dC, dOp, dUn, dTest, onB, dAnd, dOr, dNot, dAndV, dOrV, dNotV, dIf, dNil, dCons, dTup, dLst, dLstM, dCall, dFn, hName, hNil, hCons, hSeq, hSub, setF, onSeq, seqD, dSl, doNo, doAt, onI, slF, lstV, lstM, on2, addF, mulF, iF, CT, negF, cmpF, id, ixF, onO, lenF, absF, maxF, minF, tupleF, listF, listFM, reprF, on1, dDictIx, dPairs, onS, lastD, dComp, bName, bSeq, bNames, dYes, wipeD, subF, fdivF, modF, powF, ltF, leF, gtF, geF, eqF, neF, endsD, atI_0, atI_1, atI_2, atI_3, ixN31, ixN32, ixN30, startD, List.map_cons, List.map_nil, List.length_cons, List.length_nil, List.cons_append, List.nil_append, Nat.reduceAdd, Nat.reduceSub, List.replicate, List.getElem?_cons_zero, List.getElem?_cons_succ, List.set_cons_zero, List.set_cons_succ, List.set_nil, true_and, and_true, if_true, ite_true]
      exact rtD.of q
    | cons n r ih =>
      intro o q
      unfold sg at q
      rw [List.map_cons]
      refine ⟨trivial, ?_⟩
      simp only [dIfS, intsD, dSet, dAsg, dPar, dAug, dRet, dRetN, dDrop, dNext, dNever, dBreak, dCont, diSq, diR1, diR2, items, onI1, onI2, dVar, dC, dOp, dUn, dTest, onB, dAnd, dOr, dNot, dAndV, dOrV, dNotV, dIf, dNil, dCons, dTup, dLst, dLstM, dCall, dFn, hName, hNil, hCons, hSeq, hSub, setF, onSeq, seqD, dSl, doNo, doAt, onI, slF, lstV, lstM, on2, addF, mulF, iF, CT, negF, cmpF, id, ixF, onO, lenF, absF, maxF, minF, tupleF, listF, listFM, reprF, on1, dDictIx, dPairs, onS, lastD, dComp, bName, bSeq, bNames, dYes, wipeD, subF, fdivF, modF, powF, ltF, leF, gtF, geF, eqF, neF, endsD, atI_0, atI_1, atI_2, atI_3, ixN31, ixN32, ixN30, startD, List.map_cons, List.map_nil, List.length_cons, List.length_nil, List.cons_append, List.nil_append, Nat.reduceAdd, Nat.reduceSub, List.replicate, List.getElem?_cons_zero, List.getElem?_cons_succ, List.set_cons_zero, List.set_cons_succ, List.set_nil, true_and, and_true, if_true, ite_true]
      by_cases z : n = 0
      · rw [if_pos z] at q
        rw [if_neg (by simp [z])]
        exact ih _ q
      · rw [if_neg z] at q
        rw [if_pos (by simp [z])]
        refine ⟨by rw [List.length_map]; exact Nat.le_trans hn (by decide), ?_⟩
        refine dCL_map D.int (fun x => D.int (x * (if 0 < n then 1 else -1))) trivial ns [] (fun _ _ => by simp [noL]) (fun x _ A B hA => ?_) ?_
        · simp only [dSet, dAsg, dPar, dAug, dRet, dRetN, dDrop, dNext, dNever, dBreak, dCont, diSq, diR1, diR2, items, onI1, onI2, dVar, dC, dOp, dUn, dTest, onB, dAnd, dOr, dNot, dAndV, dOrV, dNotV, dIf, dNil, dCons, dTup, dLst, dLstM, dCall, dFn, hName, hNil, hCons, hSeq, hSub, setF, onSeq, seqD, dSl, doNo, doAt, onI, slF, lstV, lstM, on2, addF, mulF, iF, CT, negF, cmpF, id, ixF, onO, lenF, absF, maxF, minF, tupleF, listF, listFM, reprF, on1, dDictIx, dPairs, onS, lastD, dComp, bName, bSeq, bNames, dYes, wipeD, subF, fdivF, modF, powF, ltF, leF, gtF, geF, eqF, neF, endsD, atI_0, atI_1, atI_2, atI_3, ixN31, ixN32, ixN30, startD, List.map_cons, List.map_nil, List.length_cons, List.length_nil, List.cons_append, List.nil_append, Nat.reduceAdd, Nat.reduceSub, List.replicate, List.getElem?_cons_zero, List.getElem?_cons_succ, List.set_cons_zero, List.set_cons_succ, List.set_nil, true_and, and_true, if_true, ite_true]
          by_cases c : 0 < n
          · rw [if_pos (by simpa using c)]
            rw [if_pos c] at hA
            exact ⟨.inl (.inr ⟨by decide, by decide⟩), hA⟩
          · rw [if_neg (by simpa using c)]
            rw [if_neg c] at hA
            exact ⟨.inl (.inr ⟨by decide, by decide⟩), hA⟩
        · rw [List.nil_append]
          refine rtD.of ?_
          by_cases c : n < 0
          · rw [if_pos c] at q
            have e : ns.map (fun x => D.int (x * (if 0 < n then 1 else -1))) = (ns.map (-·)).map D.int := by
              rw [List.map_map]
              refine List.map_congr_left fun x _ => ?_
              rw [if_neg (by omega)]
              simp
            rw [e]
            exact q
          · rw [if_neg c] at q
            have e : ns.map (fun x => D.int (x * (if 0 < n then 1 else -1))) = ns.map D.int := by
              refine List.map_congr_left fun x _ => ?_
              rw [if_pos (by omega)]
              simp
            rw [e]
            exact q
  exact key ns none q
def sp_law_product : DSp := sp_product
def d_law_product (c_law_signed : DSp) : DS :=
  (dSeq (dAsg (dVar 1) (hSeq 4 (hCons (hName 2) (hCons (hName 3) (hCons (hName 4) (hCons (hName 5) hNil))))))
  (dSeq (dAsg (dVar 0) (hSeq 4 (hCons (hName 6) (hCons (hName 7) (hCons (hName 8) (hCons (hName 9) hNil))))))
  (dRet (dFn c_law_signed 1 (dCons (dTup (dCons (dOp addF (dOp mulF (dVar 2) (dVar 6)) (dOp mulF (dVar 3) (dVar 8))) (dCons (dOp addF (dOp mulF (dVar 2) (dVar 7)) (dOp mulF (dVar 3) (dVar 9))) (dCons (dOp addF (dOp mulF (dVar 4) (dVar 6)) (dOp mulF (dVar 5) (dVar 8))) (dCons (dOp addF (dOp mulF (dVar 4) (dVar 7)) (dOp mulF (dVar 5) (dVar 9))) dNil))))) dNil)))))
theorem b_law_product {as : List D} {M : DM} {Qd : DK} {Xd : DX} (hl : as.length = 2) (h : sp_law_product as M Qd Xd) : d_law_product sp_law_signed (endsD Qd Xd) (startD 10 as) M := by
  obtain ⟨m, n, j, k, rfl, ⟨m1, m2, m3, m4⟩, ⟨n1, n2, n3, n4⟩, hjk, q⟩ := h
  have c : ∀ {x y : Int}, x.natAbs ≤ 2 ^ k → y.natAbs ≤ 2 ^ j → MulC x y := fun hx hy => mulC_of hx hy (by omega)
  simp only [d_law_product, mvD, intsD, Mv.l, dSeq, dSet, dAsg, dPar, dAug, dRet, dRetN, dDrop, dIfS, dNext, dNever, dBreak, dCont, dFor, diSq, diR1, diR2, items, onI1, onI2, dVar, dC, dOp, dUn, dTest, onB, dAnd, dOr, dNot, dAndV, dOrV, dNotV, dIf, dNil, dCons, dTup, dLst, dLstM, dCall, dFn, hName, hNil, hCons, hSeq, hSub, setF, onSeq, seqD, dSl, doNo, doAt, onI, slF, lstV, lstM, on2, addF, mulF, iF, CT, negF, cmpF, id, ixF, onO, lenF, absF, maxF, minF, tupleF, listF, listFM, reprF, on1, dDictIx, dPairs, onS, lastD, dComp, bName, bSeq, bNames, dYes, wipeD, subF, fdivF, modF, powF, ltF, leF, gtF, geF, eqF, neF, endsD, atI_0, atI_1, atI_2, atI_3, ixN31, ixN32, ixN30, startD, List.map_cons, List.map_nil, List.length_cons, List.length_nil, List.cons_append, List.nil_append, Nat.reduceAdd, Nat.reduceSub, List.replicate, List.getElem?_cons_zero, List.getElem?_cons_succ, List.set_cons_zero, List.set_cons_succ, List.set_nil, true_and, and_true, if_true, ite_true]
  exact ⟨c n1 m1, c n2 m3, c n1 m2, c n2 m4, c n3 m1, c n4 m3, c n3 m2, c n4 m4, by decide, (mul m n).l, rfl, by simp [Mv.l], rtD.of (sgn_of q)⟩
/-! ### the move of a word -/
def sp_law_move : DSp := fun as M Q _ => ∃ w : List Lt, as = [.str (wS w)] ∧ w.length ≤ 100000 ∧ Q (mvD (moveW w)) M
def d_law_move (c_law_product : DSp) : DS :=
  (dSeq (dSet (dTup (dCons (dC (.int 1)) (dCons (dC (.int 0)) (dCons (dC (.int 0)) (dCons (dC (.int 1)) dNil))))) 1)
  (dSeq (dFor (diSq (dVar 0)) (hName 2) (dSet (dFn c_law_product 2 (dCons (dVar 1) (dCons (dDictIx [("s", (dTup (dCons (dC (.int 0)) (dCons (dC (.int 1)) (dCons (dUn negF (dC (.int 1))) (dCons (dC (.int 0)) dNil)))))), ("r", (dTup (dCons (dC (.int 0)) (dCons (dC (.int 1)) (dCons (dUn negF (dC (.int 1))) (dCons (dUn negF (dC (.int 1))) dNil)))))), ("R", (dTup (dCons (dC (.int 1)) (dCons (dC (.int 1)) (dCons (dUn negF (dC (.int 1))) (dCons (dC (.int 0)) dNil))))))] (dVar 2)) dNil))) 1))
  (dRet (dVar 1))))
theorem chars_wS (w : List Lt) : chars (wS w) = w.map fun x => D.str (wS [x]) := by
  unfold chars
  rw [wS_toList, List.map_map]
  rfl
theorem wS_r : ("r" : Str) = wS [.r] := by decide +kernel
theorem wS_R : ("R" : Str) = wS [.R] := by decide +kernel
theorem wS_eq {a b : List Lt} : (wS a = wS b) = (a = b) := propext ⟨wS_inj, fun e => by rw [e]⟩
theorem dict_letters (x : Lt) : lastD [("s", mvD Lt.s.mv), ("r", mvD Lt.r.mv), ("R", mvD Lt.R.mv)] (wS [x]) = some (mvD x.mv) := by
  simp only [lastD, wS_s, wS_r, wS_R, wS_eq]
  cases x <;> simp
theorem b_law_move {as : List D} {M : DM} {Qd : DK} {Xd : DX} (hl : as.length = 1) (h : sp_law_move as M Qd Xd) : d_law_move sp_law_product (endsD Qd Xd) (startD 3 as) M := by
  obtain ⟨w, rfl, hw, q⟩ := h
  unfold d_law_move
  simp only [atI_0, atI_1, atI_2, atI_3, ixN31, ixN32, ixN30, startD, List.map_cons, List.map_nil, List.length_cons, List.length_nil, List.cons_append, List.nil_append, Nat.reduceAdd, Nat.reduceSub, List.replicate, List.getElem?_cons_zero, List.getElem?_cons_succ, List.set_cons_zero, List.set_cons_succ, List.set_nil, true_and, and_true, if_true, ite_true]
  refine go_seq fun k hk => ?_; simp only [dSet, dAsg, dPar, dAug, dRet, dRetN, dDrop, dNext, dNever, dBreak, dCont, diSq, diR1, diR2, items, onI1, onI2, dVar, dC, dOp, dUn, dTest, onB, dAnd, dOr, dNot, dAndV, dOrV, dNotV, dIf, dNil, dCons, dTup, dLst, dLstM, dCall, dFn, hName, hNil, hCons, hSeq, hSub, setF, onSeq, seqD, dSl, doNo, doAt, onI, slF, lstV, lstM, on2, addF, mulF, iF, CT, negF, cmpF, id, ixF, onO, lenF, absF, maxF, minF, tupleF, listF, listFM, reprF, on1, dDictIx, dPairs, onS, lastD, dComp, bName, bSeq, bNames, dYes, wipeD, subF, fdivF, modF, powF, ltF, leF, gtF, geF, eqF, neF, endsD, atI_0, atI_1, atI_2, atI_3, ixN31, ixN32, ixN30, startD, List.map_cons, List.map_nil, List.length_cons, List.length_nil, List.cons_append, List.nil_append, Nat.reduceAdd, Nat.reduceSub, List.replicate, List.getElem?_cons_zero, List.getElem?_cons_succ, List.set_cons_zero, List.set_cons_succ, List.set_nil, true_and, and_true, if_true, ite_true]; subst hk
  refine ⟨by decide, ?_⟩
  refine go_seq fun k hk => ?_
  simp only [dFor, diSq, dVar, items, atI_0, atI_1, atI_2, atI_3, ixN31, ixN32, ixN30, startD, List.map_cons, List.map_nil, List.length_cons, List.length_nil, List.cons_append, List.nil_append, Nat.reduceAdd, Nat.reduceSub, List.replicate, List.getElem?_cons_zero, List.getElem?_cons_succ, List.set_cons_zero, List.set_cons_succ, List.set_nil, true_and, and_true, if_true, ite_true]
  rw [chars_wS]
  refine dLoop_inv (fun ds ρ M' => M' = M ∧ ∃ (suf : List Lt) (m : Mv) (n : Nat) (o : Option D), ds = suf.map (fun x => D.str (wS [x])) ∧ ρ = [some (.str (wS w)), some (mvD m), o] ∧ moveL m suf = moveW w ∧ Good n m ∧ n + suf.length ≤ w.length) ?_ ?_ _ _ _ ⟨rfl, w, one, 0, none, rfl, rfl, rfl, Good.one, by omega⟩
  · rintro ρ M' ⟨rfl, suf, m, n, o, e, rfl, em, hg, hn⟩
    have e2 : suf = [] := by
      cases suf with
      | nil => rfl
      | cons x r => cases e
    subst e2
    subst hk
    simp only [dSet, dAsg, dPar, dAug, dRet, dRetN, dDrop, dNext, dNever, dBreak, dCont, diSq, diR1, diR2, items, onI1, onI2, dVar, dC, dOp, dUn, dTest, onB, dAnd, dOr, dNot, dAndV, dOrV, dNotV, dIf, dNil, dCons, dTup, dLst, dLstM, dCall, dFn, hName, hNil, hCons, hSeq, hSub, setF, onSeq, seqD, dSl, doNo, doAt, onI, slF, lstV, lstM, on2, addF, mulF, iF, CT, negF, cmpF, id, ixF, onO, lenF, absF, maxF, minF, tupleF, listF, listFM, reprF, on1, dDictIx, dPairs, onS, lastD, dComp, bName, bSeq, bNames, dYes, wipeD, subF, fdivF, modF, powF, ltF, leF, gtF, geF, eqF, neF, endsD, atI_0, atI_1, atI_2, atI_3, ixN31, ixN32, ixN30, startD, List.map_cons, List.map_nil, List.length_cons, List.length_nil, List.cons_append, List.nil_append, Nat.reduceAdd, Nat.reduceSub, List.replicate, List.getElem?_cons_zero, List.getElem?_cons_succ, List.set_cons_zero, List.set_cons_succ, List.set_nil, true_and, and_true, if_true, ite_true]
    have e3 : m = moveW w := em
    rw [e3]
    exact rtD.of q
  · rintro d r ρ M' ⟨rfl, suf, m, n, o, e, rfl, em, hg, hn⟩ nx hnx
    cases suf with
    | nil => cases e
    | cons x suf =>
      rw [List.map_cons] at e
      injection e with e1 e2
      subst e1 e2
      simp only [hName, dSet, dFn, dCons, dNil, dDictIx, dPairs, dTup, dC, dUn, negF, dVar, onS, atI_0, atI_1, atI_2, atI_3, ixN31, ixN32, ixN30, startD, List.map_cons, List.map_nil, List.length_cons, List.length_nil, List.cons_append, List.nil_append, Nat.reduceAdd, Nat.reduceSub, List.replicate, List.getElem?_cons_zero, List.getElem?_cons_succ, List.set_cons_zero, List.set_cons_succ, List.set_nil, true_and, and_true, if_true, ite_true]
      refine ⟨by decide, by decide, by decide, by decide, ?_⟩
      have e3 := dict_letters x
      simp only [mvD, intsD, Mv.l, Lt.mv, List.map_cons, List.map_nil] at e3
      rw [e3]
      refine ⟨by cases x <;> simp [noL, noLs], m, x.mv, n, 1, rfl, hg.bn, ?_, by omega, hnx _ _ ⟨rfl, suf, _, n + 1, _, rfl, rfl, em, hg.letter x, by rw [List.length_cons] at hn; omega⟩⟩
      cases x <;> (unfold Bn Lt.mv; decide)
/-! ### what the laws ask of moves -/
theorem pyOf_mv (m : Mv) : pyOf (mvD m) = some (.tuple (m.l.map PyData.int)) := by
  unfold mvD intsD
  simp only [pyOf, pyOfs_ints, Option.map_some]
theorem pyM_mv (m : Mv) (M : DM) : pyM M (mvD m) = some (.tuple (m.l.map PyData.int)) := pyOf_mv m
def shownMv (m : Mv) : Str := (PyData.tuple (m.l.map PyData.int)).shown
theorem strLen (x y : Str) : (x ++ y).length = x.length + y.length := by
  show (Str.mk _).cps.size = _
  exact Array.size_append
theorem piled_map {α : Type} (f : α → Str) (b : Nat) : ∀ xs : List α, (∀ x ∈ xs, (f x).length ≤ b) → piled (xs.map f) ≤ xs.length * (b + 2)
  | [], _ => Nat.zero_le _
  | x :: xs, h => by
    have ih := piled_map f b xs fun y hy => h y (List.mem_cons_of_mem _ hy)
    have hx := h x List.mem_cons_self
    rw [List.map_cons, piled_cons, List.length_cons, Nat.add_mul]
    omega
theorem tupleText_len (ts : List Str) : (tupleText ts).length ≤ piled ts + 3 := by
  unfold tupleText
  rw [strLen, strLen]
  have e1 : (("(" : Str)).length = 1 := by decide +kernel
  have e2 : ((if ts.length == 1 then ",)" else ")" : String) : Str).length ≤ 2 := by
    split <;> decide +kernel
  have e3 : (Str.join ", " ts).length ≤ piled ts := by
    by_cases h : ts = []
    · subst h
      decide +kernel
    · have := join_length_add ts h
      omega
  have e4 : (Str.ofString (if (ts.length == 1) = true then ",)" else ")")).length ≤ 2 := e2
  omega
theorem shownAll_ints : ∀ ns : List Int, PyData.shownAll (ns.map PyData.int) = ns.map fun i => Str.ofString (toString i)
  | [] => by simp [PyData.shownAll]
  | n :: ns => by
    simp only [List.map_cons, PyData.shownAll, PyData.shown, shownAll_ints ns]
theorem show_ints : ∀ ns : List Int, (∀ n ∈ ns, n.natAbs.log2 < 1920) → PyData.showableAll (ns.map PyData.int) = true
  | [], _ => by simp [PyData.showableAll]
  | n :: ns, h => by
    simp only [List.map_cons, PyData.showableAll, PyData.showable, Bool.and_eq_true, decide_eq_true_eq]
    exact ⟨h n List.mem_cons_self, show_ints ns fun m hm => h m (List.mem_cons_of_mem _ hm)⟩
theorem repr_ints {M : DM} {ns : List Int} {Q : DK} (h : ∀ n ∈ ns, n.natAbs.log2 < 1920) (hl : ns.length ≤ 1000) (q : Q (.str (PyData.tuple (ns.map PyData.int)).shown) M) : reprF [intsD ns] M Q := by
  have e : pyM M (intsD ns) = some (.tuple (ns.map PyData.int)) := by
    unfold intsD
    simp only [pyM, pyOf, pyOfs_ints, Option.map_some]
  simp only [reprF, on1, e, onO]
  refine ⟨?_, ?_, ?_, q⟩
  · unfold PyData.showable
    exact show_ints ns h
  · have := depth_ints ns
    unfold PyData.depth
    omega
  · unfold PyData.shown
    rw [shownAll_ints]
    refine Nat.le_trans (tupleText_len _) ?_
    have := piled_map (fun i : Int => Str.ofString (toString i)) 1921 ns fun i hi => by
      rw [ofString_length]
      exact int_text_length_le (k := 1920) (by decide) (h i hi)
    have h2 : ns.length * (1921 + 2) ≤ 1000 * 1923 := Nat.mul_le_mul hl (by decide)
    rw [sizeLine_eq]
    omega
theorem log2_of_le {n k : Nat} (h : n ≤ 2 ^ k) (hk : k ≤ 1900) : n.log2 < 1920 := by
  have h0 := Nat.two_pow_pos k
  have h1 : n < 2 ^ (k + 1) := by rw [Nat.pow_succ]; omega
  exact Nat.lt_of_lt_of_le (PySem.Flt.log2_lt_of (by omega) h1) (by omega : k + 1 ≤ 1920)
theorem Bn.log2 {k : Nat} {m : Mv} (h : Bn k m) (hk : k ≤ 1900) : ∀ n ∈ m.l, n.natAbs.log2 < 1920 := by
  obtain ⟨a, b, c, d⟩ := h
  intro n hn
  simp only [Mv.l, List.mem_cons, List.not_mem_nil, or_false] at hn
  rcases hn with rfl | rfl | rfl | rfl
  · exact log2_of_le a hk
  · exact log2_of_le b hk
  · exact log2_of_le c hk
  · exact log2_of_le d hk
theorem repr_mv {M : DM} {m : Mv} {k : Nat} {Q : DK} (h : Bn k m) (hk : k ≤ 1900) (q : Q (.str (shownMv m)) M) : reprF [mvD m] M Q :=
  repr_ints (Bn.log2 h hk) (by simp [Mv.l]) q
theorem eqv_ints : ∀ ns ms : List Int, PyData.eqvAll (ns.map PyData.int) (ms.map PyData.int) = decide (ns = ms)
  | [], [] => by simp [PyData.eqvAll]
  | [], _ :: _ => by simp [PyData.eqvAll]
  | _ :: _, [] => by simp [PyData.eqvAll]
  | n :: ns, m :: ms => by
    simp only [List.map_cons, PyData.eqvAll, PyData.eqv, eqv_ints ns ms, List.cons.injEq]
    by_cases h : n = m <;> simp [h]
theorem cmp_intsD {f : Bool → Bool} {M : DM} {ns ms : List Int} {Q : DK} (q : Q (.bl (f (decide (ns = ms)))) M) : cmpF f (intsD ns) (intsD ms) M Q := by
  have e : ∀ ns : List Int, pyM M (.tup (ns.map D.int)) = some (.tuple (ns.map PyData.int)) := fun ns => by
    simp only [pyM, pyOf, pyOfs_ints, Option.map_some]
  unfold intsD
  simp only [cmpF, e, onP, PyData.eqv, eqv_ints]
  exact ⟨(shaped_ints ns).2, (shaped_ints ms).2, q⟩
theorem l_inj {m n : Mv} : (m.l = n.l) = (m = n) := by
  refine propext ⟨fun h => ?_, fun h => by rw [h]⟩
  simp only [Mv.l, List.cons.injEq, and_true] at h
  exact Wm.ext h.1 h.2.1 h.2.2.1 h.2.2.2
theorem cmp_mv {f : Bool → Bool} {M : DM} {m n : Mv} {Q : DK} (q : Q (.bl (f (decide (m = n)))) M) : cmpF f (mvD m) (mvD n) M Q := by
  refine cmp_intsD ?_
  have e : decide (m.l = n.l) = decide (m = n) := by simp only [l_inj]
  rw [e]
  exact q
end DP

set_option linter.all false
set_option Elab.async false
/-! Values: fractions and infinity, in plain Lean. -/
namespace Wm
structure Vl where
  p : Int
  q : Int
  deriving DecidableEq
def Vl.l (v : Vl) : List Int := [v.p, v.q]
def vneg (v : Vl) : Vl := ⟨-v.p, -v.q⟩
/-- the sign with the second number positive, or 0 and the first one not negative -/
def nrm (v : Vl) : Vl := if v.q < 0 ∨ v.q = 0 ∧ v.p < 0 then vneg v else v
/-- what a move makes of a pair, before the sign -/
def app (m : Mv) (v : Vl) : Vl := ⟨m.a * v.p + m.b * v.q, m.c * v.p + m.d * v.q⟩
abbrev act (m : Mv) (v : Vl) : Vl := nrm (app m v)
theorem vext {u v : Vl} (h1 : u.p = v.p) (h2 : u.q = v.q) : u = v := by
  cases u; cases v; simp at *; exact ⟨h1, h2⟩
theorem vneg_vneg (v : Vl) : vneg (vneg v) = v := by cases v; simp [vneg]
theorem nrm_or (v : Vl) : nrm v = v ∨ nrm v = vneg v := by
  unfold nrm
  split
  · exact .inr rfl
  · exact .inl rfl
theorem nrm_neg (v : Vl) : nrm (vneg v) = nrm v := by
  obtain ⟨p, q⟩ := v
  unfold nrm vneg
  dsimp only
  by_cases h : q < 0 ∨ q = 0 ∧ p < 0
  · rw [if_pos h, if_neg (by omega)]
  · rw [if_neg h]
    by_cases z : p = 0 ∧ q = 0
    · obtain ⟨rfl, rfl⟩ := z
      simp
    · rw [if_pos (by omega)]
      simp
theorem nrm_nrm (v : Vl) : nrm (nrm v) = nrm v := by
  rcases nrm_or v with h | h
  · rw [h, h]
  · rw [h, nrm_neg, h]
theorem app_vneg (m : Mv) (v : Vl) : app m (vneg v) = vneg (app m v) := by
  apply vext <;> simp [app, vneg, Int.neg_add, Int.mul_neg]
theorem app_neg (m : Mv) (v : Vl) : app (neg m) v = vneg (app m v) := by
  apply vext <;> simp [app, vneg, neg, Int.neg_add, Int.neg_mul]
theorem act_nrm (m : Mv) (v : Vl) : act m (nrm v) = act m v := by
  rcases nrm_or v with h | h
  · rw [h]
  · rw [h]; unfold act; rw [app_vneg, nrm_neg]
theorem act_sgn (m : Mv) (v : Vl) : act (sgn m) v = act m v := by
  rcases sgn_or m with h | h
  · rw [h]
  · rw [h]; unfold act; rw [app_neg, nrm_neg]
theorem app_mul (m n : Mv) (v : Vl) : app n (app m v) = app (mul m n) v := by
  apply vext <;> simp only [app, mul, Int.mul_add, Int.add_mul, Int.mul_assoc] <;> omega
theorem act_act (m n : Mv) (v : Vl) : act n (act m v) = act (sgn (mul m n)) v := by
  rw [act_sgn]
  show act n (nrm (app m v)) = _
  rw [act_nrm]
  unfold act
  rw [app_mul]
theorem act_one (v : Vl) : act one v = nrm v := by
  unfold act
  congr 1
  apply vext <;> simp [app, one]
theorem act_inv (m : Mv) (v : Vl) (h : det m = 1) : act (sgn (inv m)) (act m v) = nrm v := by
  rw [act_act, sgn_mul_r, act_sgn, mul_inv m h, act_one]
theorem act_inj (m : Mv) (u v : Vl) (h : det m = 1) (hu : nrm u = u) (hv : nrm v = v) : (act m u = act m v) = (u = v) := by
  refine propext ⟨fun e => ?_, fun e => by rw [e]⟩
  have := congrArg (act (sgn (inv m))) e
  rw [act_inv m u h, act_inv m v h, hu, hv] at this
  exact this
/-- no common divisor -/
def Cop (v : Vl) : Prop := ∃ x y : Int, x * v.p + y * v.q = 1
theorem Cop.vneg {v : Vl} (h : Cop v) : Cop (vneg v) := by
  obtain ⟨x, y, h⟩ := h
  exact ⟨-x, -y, by simp only [Wm.vneg, Int.neg_mul_neg]; exact h⟩
theorem Cop.nrm {v : Vl} (h : Cop v) : Cop (nrm v) := by
  rcases nrm_or v with e | e
  · rw [e]; exact h
  · rw [e]; exact h.vneg
theorem Cop.app {m : Mv} {v : Vl} (h : Cop v) (hm : det m = 1) : Cop (app m v) := by
  obtain ⟨x, y, h⟩ := h
  refine ⟨m.d * x - m.c * y, m.a * y - m.b * x, ?_⟩
  obtain ⟨a, b, c, d⟩ := m
  obtain ⟨p, q⟩ := v
  simp only [det, Wm.app] at *
  have e : (d * x - c * y) * (a * p + b * q) + (a * y - b * x) * (c * p + d * q) = (a * d - b * c) * (x * p + y * q) := by
    simp only [Int.sub_mul, Int.mul_sub, Int.add_mul, Int.mul_add]
    simp only [Int.mul_assoc, Int.mul_comm, Int.mul_left_comm]
    omega
  rw [e, h, hm]
  rfl
theorem Cop.gcd {v : Vl} (h : Cop v) : Int.gcd v.p v.q = 1 := by
  obtain ⟨x, y, h⟩ := h
  have d1 : (Int.gcd v.p v.q : Int) ∣ 1 := by
    rw [← h]
    exact Int.dvd_add (Int.dvd_trans (Int.gcd_dvd_left ..) (Int.dvd_mul_left _ _)) (Int.dvd_trans (Int.gcd_dvd_right ..) (Int.dvd_mul_left _ _))
  have := Int.le_of_dvd (by decide) d1
  have h0 : (0 : Int) ≤ Int.gcd v.p v.q := Int.natCast_nonneg _
  have h2 : Int.gcd v.p v.q ≠ 0 := by
    intro z
    rw [z] at d1
    have := Int.zero_dvd.mp d1
    cases this
  omega
theorem bezN : ∀ (n a b : Nat), b ≤ n → ∃ x y : Int, (Nat.gcd a b : Int) = (a : Int) * x + (b : Int) * y
  | n, a, 0, _ => ⟨1, 0, by simp⟩
  | 0, a, b + 1, h => absurd h (by omega)
  | n + 1, a, b + 1, h => by
    have lt : a % (b + 1) ≤ n := by
      have := Nat.mod_lt a (show 0 < b + 1 by omega)
      omega
    obtain ⟨x, y, e⟩ := bezN n (b + 1) (a % (b + 1)) lt
    refine ⟨y, x - ((a / (b + 1) : Nat) : Int) * y, ?_⟩
    have g : Nat.gcd a (b + 1) = Nat.gcd (b + 1) (a % (b + 1)) := by
      rw [Nat.gcd_comm a, Nat.gcd_rec (b + 1) a, Nat.gcd_comm]
    have dm : ((a % (b + 1) : Nat) : Int) = (a : Int) - ((b + 1 : Nat) : Int) * ((a / (b + 1) : Nat) : Int) := by
      have := Nat.mod_add_div a (b + 1)
      have h2 : ((a % (b + 1) + (b + 1) * (a / (b + 1)) : Nat) : Int) = (a : Int) := by rw [this]
      rw [Int.natCast_add, Int.natCast_mul] at h2
      omega
    rw [g, e, dm, Int.sub_mul, Int.mul_sub, Int.mul_assoc]
    omega
theorem bez (p q : Int) : ∃ x y : Int, (Int.gcd p q : Int) = p * x + q * y := by
  obtain ⟨x, y, e⟩ := bezN q.natAbs p.natAbs q.natAbs (Nat.le_refl _)
  have f : ∀ z w : Int, ∃ u : Int, (z.natAbs : Int) * w = z * u := by
    intro z w
    rcases Int.natAbs_eq z with h | h
    · exact ⟨w, by rw [← h]⟩
    · exact ⟨-w, by rw [Int.mul_neg, ← Int.neg_mul]; congr 1; omega⟩
  obtain ⟨u, hu⟩ := f p x
  obtain ⟨v, hv⟩ := f q y
  exact ⟨u, v, by rw [← hu, ← hv]; exact e⟩
/-- a value: in lowest terms, its sign as it should be -/
structure Val (v : Vl) : Prop where
  cop : Cop v
  nm : nrm v = v
theorem Val.act {m : Mv} {v : Vl} (h : Val v) (hm : det m = 1) : Val (act m v) := ⟨(h.cop.app hm).nrm, nrm_nrm _⟩
theorem Val.inf : Val ⟨1, 0⟩ := ⟨⟨1, 0, rfl⟩, by decide⟩
theorem Val.zero : Val ⟨0, 1⟩ := ⟨⟨0, 1, rfl⟩, by decide⟩
/-- coprime after dividing by the greatest common divisor -/
theorem Val.frac {p q : Int} (hq : 0 < q) : Val ⟨p / (Int.gcd p q : Int), q / (Int.gcd p q : Int)⟩ := by
  have g0 : 0 < Int.gcd p q := Int.gcd_pos_of_ne_zero_right _ (by omega)
  have g1 : (0 : Int) < Int.gcd p q := by omega
  have dl := Int.gcd_dvd_left p q
  have dr := Int.gcd_dvd_right p q
  refine ⟨?_, ?_⟩
  · obtain ⟨x, y, e⟩ : ∃ x y : Int, (Int.gcd p q : Int) = p * x + q * y := bez p q
    refine ⟨x, y, ?_⟩
    show x * (p / _) + y * (q / _) = 1
    have e1 : (Int.gcd p q : Int) * (x * (p / (Int.gcd p q : Int)) + y * (q / (Int.gcd p q : Int))) = (Int.gcd p q : Int) * 1 := by
      have a := Int.mul_ediv_cancel' dl
      have b := Int.mul_ediv_cancel' dr
      rw [Int.mul_add, Int.mul_left_comm, Int.mul_left_comm _ y, a, b, Int.mul_one, Int.mul_comm x, Int.mul_comm y]
      exact e.symm
    exact Int.eq_of_mul_eq_mul_left (by omega) e1
  · unfold nrm
    rw [if_neg]
    have : 0 < q / (Int.gcd p q : Int) := Int.ediv_pos_of_pos_of_dvd hq (Int.le_of_lt g1) dr
    dsimp only
    omega
/-- how large -/
def Vn (n : Nat) (v : Vl) : Prop := v.p.natAbs ≤ 2 ^ n ∧ v.q.natAbs ≤ 2 ^ n
theorem Vn.mono {j k : Nat} {v : Vl} (h : Vn j v) (l : j ≤ k) : Vn k v := by
  have e : 2 ^ j ≤ 2 ^ k := Nat.pow_le_pow_right (by omega) l
  exact ⟨Nat.le_trans h.1 e, Nat.le_trans h.2 e⟩
theorem Vn.nrm {n : Nat} {v : Vl} (h : Vn n v) : Vn n (nrm v) := by
  rcases nrm_or v with e | e
  · rw [e]; exact h
  · rw [e]; unfold Vn vneg at *; simpa using h
theorem Vn.act {j k : Nat} {m : Mv} {v : Vl} (hm : Bn j m) (h : Vn k v) : Vn (j + k + 1) (act m v) :=
  Vn.nrm ⟨dot_le hm.1 h.1 hm.2.1 h.2, dot_le hm.2.2.1 h.1 hm.2.2.2 h.2⟩
end Wm

set_option Elab.async false
set_option linter.all false
set_option maxRecDepth 100000
set_option maxHeartbeats 4000000
namespace DP
open PySem PySem.Spec L2 DL Wm
/-! ### values -/
def vlD (v : Vl) : D := intsD v.l
theorem sgn_if {A B : Prop} {t b : Int} (h : if b < 0 ∨ b = 0 ∧ t < 0 then A else B) : if decide (b < 0) = true then A else if decide (b = 0) = true then if decide (t < 0) = true then A else B else B := by
  by_cases h1 : b < 0
  · rw [if_pos (.inl h1)] at h
    rw [if_pos (by simpa using h1)]
    exact h
  · rw [if_neg (by simpa using h1)]
    by_cases h2 : b = 0
    · rw [if_pos (by simpa using h2)]
      by_cases h3 : t < 0
      · rw [if_pos (.inr ⟨h2, h3⟩)] at h
        rw [if_pos (by simpa using h3)]
        exact h
      · rw [if_neg (by omega)] at h
        rw [if_neg (by simpa using h3)]
        exact h
    · rw [if_neg (by simpa using h2)]
      rw [if_neg (by omega)] at h
      exact h
def sp_act : DSp := fun as M Q _ => ∃ (m : Mv) (v : Vl) (j k : Nat), as = [mvD m, vlD v] ∧ Bn j m ∧ Vn k v ∧ j + k ≤ 900000 ∧ Q (vlD (act m v)) M
def d_act : DS :=
  (dSeq (dAsg (dVar 0) (hSeq 4 (hCons (hName 2) (hCons (hName 3) (hCons (hName 4) (hCons (hName 5) hNil))))))
  (dSeq (dAsg (dVar 1) (hSeq 2 (hCons (hName 6) (hCons (hName 7) hNil))))
  (dSeq (dPar 8 9 (dCons (dOp addF (dOp mulF (dVar 2) (dVar 6)) (dOp mulF (dVar 3) (dVar 7))) (dCons (dOp addF (dOp mulF (dVar 4) (dVar 6)) (dOp mulF (dVar 5) (dVar 7))) dNil)))
  (dSeq (dIfS (dOr (dTest (dOp ltF (dVar 9) (dC (.int 0)))) (dAnd (dTest (dOp eqF (dVar 9) (dC (.int 0)))) (dTest (dOp ltF (dVar 8) (dC (.int 0)))))) (dRet (dTup (dCons (dUn negF (dVar 8)) (dCons (dUn negF (dVar 9)) dNil)))) dNext)
  (dRet (dTup (dCons (dVar 8) (dCons (dVar 9) dNil))))))))
theorem nrm_if {C : Vl → Prop} {t b : Int} (h : C (nrm ⟨t, b⟩)) : if b < 0 ∨ b = 0 ∧ t < 0 then C ⟨-t, -b⟩ else C ⟨t, b⟩ := by
  unfold nrm at h
  dsimp only at h
  split at h
  · rename_i z
    rw [if_pos z]
    exact h
  · rename_i z
    rw [if_neg z]
    exact h
theorem b_act {as : List D} {M : DM} {Qd : DK} {Xd : DX} (hl : as.length = 2) (h : sp_act as M Qd Xd) : d_act (endsD Qd Xd) (startD 10 as) M := by
  obtain ⟨m, v, j, k, rfl, ⟨m1, m2, m3, m4⟩, ⟨v1, v2⟩, hjk, q⟩ := h
  have c : ∀ {x y : Int}, x.natAbs ≤ 2 ^ j → y.natAbs ≤ 2 ^ k → MulC x y := fun hx hy => mulC_of hx hy (by omega)
  unfold d_act
  simp only [atI_0, atI_1, atI_2, atI_3, ixN31, ixN32, ixN30, startD, List.map_cons, List.map_nil, List.length_cons, List.length_nil, List.cons_append, List.nil_append, Nat.reduceAdd, Nat.reduceSub, List.replicate, List.getElem?_cons_zero, List.getElem?_cons_succ, List.set_cons_zero, List.set_cons_succ, List.set_nil, true_and, and_true, if_true, ite_true]
  refine go_seq fun k hk => ?_; simp only [mvD, vlD, intsD, Mv.l, Vl.l, dSet, dAsg, dPar, dAug, dRet, dRetN, dDrop, dNext, dNever, dBreak, dCont, diSq, diR1, diR2, items, onI1, onI2, dVar, dC, dOp, dUn, dTest, onB, dAnd, dOr, dNot, dAndV, dOrV, dNotV, dIf, dNil, dCons, dTup, dLst, dLstM, dCall, dFn, hName, hNil, hCons, hSeq, hSub, setF, onSeq, seqD, dSl, doNo, doAt, onI, slF, lstV, lstM, on2, addF, mulF, iF, CT, negF, cmpF, id, ixF, onO, lenF, absF, maxF, minF, tupleF, listF, listFM, reprF, on1, dDictIx, dPairs, onS, lastD, dComp, bName, bSeq, bNames, dYes, wipeD, subF, fdivF, modF, powF, ltF, leF, gtF, geF, eqF, neF, endsD, atI_0, atI_1, atI_2, atI_3, ixN31, ixN32, ixN30, startD, List.map_cons, List.map_nil, List.length_cons, List.length_nil, List.cons_append, List.nil_append, Nat.reduceAdd, Nat.reduceSub, List.replicate, List.getElem?_cons_zero, List.getElem?_cons_succ, List.set_cons_zero, List.set_cons_succ, List.set_nil, true_and, and_true, if_true, ite_true]; subst hk
  refine go_seq fun k hk => ?_; simp only [mvD, vlD, intsD, Mv.l, Vl.l, dSet, dAsg, dPar, dAug, dRet, dRetN, dDrop, dNext, dNever, dBreak, dCont, diSq, diR1, diR2, items, onI1, onI2, dVar, dC, dOp, dUn, dTest, onB, dAnd, dOr, dNot, dAndV, dOrV, dNotV, dIf, dNil, dCons, dTup, dLst, dLstM, dCall, dFn, hName, hNil, hCons, hSeq, hSub, setF, onSeq, seqD, dSl, doNo, doAt, onI, slF, lstV, lstM, on2, addF, mulF, iF, CT, negF, cmpF, id, ixF, onO, lenF, absF, maxF, minF, tupleF, listF, listFM, reprF, on1, dDictIx, dPairs, onS, lastD, dComp, bName, bSeq, bNames, dYes, wipeD, subF, fdivF, modF, powF, ltF, leF, gtF, geF, eqF, neF, endsD, atI_0, atI_1, atI_2, atI_3, ixN31, ixN32, ixN30, startD, List.map_cons, List.map_nil, List.length_cons, List.length_nil, List.cons_append, List.nil_append, Nat.reduceAdd, Nat.reduceSub, List.replicate, List.getElem?_cons_zero, List.getElem?_cons_succ, List.set_cons_zero, List.set_cons_succ, List.set_nil, true_and, and_true, if_true, ite_true]; subst hk
  refine go_seq fun k hk => ?_; simp only [dSet, dAsg, dPar, dAug, dRet, dRetN, dDrop, dNext, dNever, dBreak, dCont, diSq, diR1, diR2, items, onI1, onI2, dVar, dC, dOp, dUn, dTest, onB, dAnd, dOr, dNot, dAndV, dOrV, dNotV, dIf, dNil, dCons, dTup, dLst, dLstM, dCall, dFn, hName, hNil, hCons, hSeq, hSub, setF, onSeq, seqD, dSl, doNo, doAt, onI, slF, lstV, lstM, on2, addF, mulF, iF, CT, negF, cmpF, id, ixF, onO, lenF, absF, maxF, minF, tupleF, listF, listFM, reprF, on1, dDictIx, dPairs, onS, lastD, dComp, bName, bSeq, bNames, dYes, wipeD, subF, fdivF, modF, powF, ltF, leF, gtF, geF, eqF, neF, endsD, atI_0, atI_1, atI_2, atI_3, ixN31, ixN32, ixN30, startD, List.map_cons, List.map_nil, List.length_cons, List.length_nil, List.cons_append, List.nil_append, Nat.reduceAdd, Nat.reduceSub, List.replicate, List.getElem?_cons_zero, List.getElem?_cons_succ, List.set_cons_zero, List.set_cons_succ, List.set_nil, true_and, and_true, if_true, ite_true]; subst hk
  refine ⟨c m1 v1, c m2 v2, c m3 v1, c m4 v2, ?_⟩
  refine go_seq fun k hk => ?_; simp only [dIfS, dSet, dAsg, dPar, dAug, dRet, dRetN, dDrop, dNext, dNever, dBreak, dCont, diSq, diR1, diR2, items, onI1, onI2, dVar, dC, dOp, dUn, dTest, onB, dAnd, dOr, dNot, dAndV, dOrV, dNotV, dIf, dNil, dCons, dTup, dLst, dLstM, dCall, dFn, hName, hNil, hCons, hSeq, hSub, setF, onSeq, seqD, dSl, doNo, doAt, onI, slF, lstV, lstM, on2, addF, mulF, iF, CT, negF, cmpF, id, ixF, onO, lenF, absF, maxF, minF, tupleF, listF, listFM, reprF, on1, dDictIx, dPairs, onS, lastD, dComp, bName, bSeq, bNames, dYes, wipeD, subF, fdivF, modF, powF, ltF, leF, gtF, geF, eqF, neF, endsD, atI_0, atI_1, atI_2, atI_3, ixN31, ixN32, ixN30, startD, List.map_cons, List.map_nil, List.length_cons, List.length_nil, List.cons_append, List.nil_append, Nat.reduceAdd, Nat.reduceSub, List.replicate, List.getElem?_cons_zero, List.getElem?_cons_succ, List.set_cons_zero, List.set_cons_succ, List.set_nil, true_and, and_true, if_true, ite_true]; subst hk
  simp only [dSet, dAsg, dPar, dAug, dRet, dRetN, dDrop, dNext, dNever, dBreak, dCont, diSq, diR1, diR2, items, onI1, onI2, dVar, dC, dOp, dUn, dTest, onB, dAnd, dOr, dNot, dAndV, dOrV, dNotV, dIf, dNil, dCons, dTup, dLst, dLstM, dCall, dFn, hName, hNil, hCons, hSeq, hSub, setF, onSeq, seqD, dSl, doNo, doAt, onI, slF, lstV, lstM, on2, addF, mulF, iF, CT, negF, cmpF, id, ixF, onO, lenF, absF, maxF, minF, tupleF, listF, listFM, reprF, on1, dDictIx, dPairs, onS, lastD, dComp, bName, bSeq, bNames, dYes, wipeD, subF, fdivF, modF, powF, ltF, leF, gtF, geF, eqF, neF, endsD, atI_0, atI_1, atI_2, atI_3, ixN31, ixN32, ixN30, startD, List.map_cons, List.map_nil, List.length_cons, List.length_nil, List.cons_append, List.nil_append, Nat.reduceAdd, Nat.reduceSub, List.replicate, List.getElem?_cons_zero, List.getElem?_cons_succ, List.set_cons_zero, List.set_cons_succ, List.set_nil, true_and, and_true, if_true, ite_true]
  refine sgn_if ?_
  refine nrm_if (C := fun v => 2 ≤ sizeLine ∧ rtD Qd (.tup [.int v.p, .int v.q]) M) ?_
  exact ⟨by decide, rtD.of q⟩
def sp_law_acted : DSp := sp_act
def d_law_acted : DS :=
  (dSeq (dSet (dOp addF (dOp mulF (dOp ixF (dVar 0) (dC (.int 0))) (dOp ixF (dVar 1) (dC (.int 0)))) (dOp mulF (dOp ixF (dVar 0) (dC (.int 1))) (dOp ixF (dVar 1) (dC (.int 1))))) 2)
  (dSeq (dSet (dOp addF (dOp mulF (dOp ixF (dVar 0) (dC (.int 2))) (dOp ixF (dVar 1) (dC (.int 0)))) (dOp mulF (dOp ixF (dVar 0) (dC (.int 3))) (dOp ixF (dVar 1) (dC (.int 1))))) 3)
  (dSeq (dIfS (dOr (dTest (dOp ltF (dVar 3) (dC (.int 0)))) (dAnd (dTest (dOp eqF (dVar 3) (dC (.int 0)))) (dTest (dOp ltF (dVar 2) (dC (.int 0)))))) (dPar 2 3 (dCons (dUn negF (dVar 2)) (dCons (dUn negF (dVar 3)) dNil))) dNext)
  (dRet (dTup (dCons (dVar 2) (dCons (dVar 3) dNil)))))))
theorem b_law_acted {as : List D} {M : DM} {Qd : DK} {Xd : DX} (hl : as.length = 2) (h : sp_law_acted as M Qd Xd) : d_law_acted (endsD Qd Xd) (startD 4 as) M := by
  obtain ⟨m, v, j, k, rfl, ⟨m1, m2, m3, m4⟩, ⟨v1, v2⟩, hjk, q⟩ := h
  have c : ∀ {x y : Int}, x.natAbs ≤ 2 ^ j → y.natAbs ≤ 2 ^ k → MulC x y := fun hx hy => mulC_of hx hy (by omega)
  unfold d_law_acted
  simp only [atI_0, atI_1, atI_2, atI_3, ixN31, ixN32, ixN30, startD, List.map_cons, List.map_nil, List.length_cons, List.length_nil, List.cons_append, List.nil_append, Nat.reduceAdd, Nat.reduceSub, List.replicate, List.getElem?_cons_zero, List.getElem?_cons_succ, List.set_cons_zero, List.set_cons_succ, List.set_nil, true_and, and_true, if_true, ite_true]
  refine go_seq fun k hk => ?_; simp only [mvD, vlD, intsD, Mv.l, Vl.l, dSet, dAsg, dPar, dAug, dRet, dRetN, dDrop, dNext, dNever, dBreak, dCont, diSq, diR1, diR2, items, onI1, onI2, dVar, dC, dOp, dUn, dTest, onB, dAnd, dOr, dNot, dAndV, dOrV, dNotV, dIf, dNil, dCons, dTup, dLst, dLstM, dCall, dFn, hName, hNil, hCons, hSeq, hSub, setF, onSeq, seqD, dSl, doNo, doAt, onI, slF, lstV, lstM, on2, addF, mulF, iF, CT, negF, cmpF, id, ixF, onO, lenF, absF, maxF, minF, tupleF, listF, listFM, reprF, on1, dDictIx, dPairs, onS, lastD, dComp, bName, bSeq, bNames, dYes, wipeD, subF, fdivF, modF, powF, ltF, leF, gtF, geF, eqF, neF, endsD, atI_0, atI_1, atI_2, atI_3, ixN31, ixN32, ixN30, startD, List.map_cons, List.map_nil, List.length_cons, List.length_nil, List.cons_append, List.nil_append, Nat.reduceAdd, Nat.reduceSub, List.replicate, List.getElem?_cons_zero, List.getElem?_cons_succ, List.set_cons_zero, List.set_cons_succ, List.set_nil, true_and, and_true, if_true, ite_true]; subst hk
  refine ⟨c m1 v1, c m2 v2, ?_⟩
  refine go_seq fun k hk => ?_; simp only [mvD, vlD, intsD, Mv.l, Vl.l, dSet, dAsg, dPar, dAug, dRet, dRetN, dDrop, dNext, dNever, dBreak, dCont, diSq, diR1, diR2, items, onI1, onI2, dVar, dC, dOp, dUn, dTest, onB, dAnd, dOr, dNot, dAndV, dOrV, dNotV, dIf, dNil, dCons, dTup, dLst, dLstM, dCall, dFn, hName, hNil, hCons, hSeq, hSub, setF, onSeq, seqD, dSl, doNo, doAt, onI, slF, lstV, lstM, on2, addF, mulF, iF, CT, negF, cmpF, id, ixF, onO, lenF, absF, maxF, minF, tupleF, listF, listFM, reprF, on1, dDictIx, dPairs, onS, lastD, dComp, bName, bSeq, bNames, dYes, wipeD, subF, fdivF, modF, powF, ltF, leF, gtF, geF, eqF, neF, endsD, atI_0, atI_1, atI_2, atI_3, ixN31, ixN32, ixN30, startD, List.map_cons, List.map_nil, List.length_cons, List.length_nil, List.cons_append, List.nil_append, Nat.reduceAdd, Nat.reduceSub, List.replicate, List.getElem?_cons_zero, List.getElem?_cons_succ, List.set_cons_zero, List.set_cons_succ, List.set_nil, true_and, and_true, if_true, ite_true]; subst hk
  refine ⟨c m3 v1, c m4 v2, ?_⟩
  refine go_seq fun k hk => ?_; simp only [dIfS, dSet, dAsg, dPar, dAug, dRet, dRetN, dDrop, dNext, dNever, dBreak, dCont, diSq, diR1, diR2, items, onI1, onI2, dVar, dC, dOp, dUn, dTest, onB, dAnd, dOr, dNot, dAndV, dOrV, dNotV, dIf, dNil, dCons, dTup, dLst, dLstM, dCall, dFn, hName, hNil, hCons, hSeq, hSub, setF, onSeq, seqD, dSl, doNo, doAt, onI, slF, lstV, lstM, on2, addF, mulF, iF, CT, negF, cmpF, id, ixF, onO, lenF, absF, maxF, minF, tupleF, listF, listFM, reprF, on1, dDictIx, dPairs, onS, lastD, dComp, bName, bSeq, bNames, dYes, wipeD, subF, fdivF, modF, powF, ltF, leF, gtF, geF, eqF, neF, endsD, atI_0, atI_1, atI_2, atI_3, ixN31, ixN32, ixN30, startD, List.map_cons, List.map_nil, List.length_cons, List.length_nil, List.cons_append, List.nil_append, Nat.reduceAdd, Nat.reduceSub, List.replicate, List.getElem?_cons_zero, List.getElem?_cons_succ, List.set_cons_zero, List.set_cons_succ, List.set_nil, true_and, and_true, if_true, ite_true]; subst hk
  refine sgn_if ?_
  simp only [dSet, dAsg, dPar, dAug, dRet, dRetN, dDrop, dNext, dNever, dBreak, dCont, diSq, diR1, diR2, items, onI1, onI2, dVar, dC, dOp, dUn, dTest, onB, dAnd, dOr, dNot, dAndV, dOrV, dNotV, dIf, dNil, dCons, dTup, dLst, dLstM, dCall, dFn, hName, hNil, hCons, hSeq, hSub, setF, onSeq, seqD, dSl, doNo, doAt, onI, slF, lstV, lstM, on2, addF, mulF, iF, CT, negF, cmpF, id, ixF, onO, lenF, absF, maxF, minF, tupleF, listF, listFM, reprF, on1, dDictIx, dPairs, onS, lastD, dComp, bName, bSeq, bNames, dYes, wipeD, subF, fdivF, modF, powF, ltF, leF, gtF, geF, eqF, neF, endsD, atI_0, atI_1, atI_2, atI_3, ixN31, ixN32, ixN30, startD, List.map_cons, List.map_nil, List.length_cons, List.length_nil, List.cons_append, List.nil_append, Nat.reduceAdd, Nat.reduceSub, List.replicate, List.getElem?_cons_zero, List.getElem?_cons_succ, List.set_cons_zero, List.set_cons_succ, List.set_nil, true_and, and_true, if_true, ite_true]
  refine nrm_if (C := fun v => 2 ≤ sizeLine ∧ rtD Qd (.tup [.int v.p, .int v.q]) M) ?_
  exact ⟨by decide, rtD.of q⟩
/-! ### the greatest common divisor -/
def sp_law_common : DSp := fun as M Q _ => ∃ x y : Int, as = [.int x, .int y] ∧ Q (.int (Int.gcd x y)) M
def d_law_common : DS :=
  (dSeq (dPar 0 1 (dCons (dCall absF (dCons (dVar 0) dNil)) (dCons (dCall absF (dCons (dVar 1) dNil)) dNil)))
  (dSeq (dWhile (dTest (dOp neF (dVar 1) (dC (.int 0)))) (dPar 0 1 (dCons (dVar 1) (dCons (dOp modF (dVar 0) (dVar 1)) dNil))))
  (dRet (dVar 0))))
theorem gcd_step {a b : Int} (ha : 0 ≤ a) (hb : 0 < b) : Int.gcd b (a % b) = Int.gcd a b := by
  obtain ⟨m, rfl⟩ := Int.eq_ofNat_of_zero_le ha
  obtain ⟨n, rfl⟩ := Int.eq_ofNat_of_zero_le (Int.le_of_lt hb)
  show Nat.gcd n (Int.natAbs ((m : Int) % (n : Int))) = Nat.gcd m n
  rw [← Int.natCast_emod, Int.natAbs_natCast, Nat.gcd_comm m, Nat.gcd_rec n m, Nat.gcd_comm]
theorem b_law_common {as : List D} {M : DM} {Qd : DK} {Xd : DX} (hl : as.length = 2) (h : sp_law_common as M Qd Xd) : d_law_common (endsD Qd Xd) (startD 2 as) M := by
  obtain ⟨x, y, rfl, q⟩ := h
  unfold d_law_common
  have ab : ∀ z : Int, (if z < 0 then -z else z) = (z.natAbs : Int) := fun z => by split <;> omega
  simp only [atI_0, atI_1, atI_2, atI_3, ixN31, ixN32, ixN30, startD, List.map_cons, List.map_nil, List.length_cons, List.length_nil, List.cons_append, List.nil_append, Nat.reduceAdd, Nat.reduceSub, List.replicate, List.getElem?_cons_zero, List.getElem?_cons_succ, List.set_cons_zero, List.set_cons_succ, List.set_nil, true_and, and_true, if_true, ite_true]
  refine go_seq fun k hk => ?_; simp only [dSet, dAsg, dPar, dAug, dRet, dRetN, dDrop, dNext, dNever, dBreak, dCont, diSq, diR1, diR2, items, onI1, onI2, dVar, dC, dOp, dUn, dTest, onB, dAnd, dOr, dNot, dAndV, dOrV, dNotV, dIf, dNil, dCons, dTup, dLst, dLstM, dCall, dFn, hName, hNil, hCons, hSeq, hSub, setF, onSeq, seqD, dSl, doNo, doAt, onI, slF, lstV, lstM, on2, addF, mulF, iF, CT, negF, cmpF, id, ixF, onO, lenF, absF, maxF, minF, tupleF, listF, listFM, reprF, on1, dDictIx, dPairs, onS, lastD, dComp, bName, bSeq, bNames, dYes, wipeD, subF, fdivF, modF, powF, ltF, leF, gtF, geF, eqF, neF, endsD, ab, atI_0, atI_1, atI_2, atI_3, ixN31, ixN32, ixN30, startD, List.map_cons, List.map_nil, List.length_cons, List.length_nil, List.cons_append, List.nil_append, Nat.reduceAdd, Nat.reduceSub, List.replicate, List.getElem?_cons_zero, List.getElem?_cons_succ, List.set_cons_zero, List.set_cons_succ, List.set_nil, true_and, and_true, if_true, ite_true]; subst hk
  refine go_seq fun k hk => ?_
  refine ⟨fun m ρ M' => M' = M ∧ ∃ a b : Int, ρ = [some (.int a), some (.int b)] ∧ 0 ≤ a ∧ 0 ≤ b ∧ Int.gcd a b = Int.gcd x y ∧ m = b.toNat, ⟨_, rfl, (x.natAbs : Int), (y.natAbs : Int), rfl, by omega, by omega, by simp [Int.gcd], rfl⟩, ?_⟩
  rintro m ρ M' ⟨rfl, a, b, rfl, ha, hb, hg, rfl⟩
  simp only [dSet, dAsg, dPar, dAug, dRet, dRetN, dDrop, dNext, dNever, dBreak, dCont, diSq, diR1, diR2, items, onI1, onI2, dVar, dC, dOp, dUn, dTest, onB, dAnd, dOr, dNot, dAndV, dOrV, dNotV, dIf, dNil, dCons, dTup, dLst, dLstM, dCall, dFn, hName, hNil, hCons, hSeq, hSub, setF, onSeq, seqD, dSl, doNo, doAt, onI, slF, lstV, lstM, on2, addF, mulF, iF, CT, negF, cmpF, id, ixF, onO, lenF, absF, maxF, minF, tupleF, listF, listFM, reprF, on1, dDictIx, dPairs, onS, lastD, dComp, bName, bSeq, bNames, dYes, wipeD, subF, fdivF, modF, powF, ltF, leF, gtF, geF, eqF, neF, endsD, atI_0, atI_1, atI_2, atI_3, ixN31, ixN32, ixN30, startD, List.map_cons, List.map_nil, List.length_cons, List.length_nil, List.cons_append, List.nil_append, Nat.reduceAdd, Nat.reduceSub, List.replicate, List.getElem?_cons_zero, List.getElem?_cons_succ, List.set_cons_zero, List.set_cons_succ, List.set_nil, true_and, and_true, if_true, ite_true]
  by_cases c : b = 0
  · rw [if_neg (by simp [c])]
    subst hk
    simp only [dSet, dAsg, dPar, dAug, dRet, dRetN, dDrop, dNext, dNever, dBreak, dCont, diSq, diR1, diR2, items, onI1, onI2, dVar, dC, dOp, dUn, dTest, onB, dAnd, dOr, dNot, dAndV, dOrV, dNotV, dIf, dNil, dCons, dTup, dLst, dLstM, dCall, dFn, hName, hNil, hCons, hSeq, hSub, setF, onSeq, seqD, dSl, doNo, doAt, onI, slF, lstV, lstM, on2, addF, mulF, iF, CT, negF, cmpF, id, ixF, onO, lenF, absF, maxF, minF, tupleF, listF, listFM, reprF, on1, dDictIx, dPairs, onS, lastD, dComp, bName, bSeq, bNames, dYes, wipeD, subF, fdivF, modF, powF, ltF, leF, gtF, geF, eqF, neF, endsD, atI_0, atI_1, atI_2, atI_3, ixN31, ixN32, ixN30, startD, List.map_cons, List.map_nil, List.length_cons, List.length_nil, List.cons_append, List.nil_append, Nat.reduceAdd, Nat.reduceSub, List.replicate, List.getElem?_cons_zero, List.getElem?_cons_succ, List.set_cons_zero, List.set_cons_succ, List.set_nil, true_and, and_true, if_true, ite_true]
    refine rtD.of ?_
    rw [← hg, c, Int.gcd_zero_right] at q
    rw [Int.natAbs_of_nonneg ha] at q
    exact q
  · rw [if_pos (by simp [c])]
    have b0 : 0 < b := by omega
    have l1 := Int.emod_lt_of_pos a b0
    exact ⟨b0, (a % b).toNat, by omega, b, a % b, rfl, hb, Int.emod_nonneg _ c, by rw [gcd_step ha b0]; exact hg, rfl⟩
/-! ### drawn values -/
def sp_law_fraction : DSp := fun as M Q _ => ∃ p : Addr, as = [.ref p] ∧ Pen M p ∧ ∀ (v : Vl) M', Val v → Vn 68 v → PenTo M M' p → Q (vlD v) M'
def d_law_fraction (c_law_common : DSp) (c_law_draw : DSp) : DS :=
  (dSeq (dSet (dFn c_law_draw 2 (dCons (dVar 0) (dCons (dC (.int 6)) dNil))) 1)
  (dSeq (dIfS (dTest (dOp eqF (dVar 1) (dC (.int 0)))) (dRet (dTup (dCons (dC (.int 1)) (dCons (dC (.int 0)) dNil)))) dNext)
  (dSeq (dSet (dOp ixF (dLst (dCons (dC (.int 4)) (dCons (dC (.int 4)) (dCons (dC (.int 9)) (dCons (dOp powF (dC (.int 10)) (dC (.int 6))) (dCons (dOp powF (dC (.int 10)) (dC (.int 20))) dNil)))))) (dFn c_law_draw 2 (dCons (dVar 0) (dCons (dC (.int 5)) dNil)))) 2)
  (dSeq (dPar 3 4 (dCons (dOp subF (dFn c_law_draw 2 (dCons (dVar 0) (dCons (dOp addF (dOp mulF (dC (.int 2)) (dVar 2)) (dC (.int 1))) dNil))) (dVar 2)) (dCons (dOp addF (dC (.int 1)) (dFn c_law_draw 2 (dCons (dVar 0) (dCons (dVar 2) dNil)))) dNil)))
  (dSeq (dIfS (dTest (dOp eqF (dVar 1) (dC (.int 1)))) (dSet (dC (.int 1)) 4) dNext)
  (dSeq (dSet (dFn c_law_common 2 (dCons (dVar 3) (dCons (dVar 4) dNil))) 5)
  (dRet (dTup (dCons (dOp fdivF (dVar 3) (dVar 5)) (dCons (dOp fdivF (dVar 4) (dVar 5)) dNil))))))))))
theorem small_frac {p q : Int} (hp : p.natAbs ≤ 2 ^ 68) (hq0 : 0 < q) (hq : q.natAbs ≤ 2 ^ 68) : Vn 68 ⟨p / (Int.gcd p q : Int), q / (Int.gcd p q : Int)⟩ := by
  have f : ∀ z : Int, z.natAbs ≤ 2 ^ 68 → (z / (Int.gcd p q : Int)).natAbs ≤ 2 ^ 68 := by
    intro z hz
    exact Nat.le_trans (Int.natAbs_ediv_le_natAbs _ _) hz
  exact ⟨f p hp, f q hq⟩
theorem b_law_fraction {as : List D} {M : DM} {Qd : DK} {Xd : DX} (hl : as.length = 1) (h : sp_law_fraction as M Qd Xd) : d_law_fraction sp_law_common sp_law_draw (endsD Qd Xd) (startD 6 as) M := by
  obtain ⟨p, rfl, hP, q⟩ := h
  unfold d_law_fraction
  simp only [atI_0, atI_1, atI_2, atI_3, ixN31, ixN32, ixN30, startD, List.map_cons, List.map_nil, List.length_cons, List.length_nil, List.cons_append, List.nil_append, Nat.reduceAdd, Nat.reduceSub, List.replicate, List.getElem?_cons_zero, List.getElem?_cons_succ, List.set_cons_zero, List.set_cons_succ, List.set_nil, true_and, and_true, if_true, ite_true]
  refine go_seq fun k hk => ?_; simp only [dSet, dAsg, dPar, dAug, dRet, dRetN, dDrop, dNext, dNever, dBreak, dCont, diSq, diR1, diR2, items, onI1, onI2, dVar, dC, dOp, dUn, dTest, onB, dAnd, dOr, dNot, dAndV, dOrV, dNotV, dIf, dNil, dCons, dTup, dLst, dLstM, dCall, dFn, hName, hNil, hCons, hSeq, hSub, setF, onSeq, seqD, dSl, doNo, doAt, onI, slF, lstV, lstM, on2, addF, mulF, iF, CT, negF, cmpF, id, ixF, onO, lenF, absF, maxF, minF, tupleF, listF, listFM, reprF, on1, dDictIx, dPairs, onS, lastD, dComp, bName, bSeq, bNames, dYes, wipeD, subF, fdivF, modF, powF, ltF, leF, gtF, geF, eqF, neF, endsD, atI_0, atI_1, atI_2, atI_3, ixN31, ixN32, ixN30, startD, List.map_cons, List.map_nil, List.length_cons, List.length_nil, List.cons_append, List.nil_append, Nat.reduceAdd, Nat.reduceSub, List.replicate, List.getElem?_cons_zero, List.getElem?_cons_succ, List.set_cons_zero, List.set_cons_succ, List.set_nil, true_and, and_true, if_true, ite_true]
  refine ⟨p, 6, rfl, hP, by decide, log2_lit (by decide) (by decide), fun o M1 o0 o6 t1 => ?_⟩
  subst hk
  refine go_seq fun k hk => ?_
  have rest : k (endsD Qd Xd) [some (.ref p), some (.int o), none, none, none, none] M1 := by
    subst hk
    refine go_seq fun k hk => ?_
    have rest : ∀ (size : Int) M2, 0 < size → size ≤ 100000000000000000000 → PenTo M M2 p → k (endsD Qd Xd) [some (.ref p), some (.int o), some (.int size), none, none, none] M2 := by
      intro size M2 s0 s1 t2
      subst hk
      refine go_seq fun k hk => ?_
      have big : ∀ {n : Int}, 0 ≤ n → n < 2 ^ 80 → n.natAbs.log2 < 9000 := fun h0 h => Nat.lt_of_lt_of_le (log2_small h0 h (by decide)) (by decide)
      simp only [dSet, dAsg, dPar, dAug, dRet, dRetN, dDrop, dNext, dNever, dBreak, dCont, diSq, diR1, diR2, items, onI1, onI2, dVar, dC, dOp, dUn, dTest, onB, dAnd, dOr, dNot, dAndV, dOrV, dNotV, dIf, dNil, dCons, dTup, dLst, dLstM, dCall, dFn, hName, hNil, hCons, hSeq, hSub, setF, onSeq, seqD, dSl, doNo, doAt, onI, slF, lstV, lstM, on2, addF, mulF, iF, CT, negF, cmpF, id, ixF, onO, lenF, absF, maxF, minF, tupleF, listF, listFM, reprF, on1, dDictIx, dPairs, onS, lastD, dComp, bName, bSeq, bNames, dYes, wipeD, subF, fdivF, modF, powF, ltF, leF, gtF, geF, eqF, neF, endsD, atI_0, atI_1, atI_2, atI_3, ixN31, ixN32, ixN30, startD, List.map_cons, List.map_nil, List.length_cons, List.length_nil, List.cons_append, List.nil_append, Nat.reduceAdd, Nat.reduceSub, List.replicate, List.getElem?_cons_zero, List.getElem?_cons_succ, List.set_cons_zero, List.set_cons_succ, List.set_nil, true_and, and_true, if_true, ite_true]
      refine ⟨.inl (.inl ⟨by decide, by decide⟩), p, _, rfl, t2.pen, by omega, big (by omega) (by omega), fun v M3 v0 v1 t3 => ?_⟩
      simp only [dSet, dAsg, dPar, dAug, dRet, dRetN, dDrop, dNext, dNever, dBreak, dCont, diSq, diR1, diR2, items, onI1, onI2, dVar, dC, dOp, dUn, dTest, onB, dAnd, dOr, dNot, dAndV, dOrV, dNotV, dIf, dNil, dCons, dTup, dLst, dLstM, dCall, dFn, hName, hNil, hCons, hSeq, hSub, setF, onSeq, seqD, dSl, doNo, doAt, onI, slF, lstV, lstM, on2, addF, mulF, iF, CT, negF, cmpF, id, ixF, onO, lenF, absF, maxF, minF, tupleF, listF, listFM, reprF, on1, dDictIx, dPairs, onS, lastD, dComp, bName, bSeq, bNames, dYes, wipeD, subF, fdivF, modF, powF, ltF, leF, gtF, geF, eqF, neF, endsD, atI_0, atI_1, atI_2, atI_3, ixN31, ixN32, ixN30, startD, List.map_cons, List.map_nil, List.length_cons, List.length_nil, List.cons_append, List.nil_append, Nat.reduceAdd, Nat.reduceSub, List.replicate, List.getElem?_cons_zero, List.getElem?_cons_succ, List.set_cons_zero, List.set_cons_succ, List.set_nil, true_and, and_true, if_true, ite_true]
      refine ⟨p, size, rfl, t3.pen, s0, big (by omega) (by omega), fun v' M4 w0 w1 t4 => ?_⟩
      simp only [dSet, dAsg, dPar, dAug, dRet, dRetN, dDrop, dNext, dNever, dBreak, dCont, diSq, diR1, diR2, items, onI1, onI2, dVar, dC, dOp, dUn, dTest, onB, dAnd, dOr, dNot, dAndV, dOrV, dNotV, dIf, dNil, dCons, dTup, dLst, dLstM, dCall, dFn, hName, hNil, hCons, hSeq, hSub, setF, onSeq, seqD, dSl, doNo, doAt, onI, slF, lstV, lstM, on2, addF, mulF, iF, CT, negF, cmpF, id, ixF, onO, lenF, absF, maxF, minF, tupleF, listF, listFM, reprF, on1, dDictIx, dPairs, onS, lastD, dComp, bName, bSeq, bNames, dYes, wipeD, subF, fdivF, modF, powF, ltF, leF, gtF, geF, eqF, neF, endsD, atI_0, atI_1, atI_2, atI_3, ixN31, ixN32, ixN30, startD, List.map_cons, List.map_nil, List.length_cons, List.length_nil, List.cons_append, List.nil_append, Nat.reduceAdd, Nat.reduceSub, List.replicate, List.getElem?_cons_zero, List.getElem?_cons_succ, List.set_cons_zero, List.set_cons_succ, List.set_nil, true_and, and_true, if_true, ite_true]
      have t5 := (t2.trans t3).trans t4
      subst hk
      refine go_seq fun k hk => ?_
      have rest : ∀ z : Int, 0 < z → z ≤ size → k (endsD Qd Xd) [some (.ref p), some (.int o), some (.int size), some (.int (v - size)), some (.int z), none] M4 := by
        intro z z0 z1
        subst hk
        refine go_seq fun k hk => ?_
        simp only [dSet, dAsg, dPar, dAug, dRet, dRetN, dDrop, dNext, dNever, dBreak, dCont, diSq, diR1, diR2, items, onI1, onI2, dVar, dC, dOp, dUn, dTest, onB, dAnd, dOr, dNot, dAndV, dOrV, dNotV, dIf, dNil, dCons, dTup, dLst, dLstM, dCall, dFn, hName, hNil, hCons, hSeq, hSub, setF, onSeq, seqD, dSl, doNo, doAt, onI, slF, lstV, lstM, on2, addF, mulF, iF, CT, negF, cmpF, id, ixF, onO, lenF, absF, maxF, minF, tupleF, listF, listFM, reprF, on1, dDictIx, dPairs, onS, lastD, dComp, bName, bSeq, bNames, dYes, wipeD, subF, fdivF, modF, powF, ltF, leF, gtF, geF, eqF, neF, endsD, atI_0, atI_1, atI_2, atI_3, ixN31, ixN32, ixN30, startD, List.map_cons, List.map_nil, List.length_cons, List.length_nil, List.cons_append, List.nil_append, Nat.reduceAdd, Nat.reduceSub, List.replicate, List.getElem?_cons_zero, List.getElem?_cons_succ, List.set_cons_zero, List.set_cons_succ, List.set_nil, true_and, and_true, if_true, ite_true]
        refine ⟨_, _, rfl, ?_⟩
        subst hk
        simp only [dSet, dAsg, dPar, dAug, dRet, dRetN, dDrop, dNext, dNever, dBreak, dCont, diSq, diR1, diR2, items, onI1, onI2, dVar, dC, dOp, dUn, dTest, onB, dAnd, dOr, dNot, dAndV, dOrV, dNotV, dIf, dNil, dCons, dTup, dLst, dLstM, dCall, dFn, hName, hNil, hCons, hSeq, hSub, setF, onSeq, seqD, dSl, doNo, doAt, onI, slF, lstV, lstM, on2, addF, mulF, iF, CT, negF, cmpF, id, ixF, onO, lenF, absF, maxF, minF, tupleF, listF, listFM, reprF, on1, dDictIx, dPairs, onS, lastD, dComp, bName, bSeq, bNames, dYes, wipeD, subF, fdivF, modF, powF, ltF, leF, gtF, geF, eqF, neF, endsD, atI_0, atI_1, atI_2, atI_3, ixN31, ixN32, ixN30, startD, List.map_cons, List.map_nil, List.length_cons, List.length_nil, List.cons_append, List.nil_append, Nat.reduceAdd, Nat.reduceSub, List.replicate, List.getElem?_cons_zero, List.getElem?_cons_succ, List.set_cons_zero, List.set_cons_succ, List.set_nil, true_and, and_true, if_true, ite_true]
        have g0 : 0 < Int.gcd (v - size) z := Int.gcd_pos_of_ne_zero_right _ (by omega)
        have gz : (Int.gcd (v - size) z : Int) ≤ z := Int.le_of_dvd z0 (Int.gcd_dvd_right ..)
        have gd : CDivW (v - size) (Int.gcd (v - size) z : Int) := ⟨by omega, big (by omega) (by omega)⟩
        refine ⟨gd, gd, by decide, rtD.of (q ⟨(v - size) / (Int.gcd (v - size) z : Int), z / (Int.gcd (v - size) z : Int)⟩ M4 (Val.frac z0) (small_frac (by omega) z0 (by omega)) t5)⟩
      simp only [dIfS, dSet, dAsg, dPar, dAug, dRet, dRetN, dDrop, dNext, dNever, dBreak, dCont, diSq, diR1, diR2, items, onI1, onI2, dVar, dC, dOp, dUn, dTest, onB, dAnd, dOr, dNot, dAndV, dOrV, dNotV, dIf, dNil, dCons, dTup, dLst, dLstM, dCall, dFn, hName, hNil, hCons, hSeq, hSub, setF, onSeq, seqD, dSl, doNo, doAt, onI, slF, lstV, lstM, on2, addF, mulF, iF, CT, negF, cmpF, id, ixF, onO, lenF, absF, maxF, minF, tupleF, listF, listFM, reprF, on1, dDictIx, dPairs, onS, lastD, dComp, bName, bSeq, bNames, dYes, wipeD, subF, fdivF, modF, powF, ltF, leF, gtF, geF, eqF, neF, endsD, atI_0, atI_1, atI_2, atI_3, ixN31, ixN32, ixN30, startD, List.map_cons, List.map_nil, List.length_cons, List.length_nil, List.cons_append, List.nil_append, Nat.reduceAdd, Nat.reduceSub, List.replicate, List.getElem?_cons_zero, List.getElem?_cons_succ, List.set_cons_zero, List.set_cons_succ, List.set_nil, true_and, and_true, if_true, ite_true]
      by_cases c : o = 1
      · rw [if_pos (by simp [c])]
        exact rest 1 (by decide) (by omega)
      · rw [if_neg (by simp [c])]
        exact rest _ (by omega) (by omega)
    simp only [dSet, dAsg, dPar, dAug, dRet, dRetN, dDrop, dNext, dNever, dBreak, dCont, diSq, diR1, diR2, items, onI1, onI2, dVar, dC, dOp, dUn, dTest, onB, dAnd, dOr, dNot, dAndV, dOrV, dNotV, dIf, dNil, dCons, dTup, dLst, dLstM, dCall, dFn, hName, hNil, hCons, hSeq, hSub, setF, onSeq, seqD, dSl, doNo, doAt, onI, slF, lstV, lstM, on2, addF, mulF, iF, CT, negF, cmpF, id, ixF, onO, lenF, absF, maxF, minF, tupleF, listF, listFM, reprF, on1, dDictIx, dPairs, onS, lastD, dComp, bName, bSeq, bNames, dYes, wipeD, subF, fdivF, modF, powF, ltF, leF, gtF, geF, eqF, neF, endsD, atI_0, atI_1, atI_2, atI_3, ixN31, ixN32, ixN30, startD, List.map_cons, List.map_nil, List.length_cons, List.length_nil, List.cons_append, List.nil_append, Nat.reduceAdd, Nat.reduceSub, List.replicate, List.getElem?_cons_zero, List.getElem?_cons_succ, List.set_cons_zero, List.set_cons_succ, List.set_nil, true_and, and_true, if_true, ite_true]
    refine ⟨by unfold CPow; decide, by unfold CPow; decide, by decide, p, 5, rfl, t1.pen, by decide, log2_lit (by decide) (by decide), fun d M2 d0 d5 t2 => ?_⟩
    have hv : d = 0 ∨ d = 1 ∨ d = 2 ∨ d = 3 ∨ d = 4 := by omega
    have t3 := t1.trans t2
    rcases hv with rfl | rfl | rfl | rfl | rfl
    · exact rest _ _ (by decide) (by decide) t3
    · exact rest _ _ (by decide) (by decide) t3
    · exact rest _ _ (by decide) (by decide) t3
    · exact rest _ _ (by decide) (by decide) t3
    · exact rest _ _ (by decide) (by decide) t3
  simp only [dIfS, dSet, dAsg, dPar, dAug, dRet, dRetN, dDrop, dNext, dNever, dBreak, dCont, diSq, diR1, diR2, items, onI1, onI2, dVar, dC, dOp, dUn, dTest, onB, dAnd, dOr, dNot, dAndV, dOrV, dNotV, dIf, dNil, dCons, dTup, dLst, dLstM, dCall, dFn, hName, hNil, hCons, hSeq, hSub, setF, onSeq, seqD, dSl, doNo, doAt, onI, slF, lstV, lstM, on2, addF, mulF, iF, CT, negF, cmpF, id, ixF, onO, lenF, absF, maxF, minF, tupleF, listF, listFM, reprF, on1, dDictIx, dPairs, onS, lastD, dComp, bName, bSeq, bNames, dYes, wipeD, subF, fdivF, modF, powF, ltF, leF, gtF, geF, eqF, neF, endsD, atI_0, atI_1, atI_2, atI_3, ixN31, ixN32, ixN30, startD, List.map_cons, List.map_nil, List.length_cons, List.length_nil, List.cons_append, List.nil_append, Nat.reduceAdd, Nat.reduceSub, List.replicate, List.getElem?_cons_zero, List.getElem?_cons_succ, List.set_cons_zero, List.set_cons_succ, List.set_nil, true_and, and_true, if_true, ite_true]
  by_cases c : o = 0
  · rw [if_pos (by simp [c])]
    exact ⟨by decide, rtD.of (q ⟨1, 0⟩ M1 Val.inf (by unfold Vn; decide) t1)⟩
  · rw [if_neg (by simp [c])]
    exact rest
/-! ### what the laws ask of values -/
theorem vl_inj {m n : Vl} : (m.l = n.l) = (m = n) := by
  refine propext ⟨fun h => ?_, fun h => by rw [h]⟩
  simp only [Vl.l, List.cons.injEq, and_true] at h
  exact Wm.vext h.1 h.2
theorem cmp_vl {f : Bool → Bool} {M : DM} {m n : Vl} {Q : DK} (q : Q (.bl (f (decide (m = n)))) M) : cmpF f (vlD m) (vlD n) M Q := by
  refine cmp_intsD ?_
  have e : decide (m.l = n.l) = decide (m = n) := by simp only [vl_inj]
  rw [e]
  exact q
def shownVl (m : Vl) : Str := (PyData.tuple (m.l.map PyData.int)).shown
theorem repr_vl {M : DM} {m : Vl} {k : Nat} {Q : DK} (h : Vn k m) (hk : k ≤ 1900) (q : Q (.str (shownVl m)) M) : reprF [vlD m] M Q := by
  refine repr_ints ?_ (by simp [Vl.l]) q
  obtain ⟨a, b⟩ := h
  intro n hn
  simp only [Vl.l, List.mem_cons, List.not_mem_nil, or_false] at hn
  rcases hn with rfl | rfl
  · exact log2_of_le a hk
  · exact log2_of_le b hk
theorem ix_vl0 {v : Vl} {M : DM} {Q : DK} (q : Q (.int v.p) M) : ixF (vlD v) (.int 0) M Q := q
theorem ix_vl1 {v : Vl} {M : DM} {Q : DK} (q : Q (.int v.q) M) : ixF (vlD v) (.int 1) M Q := q
end DP

set_option Elab.async false
set_option linter.all false
set_option maxRecDepth 100000
set_option maxHeartbeats 4000000
namespace DP
open PySem PySem.Spec L2 DL Wm
/-! ### isinstance -/
theorem kb_NoneType_tuple : kitB "NoneType" "tuple" = some false := by decide +kernel
theorem kb_bool_tuple : kitB "bool" "tuple" = some false := by decide +kernel
theorem kb_int_tuple : kitB "int" "tuple" = some false := by decide +kernel
theorem kb_str_tuple : kitB "str" "tuple" = some false := by decide +kernel
theorem kb_tuple_tuple : kitB "tuple" "tuple" = some true := by decide +kernel
theorem kb_list_tuple : kitB "list" "tuple" = some false := by decide +kernel
theorem kb_dict_tuple : kitB "dict" "tuple" = some false := by decide +kernel
theorem kb_NoneType_int : kitB "NoneType" "int" = some false := by decide +kernel
theorem kb_bool_int : kitB "bool" "int" = some true := by decide +kernel
theorem kb_int_int : kitB "int" "int" = some true := by decide +kernel
theorem kb_str_int : kitB "str" "int" = some false := by decide +kernel
theorem kb_tuple_int : kitB "tuple" "int" = some false := by decide +kernel
theorem kb_list_int : kitB "list" "int" = some false := by decide +kernel
theorem kb_dict_int : kitB "dict" "int" = some false := by decide +kernel
theorem kb_NoneType_bool : kitB "NoneType" "bool" = some false := by decide +kernel
theorem kb_bool_bool : kitB "bool" "bool" = some true := by decide +kernel
theorem kb_int_bool : kitB "int" "bool" = some false := by decide +kernel
theorem kb_str_bool : kitB "str" "bool" = some false := by decide +kernel
theorem kb_tuple_bool : kitB "tuple" "bool" = some false := by decide +kernel
theorem kb_list_bool : kitB "list" "bool" = some false := by decide +kernel
theorem kb_dict_bool : kitB "dict" "bool" = some false := by decide +kernel
theorem kb_NoneType_str : kitB "NoneType" "str" = some false := by decide +kernel
theorem kb_bool_str : kitB "bool" "str" = some false := by decide +kernel
theorem kb_int_str : kitB "int" "str" = some false := by decide +kernel
theorem kb_str_str : kitB "str" "str" = some true := by decide +kernel
theorem kb_tuple_str : kitB "tuple" "str" = some false := by decide +kernel
theorem kb_list_str : kitB "list" "str" = some false := by decide +kernel
theorem kb_dict_str : kitB "dict" "str" = some false := by decide +kernel
inductive Flat : D → Prop
  | non : Flat .non
  | bl (b : Bool) : Flat (.bl b)
  | int (i : Int) : Flat (.int i)
  | str (x : Str) (h : PyData.canLay0 (.str x) = true) : Flat (.str x)
def intish : D → Bool
  | .int _ => true
  | .bl _ => true
  | _ => false
def boolish : D → Bool
  | .bl _ => true
  | _ => false
def intQ : D → Bool
  | .int _ => true
  | _ => false
theorem isi_int {x : D} {M : DM} {Q : DK} (h : Flat x) (q : Q (.bl (intish x)) M) : isiF [x, .ty "int"] M Q := by
  cases h <;> (simp only [isiF, tyD, onO, kb_NoneType_tuple, kb_bool_tuple, kb_int_tuple, kb_str_tuple, kb_tuple_tuple, kb_list_tuple, kb_dict_tuple, kb_NoneType_int, kb_bool_int, kb_int_int, kb_str_int, kb_tuple_int, kb_list_int, kb_dict_int, kb_NoneType_bool, kb_bool_bool, kb_int_bool, kb_str_bool, kb_tuple_bool, kb_list_bool, kb_dict_bool, kb_NoneType_str, kb_bool_str, kb_int_str, kb_str_str, kb_tuple_str, kb_list_str, kb_dict_str]; exact q)
theorem isi_bool {x : D} {M : DM} {Q : DK} (h : Flat x) (q : Q (.bl (boolish x)) M) : isiF [x, .ty "bool"] M Q := by
  cases h <;> (simp only [isiF, tyD, onO, kb_NoneType_tuple, kb_bool_tuple, kb_int_tuple, kb_str_tuple, kb_tuple_tuple, kb_list_tuple, kb_dict_tuple, kb_NoneType_int, kb_bool_int, kb_int_int, kb_str_int, kb_tuple_int, kb_list_int, kb_dict_int, kb_NoneType_bool, kb_bool_bool, kb_int_bool, kb_str_bool, kb_tuple_bool, kb_list_bool, kb_dict_bool, kb_NoneType_str, kb_bool_str, kb_int_str, kb_str_str, kb_tuple_str, kb_list_str, kb_dict_str]; exact q)
/-- what the laws hand to the functions that require something -/
inductive Simple : D → Prop
  | tup {ds : List D} (h : ∀ x ∈ ds, Flat x) (hl : ds.length ≤ 1000) : Simple (.tup ds)
  | non : Simple .non
  | bl (b : Bool) : Simple (.bl b)
  | int (i : Int) : Simple (.int i)
  | str (x : Str) : Simple (.str x)
  | lst (ds : List D) : Simple (.lst ds)
  | dct (ks : List Key) (ds : List D) : Simple (.dct ks ds)
def isTup : D → Bool
  | .tup _ => true
  | _ => false
def wholeB (d : D) (n : Int) : Bool := match d with
  | .tup ds => decide ((ds.length : Int) = n) && ds.all intQ
  | _ => false
theorem isi_tup {x : D} {M : DM} {Q : DK} (h : Simple x) (q : Q (.bl (isTup x)) M) : isiF [x, .ty "tuple"] M Q := by
  cases h <;> (simp only [isiF, tyD, onO, kb_NoneType_tuple, kb_bool_tuple, kb_int_tuple, kb_str_tuple, kb_tuple_tuple, kb_list_tuple, kb_dict_tuple, kb_NoneType_int, kb_bool_int, kb_int_int, kb_str_int, kb_tuple_int, kb_list_int, kb_dict_int, kb_NoneType_bool, kb_bool_bool, kb_int_bool, kb_str_bool, kb_tuple_bool, kb_list_bool, kb_dict_bool, kb_NoneType_str, kb_bool_str, kb_int_str, kb_str_str, kb_tuple_str, kb_list_str, kb_dict_str]; exact q)
theorem allQ (ds : List D) : allB (ds.map fun x => D.bl (intQ x)) = some (ds.map intQ) := allB_map intQ ds
theorem dCL_filter {bind : D → DR → DM → (DR → Prop) → Prop} {t : DT} {de : DE} {chk : DM → Prop} {ρw : DR} {M : DM} {Q : DK} (p : D → Bool) (hc : chk M) : ∀ (xs acc : List D), (∀ x ∈ xs, noL x = true) →
    (∀ x ∈ xs, ∀ (A : D → DM → Prop) (B : DM → Prop), (if p x = true then A x M else B M) → bind x ρw M fun ρ1 => t ρ1 M (fun b M2 => if b = true then de ρ1 M2 A X0 else B M2) X0) →
    Q (.lst (acc ++ xs.filter p)) M → dCL bind t de chk ρw xs acc M Q
  | [], acc, _, _, q => by
    rw [List.filter_nil, List.append_nil] at q
    exact ⟨hc, q⟩
  | x :: xs, acc, hn, hs, q => by
    refine ⟨hc, hs x List.mem_cons_self _ _ ?_⟩
    have ih := fun acc q => dCL_filter (Q := Q) p hc xs acc (fun y hy => hn y (List.mem_cons_of_mem _ hy)) (fun y hy => hs y (List.mem_cons_of_mem _ hy)) q
    by_cases c : p x = true
    · rw [if_pos c]
      refine ⟨hn x List.mem_cons_self, ih _ ?_⟩
      rw [List.filter_cons_of_pos c] at q
      rw [List.append_assoc]
      exact q
    · rw [if_neg c]
      refine ih _ ?_
      rw [List.filter_cons_of_neg c] at q
      exact q
theorem dCL_mapD {bind : D → DR → DM → (DR → Prop) → Prop} {t : DT} {de : DE} {chk : DM → Prop} {ρw : DR} {M : DM} {Q : DK} (h : D → D) (hc : chk M) (xs acc : List D) (hn : ∀ x ∈ xs, noL (h x) = true)
    (hs : ∀ x ∈ xs, ∀ (A : D → DM → Prop) (B : DM → Prop), A (h x) M → bind x ρw M fun ρ1 => t ρ1 M (fun b M2 => if b = true then de ρ1 M2 A X0 else B M2) X0) (q : Q (.lst (acc ++ xs.map h)) M) : dCL bind t de chk ρw xs acc M Q := by
  have := dCL_map id h hc xs acc hn hs q
  rwa [List.map_id] at this
theorem flat_noL {x : D} (h : Flat x) : noL x = true := by cases h <;> simp [noL]
theorem flat_py : ∀ {ds : List D}, (∀ x ∈ ds, Flat x) → ∃ ps, pyOfs ds = some ps ∧ ps.length = ds.length ∧ PyData.canLayAll0 ps = true ∧ PyData.depthAll ps ≤ 1
  | [], _ => ⟨[], by simp [pyOfs], rfl, by simp [PyData.canLayAll0], by simp [PyData.depthAll]⟩
  | x :: ds, h => by
    obtain ⟨ps, e, l, c, d⟩ := flat_py fun y hy => h y (List.mem_cons_of_mem _ hy)
    have hx := h x List.mem_cons_self
    cases hx with
    | non => exact ⟨.none :: ps, by simp [pyOfs, pyOf, e], by simp [l], by simp [PyData.canLayAll0, PyData.canLay0, c], by simp [PyData.depthAll, PyData.depth]; omega⟩
    | bl b => exact ⟨.bool b :: ps, by simp [pyOfs, pyOf, e], by simp [l], by simp [PyData.canLayAll0, PyData.canLay0, c], by simp [PyData.depthAll, PyData.depth]; omega⟩
    | int i => exact ⟨.int i :: ps, by simp [pyOfs, pyOf, e], by simp [l], by simp [PyData.canLayAll0, PyData.canLay0, c], by simp [PyData.depthAll, PyData.depth]; omega⟩
    | str z hz => exact ⟨.str z :: ps, by simp [pyOfs, pyOf, e], by simp [l], by simp [PyData.canLayAll0, c, hz], by simp [PyData.depthAll, PyData.depth]; omega⟩
def sp_are_integers : DSp := fun as M Q _ => ∃ (d : D) (n : Int), as = [d, .int n] ∧ Simple d ∧ Q (.bl (wholeB d n)) M
def d_are_integers : DS :=
  (dSeq (dIfS (dOr (dNot (dTest (dCall isiF (dCons (dVar 0) (dCons (dC (.ty "tuple")) dNil))))) (dTest (dOp neF (dCall lenF (dCons (dVar 0) dNil)) (dVar 1)))) (dRet (dC (.bl false))) dNext)
  (dRet (dCall allF (dCons (dComp (diSq (dVar 0)) (bName 2) dYes (dAndV (dCall isiF (dCons (dVar 2) (dCons (dC (.ty "int")) dNil))) (dNotV (dCall isiF (dCons (dVar 2) (dCons (dC (.ty "bool")) dNil))))) [2]) dNil))))
theorem b_are_integers {as : List D} {M : DM} {Qd : DK} {Xd : DX} (hl : as.length = 2) (h : sp_are_integers as M Qd Xd) : d_are_integers (endsD Qd Xd) (startD 3 as) M := by
  obtain ⟨d, n, rfl, hs, q⟩ := h
  unfold d_are_integers
  simp only [atI_0, atI_1, atI_2, atI_3, ixN31, ixN32, ixN30, startD, List.map_cons, List.map_nil, List.length_cons, List.length_nil, List.cons_append, List.nil_append, Nat.reduceAdd, Nat.reduceSub, List.replicate, List.getElem?_cons_zero, List.getElem?_cons_succ, List.set_cons_zero, List.set_cons_succ, List.set_nil, true_and, and_true, if_true, ite_true]
  refine go_seq fun k hk => ?_
  simp only [dIfS, dOr, dNot, dTest, dCall, dOp, dCons, dNil, dVar, dC, dRet, dNext, atI_0, atI_1, atI_2, atI_3, ixN31, ixN32, ixN30, startD, List.map_cons, List.map_nil, List.length_cons, List.length_nil, List.cons_append, List.nil_append, Nat.reduceAdd, Nat.reduceSub, List.replicate, List.getElem?_cons_zero, List.getElem?_cons_succ, List.set_cons_zero, List.set_cons_succ, List.set_nil, true_and, and_true, if_true, ite_true]
  refine isi_tup hs ?_
  cases hs with
  | @tup ds hf hd =>
    simp only [isTup, onB, Bool.not_true, Bool.false_eq_true, if_false, lenF, on1, onSeq, seqD, neF, cmpF]
    by_cases c : (ds.length : Int) = n
    · rw [if_neg (by simp [c])]
      subst hk
      simp only [dRet, dCall, dComp, diSq, dVar, dCons, dNil, items, onSeq, seqD, wipeD, atI_0, atI_1, atI_2, atI_3, ixN31, ixN32, ixN30, startD, List.map_cons, List.map_nil, List.length_cons, List.length_nil, List.cons_append, List.nil_append, Nat.reduceAdd, Nat.reduceSub, List.replicate, List.getElem?_cons_zero, List.getElem?_cons_succ, List.set_cons_zero, List.set_cons_succ, List.set_nil, true_and, and_true, if_true, ite_true]
      refine ⟨Nat.le_trans hd (by decide), dCL_mapD (fun x => .bl (intQ x)) trivial ds [] (fun _ _ => by simp [noL]) (fun x hx A B hA => ?_) ?_⟩
      · have fx := hf x hx
        simp only [bName, dYes, dAndV, dNotV, dCall, dCons, dNil, dVar, dC, if_true, atI_0, atI_1, atI_2, atI_3, ixN31, ixN32, ixN30, startD, List.map_cons, List.map_nil, List.length_cons, List.length_nil, List.cons_append, List.nil_append, Nat.reduceAdd, Nat.reduceSub, List.replicate, List.getElem?_cons_zero, List.getElem?_cons_succ, List.set_cons_zero, List.set_cons_succ, List.set_nil, true_and, and_true, if_true, ite_true]
        refine isi_int fx ?_
        cases fx with
        | int i =>
          simp only [intish, onB, if_true]
          refine isi_bool (.int i) ?_
          exact hA
        | bl b =>
          simp only [intish, onB, if_true]
          refine isi_bool (.bl b) ?_
          exact hA
        | non => exact hA
        | str z hz => exact hA
      · simp only [List.nil_append, allF, on1, lstM, onO, allQ]
        refine rtD.of ?_
        have e : (ds.map intQ).all id = ds.all intQ := by simp [List.all_map, Function.comp_def]
        rw [e]
        simp only [wholeB, c, decide_true, Bool.true_and] at q
        exact q
    · rw [if_pos (by simp [c])]
      simp only [wholeB, c, decide_false, Bool.false_and] at q
      exact rtD.of q
  | non => exact rtD.of q
  | bl b => exact rtD.of q
  | int i => exact rtD.of q
  | str x => exact rtD.of q
  | lst ds => exact rtD.of q
  | dct ks ds => exact rtD.of q
/-! ### what is required -/
def sp_common_divisor : DSp := sp_law_common
def d_common_divisor : DS :=
  (dSeq (dPar 0 1 (dCons (dCall absF (dCons (dVar 0) dNil)) (dCons (dCall absF (dCons (dVar 1) dNil)) dNil)))
  (dSeq (dWhile (dTest (dOp neF (dVar 1) (dC (.int 0)))) (dPar 0 1 (dCons (dVar 1) (dCons (dOp modF (dVar 0) (dVar 1)) dNil))))
  (dRet (dVar 0))))
theorem b_common_divisor {as : List D} {M : DM} {Qd : DK} {Xd : DX} (hl : as.length = 2) (h : sp_common_divisor as M Qd Xd) : d_common_divisor (endsD Qd Xd) (startD 2 as) M := b_law_common hl h
theorem whole_ints : ∀ {ds : List D}, ds.all intQ = true → ∃ ns : List Int, ds = ns.map D.int
  | [], _ => ⟨[], rfl⟩
  | d :: ds, h => by
    rw [List.all_cons, Bool.and_eq_true] at h
    obtain ⟨ns, rfl⟩ := whole_ints h.2
    cases d with
    | int i => exact ⟨i :: ns, rfl⟩
    | _ => cases h.1
theorem whole_of {d : D} {n : Nat} (h : wholeB d n = true) : ∃ ns : List Int, d = intsD ns ∧ ns.length = n := by
  cases d with
  | tup ds =>
    unfold wholeB at h
    rw [Bool.and_eq_true, decide_eq_true_eq] at h
    obtain ⟨ns, rfl⟩ := whole_ints h.2
    refine ⟨ns, rfl, ?_⟩
    have := h.1
    rw [List.length_map] at this
    omega
  | _ => cases h
theorem all_ints (ns : List Int) : (ns.map D.int).all intQ = true := by
  induction ns with
  | nil => rfl
  | cons n ns ih => rw [List.map_cons, List.all_cons, ih]; rfl
theorem whole_mv (m : Mv) : wholeB (mvD m) 4 = true := by
  show (decide (((m.l.map D.int).length : Int) = 4) && (m.l.map D.int).all intQ) = true
  rw [all_ints]
  simp [Mv.l]
theorem whole_vl (v : Vl) : wholeB (vlD v) 2 = true := by
  show (decide (((v.l.map D.int).length : Int) = 2) && (v.l.map D.int).all intQ) = true
  rw [all_ints]
  simp [Vl.l]
theorem mv_of {d : D} (h : wholeB d 4 = true) : ∃ m : Mv, d = mvD m := by
  obtain ⟨ns, rfl, hl⟩ := whole_of (n := 4) h
  match ns, hl with
  | [a, b, c, e], _ => exact ⟨⟨a, b, c, e⟩, rfl⟩
theorem vl_of {d : D} (h : wholeB d 2 = true) : ∃ v : Vl, d = vlD v := by
  obtain ⟨ns, rfl, hl⟩ := whole_of (n := 2) h
  match ns, hl with
  | [a, b], _ => exact ⟨⟨a, b⟩, rfl⟩
def sp_require_move (ξ : Str → Addr) : DSp := fun as M Q X => ∃ d : D, as = [d] ∧ Simple d ∧ (∀ m : Mv, d = mvD m → Bn 300 m) ∧ (∀ m : Mv, d = mvD m → det m = 1 → Q (mvD (sgn m)) M) ∧ ((∀ m : Mv, d = mvD m → det m ≠ 1) → X (.ref (ξ "NotAMove"), [("value", d)]) M)
def d_require_move (ξ : Str → Addr) (c_with_sign : DSp) (c_are_integers : DSp) : DS :=
  (dSeq (dIfS (dNot (dTest (dFn c_are_integers 2 (dCons (dVar 0) (dCons (dC (.int 4)) dNil))))) (dRaise (ξ "NotAMove") "value" (dVar 0)) dNext)
  (dSeq (dAsg (dVar 0) (hSeq 4 (hCons (hName 1) (hCons (hName 2) (hCons (hName 3) (hCons (hName 4) hNil))))))
  (dSeq (dIfS (dTest (dOp neF (dOp subF (dOp mulF (dVar 1) (dVar 4)) (dOp mulF (dVar 2) (dVar 3))) (dC (.int 1)))) (dRaise (ξ "NotAMove") "value" (dVar 0)) dNext)
  (dRet (dFn c_with_sign 1 (dCons (dVar 0) dNil))))))
theorem b_require_move {ξ : Str → Addr} {as : List D} {M : DM} {Qd : DK} {Xd : DX} (hl : as.length = 1) (h : sp_require_move ξ as M Qd Xd) : d_require_move ξ sp_with_sign sp_are_integers (endsD Qd Xd) (startD 5 as) M := by
  obtain ⟨d, rfl, hs, hb, q1, q2⟩ := h
  unfold d_require_move
  simp only [atI_0, atI_1, atI_2, atI_3, ixN31, ixN32, ixN30, startD, List.map_cons, List.map_nil, List.length_cons, List.length_nil, List.cons_append, List.nil_append, Nat.reduceAdd, Nat.reduceSub, List.replicate, List.getElem?_cons_zero, List.getElem?_cons_succ, List.set_cons_zero, List.set_cons_succ, List.set_nil, true_and, and_true, if_true, ite_true]
  refine go_seq fun k hk => ?_
  simp only [dIfS, dNot, dTest, dFn, dCons, dNil, dVar, dC, atI_0, atI_1, atI_2, atI_3, ixN31, ixN32, ixN30, startD, List.map_cons, List.map_nil, List.length_cons, List.length_nil, List.cons_append, List.nil_append, Nat.reduceAdd, Nat.reduceSub, List.replicate, List.getElem?_cons_zero, List.getElem?_cons_succ, List.set_cons_zero, List.set_cons_succ, List.set_nil, true_and, and_true, if_true, ite_true]
  refine ⟨d, 4, rfl, hs, ?_⟩
  simp only [onB]
  by_cases c : wholeB d 4 = true
  · obtain ⟨m, rfl⟩ := mv_of c
    have mb := hb m rfl
    rw [c]
    simp only [Bool.not_true, Bool.false_eq_true, if_false, dNext]
    subst hk
    refine go_seq fun k hk => ?_; simp only [mvD, intsD, Mv.l, dSet, dAsg, dPar, dAug, dRet, dRetN, dDrop, dNext, dNever, dBreak, dCont, diSq, diR1, diR2, items, onI1, onI2, dVar, dC, dOp, dUn, dTest, onB, dAnd, dOr, dNot, dAndV, dOrV, dNotV, dIf, dNil, dCons, dTup, dLst, dLstM, dCall, dFn, hName, hNil, hCons, hSeq, hSub, setF, onSeq, seqD, dSl, doNo, doAt, onI, slF, lstV, lstM, on2, addF, mulF, iF, CT, negF, cmpF, id, ixF, onO, lenF, absF, maxF, minF, tupleF, listF, listFM, reprF, on1, dDictIx, dPairs, onS, lastD, dComp, bName, bSeq, bNames, dYes, wipeD, subF, fdivF, modF, powF, ltF, leF, gtF, geF, eqF, neF, endsD, atI_0, atI_1, atI_2, atI_3, ixN31, ixN32, ixN30, startD, List.map_cons, List.map_nil, List.length_cons, List.length_nil, List.cons_append, List.nil_append, Nat.reduceAdd, Nat.reduceSub, List.replicate, List.getElem?_cons_zero, List.getElem?_cons_succ, List.set_cons_zero, List.set_cons_succ, List.set_nil, true_and, and_true, if_true, ite_true]; subst hk
    refine go_seq fun k hk => ?_
    simp only [dIfS, dSet, dAsg, dPar, dAug, dRet, dRetN, dDrop, dNext, dNever, dBreak, dCont, diSq, diR1, diR2, items, onI1, onI2, dVar, dC, dOp, dUn, dTest, onB, dAnd, dOr, dNot, dAndV, dOrV, dNotV, dIf, dNil, dCons, dTup, dLst, dLstM, dCall, dFn, hName, hNil, hCons, hSeq, hSub, setF, onSeq, seqD, dSl, doNo, doAt, onI, slF, lstV, lstM, on2, addF, mulF, iF, CT, negF, cmpF, id, ixF, onO, lenF, absF, maxF, minF, tupleF, listF, listFM, reprF, on1, dDictIx, dPairs, onS, lastD, dComp, bName, bSeq, bNames, dYes, wipeD, subF, fdivF, modF, powF, ltF, leF, gtF, geF, eqF, neF, endsD, atI_0, atI_1, atI_2, atI_3, ixN31, ixN32, ixN30, startD, List.map_cons, List.map_nil, List.length_cons, List.length_nil, List.cons_append, List.nil_append, Nat.reduceAdd, Nat.reduceSub, List.replicate, List.getElem?_cons_zero, List.getElem?_cons_succ, List.set_cons_zero, List.set_cons_succ, List.set_nil, true_and, and_true, if_true, ite_true]
    obtain ⟨m1, m2, m3, m4⟩ := mb
    refine ⟨mulC_of m1 m4 (by decide), mulC_of m2 m3 (by decide), ?_⟩
    have ed : m.a * m.d - m.b * m.c = det m := rfl
    rw [ed]
    by_cases e : det m = 1
    · rw [if_neg (by simp [e])]
      subst hk
      simp only [dSet, dAsg, dPar, dAug, dRet, dRetN, dDrop, dNext, dNever, dBreak, dCont, diSq, diR1, diR2, items, onI1, onI2, dVar, dC, dOp, dUn, dTest, onB, dAnd, dOr, dNot, dAndV, dOrV, dNotV, dIf, dNil, dCons, dTup, dLst, dLstM, dCall, dFn, hName, hNil, hCons, hSeq, hSub, setF, onSeq, seqD, dSl, doNo, doAt, onI, slF, lstV, lstM, on2, addF, mulF, iF, CT, negF, cmpF, id, ixF, onO, lenF, absF, maxF, minF, tupleF, listF, listFM, reprF, on1, dDictIx, dPairs, onS, lastD, dComp, bName, bSeq, bNames, dYes, wipeD, subF, fdivF, modF, powF, ltF, leF, gtF, geF, eqF, neF, endsD, atI_0, atI_1, atI_2, atI_3, ixN31, ixN32, ixN30, startD, List.map_cons, List.map_nil, List.length_cons, List.length_nil, List.cons_append, List.nil_append, Nat.reduceAdd, Nat.reduceSub, List.replicate, List.getElem?_cons_zero, List.getElem?_cons_succ, List.set_cons_zero, List.set_cons_succ, List.set_nil, true_and, and_true, if_true, ite_true]
      exact ⟨m.l, rfl, by simp [Mv.l], rtD.of (sgn_of (q1 m rfl e))⟩
    · rw [if_pos (by simp [e])]
      refine q2 fun m2 e2 => ?_
      have e3 : m = m2 := by
        simp only [mvD, intsD, Mv.l, List.map_cons, List.map_nil, D.tup.injEq, List.cons.injEq, D.int.injEq, and_true] at e2
        exact Wm.ext e2.1 e2.2.1 e2.2.2.1 e2.2.2.2
      rw [← e3]
      exact e
  · have c' : wholeB d 4 = false := by simpa using c
    rw [c']
    simp only [Bool.not_false, if_true]
    refine q2 fun m e => ?_
    rw [e, whole_mv] at c'
    cases c'
def VlOk (v : Vl) : Prop := 0 ≤ v.q ∧ Int.gcd v.p v.q = 1 ∧ (v.q = 0 → v.p = 1)
theorem vlD_inj {u v : Vl} (h : vlD u = vlD v) : u = v := by
  simp only [vlD, intsD, Vl.l, List.map_cons, List.map_nil, D.tup.injEq, List.cons.injEq, D.int.injEq, and_true] at h
  exact Wm.vext h.1 h.2
theorem mvD_inj {u v : Mv} (h : mvD u = mvD v) : u = v := by
  simp only [mvD, intsD, Mv.l, List.map_cons, List.map_nil, D.tup.injEq, List.cons.injEq, D.int.injEq, and_true] at h
  exact Wm.ext h.1 h.2.1 h.2.2.1 h.2.2.2
/-- the three tests of a value -/
theorem ok_if {A B : Prop} {p q g : Int} (hg : g = Int.gcd p q) (h1 : VlOk ⟨p, q⟩ → B) (h2 : ¬ VlOk ⟨p, q⟩ → A) :
    if decide (q < 0) = true then A else if (!decide (g = 1)) = true then A else if decide (q = 0) = true then (if (!decide (p = 1)) = true then A else B) else B := by
  have hv : VlOk ⟨p, q⟩ ↔ 0 ≤ q ∧ g = 1 ∧ (q = 0 → p = 1) := by
    unfold VlOk
    rw [hg]
    show 0 ≤ q ∧ Int.gcd p q = 1 ∧ (q = 0 → p = 1) ↔ _
    constructor
    · rintro ⟨a, b, c⟩
      exact ⟨a, by rw [b]; rfl, c⟩
    · rintro ⟨a, b, c⟩
      exact ⟨a, by omega, c⟩
  by_cases c1 : q < 0
  · rw [if_pos (by simpa using c1)]
    exact h2 fun z => by have := (hv.mp z).1; omega
  · rw [if_neg (by simpa using c1)]
    by_cases c2 : g = 1
    · rw [if_neg (by simp [c2])]
      by_cases c3 : q = 0
      · rw [if_pos (by simp [c3])]
        by_cases c4 : p = 1
        · rw [if_neg (by simp [c4])]
          exact h1 (hv.mpr ⟨by omega, c2, fun _ => c4⟩)
        · rw [if_pos (by simp [c4])]
          exact h2 fun z => c4 ((hv.mp z).2.2 c3)
      · rw [if_neg (by simp [c3])]
        exact h1 (hv.mpr ⟨by omega, c2, fun z => absurd z c3⟩)
    · rw [if_pos (by simp [c2])]
      exact h2 fun z => c2 (hv.mp z).2.1
def sp_require_value (ξ : Str → Addr) : DSp := fun as M Q X => ∃ d : D, as = [d] ∧ Simple d ∧ (∀ v : Vl, d = vlD v → VlOk v → Q d M) ∧ ((∀ v : Vl, d = vlD v → ¬ VlOk v) → X (.ref (ξ "NotAValue"), [("value", d)]) M)
def d_require_value (ξ : Str → Addr) (c_common_divisor : DSp) (c_are_integers : DSp) : DS :=
  (dSeq (dIfS (dNot (dTest (dFn c_are_integers 2 (dCons (dVar 0) (dCons (dC (.int 2)) dNil))))) (dRaise (ξ "NotAValue") "value" (dVar 0)) dNext)
  (dSeq (dAsg (dVar 0) (hSeq 2 (hCons (hName 1) (hCons (hName 2) hNil))))
  (dSeq (dIfS (dOr (dTest (dOp ltF (dVar 2) (dC (.int 0)))) (dOr (dTest (dOp neF (dFn c_common_divisor 2 (dCons (dVar 1) (dCons (dVar 2) dNil))) (dC (.int 1)))) (dAnd (dTest (dOp eqF (dVar 2) (dC (.int 0)))) (dTest (dOp neF (dVar 1) (dC (.int 1))))))) (dRaise (ξ "NotAValue") "value" (dVar 0)) dNext)
  (dRet (dVar 0)))))
theorem b_require_value {ξ : Str → Addr} {as : List D} {M : DM} {Qd : DK} {Xd : DX} (hl : as.length = 1) (h : sp_require_value ξ as M Qd Xd) : d_require_value ξ sp_common_divisor sp_are_integers (endsD Qd Xd) (startD 3 as) M := by
  obtain ⟨d, rfl, hs, q1, q2⟩ := h
  unfold d_require_value
  simp only [atI_0, atI_1, atI_2, atI_3, ixN31, ixN32, ixN30, startD, List.map_cons, List.map_nil, List.length_cons, List.length_nil, List.cons_append, List.nil_append, Nat.reduceAdd, Nat.reduceSub, List.replicate, List.getElem?_cons_zero, List.getElem?_cons_succ, List.set_cons_zero, List.set_cons_succ, List.set_nil, true_and, and_true, if_true, ite_true]
  refine go_seq fun k hk => ?_
  simp only [dIfS, dNot, dTest, dFn, dCons, dNil, dVar, dC, atI_0, atI_1, atI_2, atI_3, ixN31, ixN32, ixN30, startD, List.map_cons, List.map_nil, List.length_cons, List.length_nil, List.cons_append, List.nil_append, Nat.reduceAdd, Nat.reduceSub, List.replicate, List.getElem?_cons_zero, List.getElem?_cons_succ, List.set_cons_zero, List.set_cons_succ, List.set_nil, true_and, and_true, if_true, ite_true]
  refine ⟨d, 2, rfl, hs, ?_⟩
  simp only [onB]
  by_cases c : wholeB d 2 = true
  · obtain ⟨v, rfl⟩ := vl_of c
    rw [c]
    simp only [Bool.not_true, Bool.false_eq_true, if_false, dNext]
    subst hk
    refine go_seq fun k hk => ?_; simp only [vlD, intsD, Vl.l, dSet, dAsg, dPar, dAug, dRet, dRetN, dDrop, dNext, dNever, dBreak, dCont, diSq, diR1, diR2, items, onI1, onI2, dVar, dC, dOp, dUn, dTest, onB, dAnd, dOr, dNot, dAndV, dOrV, dNotV, dIf, dNil, dCons, dTup, dLst, dLstM, dCall, dFn, hName, hNil, hCons, hSeq, hSub, setF, onSeq, seqD, dSl, doNo, doAt, onI, slF, lstV, lstM, on2, addF, mulF, iF, CT, negF, cmpF, id, ixF, onO, lenF, absF, maxF, minF, tupleF, listF, listFM, reprF, on1, dDictIx, dPairs, onS, lastD, dComp, bName, bSeq, bNames, dYes, wipeD, subF, fdivF, modF, powF, ltF, leF, gtF, geF, eqF, neF, endsD, atI_0, atI_1, atI_2, atI_3, ixN31, ixN32, ixN30, startD, List.map_cons, List.map_nil, List.length_cons, List.length_nil, List.cons_append, List.nil_append, Nat.reduceAdd, Nat.reduceSub, List.replicate, List.getElem?_cons_zero, List.getElem?_cons_succ, List.set_cons_zero, List.set_cons_succ, List.set_nil, true_and, and_true, if_true, ite_true]; subst hk
    refine go_seq fun k hk => ?_
    subst hk
    simp only [dIfS, dSet, dAsg, dPar, dAug, dRet, dRetN, dDrop, dNext, dNever, dBreak, dCont, diSq, diR1, diR2, items, onI1, onI2, dVar, dC, dOp, dUn, dTest, onB, dAnd, dOr, dNot, dAndV, dOrV, dNotV, dIf, dNil, dCons, dTup, dLst, dLstM, dCall, dFn, hName, hNil, hCons, hSeq, hSub, setF, onSeq, seqD, dSl, doNo, doAt, onI, slF, lstV, lstM, on2, addF, mulF, iF, CT, negF, cmpF, id, ixF, onO, lenF, absF, maxF, minF, tupleF, listF, listFM, reprF, on1, dDictIx, dPairs, onS, lastD, dComp, bName, bSeq, bNames, dYes, wipeD, subF, fdivF, modF, powF, ltF, leF, gtF, geF, eqF, neF, endsD, atI_0, atI_1, atI_2, atI_3, ixN31, ixN32, ixN30, startD, List.map_cons, List.map_nil, List.length_cons, List.length_nil, List.cons_append, List.nil_append, Nat.reduceAdd, Nat.reduceSub, List.replicate, List.getElem?_cons_zero, List.getElem?_cons_succ, List.set_cons_zero, List.set_cons_succ, List.set_nil, true_and, and_true, if_true, ite_true]
    have hn : ∀ g : Int, g = Int.gcd v.p v.q → if (!decide (g = 1)) = true then True else True := fun _ _ => by split <;> trivial
    by_cases c1 : v.q < 0
    · rw [if_pos (by simpa using c1)]
      exact q2 fun u e z => by rw [vlD_inj e] at c1; have := z.1; omega
    · rw [if_neg (by simpa using c1)]
      refine ⟨_, _, rfl, ?_⟩
      have := ok_if (A := Xd (.ref (ξ "NotAValue"), [("value", vlD v)]) M) (B := rtD Qd (vlD v) M) (p := v.p) (q := v.q) rfl (fun z => rtD.of (q1 v rfl z)) (fun z => q2 fun u e => by rw [← vlD_inj e]; exact z)
      rw [if_neg (by simpa using c1)] at this
      exact this
  · have c' : wholeB d 2 = false := by simpa using c
    rw [c']
    simp only [Bool.not_false, if_true]
    refine q2 fun v e => ?_
    rw [e, whole_vl] at c'
    cases c'
/-! ### the law's own reading of the same -/
theorem eq_nil {l : List D} {M : DM} {Q : DK} (h : ∀ x ∈ l, Flat x) (q : Q (.bl (decide (l = []))) M) : eqF (.lst l) (.lst []) M Q := by
  obtain ⟨ps, e, hl, hc, hd⟩ := flat_py h
  have e2 : PyData.eqv (.list ps) (.list []) = decide (l = []) := by
    cases l with
    | nil =>
      have : ps = [] := List.eq_nil_of_length_eq_zero hl
      subst this
      simp [PyData.eqv, PyData.eqvAll]
    | cons x l =>
      cases ps with
      | nil => cases hl
      | cons p ps => simp [PyData.eqv, PyData.eqvAll]
  simp only [eqF, cmpF, pyM, pyOf, pyOfs, e, Option.map_some, onP, e2, id]
  refine ⟨?_, by decide +kernel, q⟩
  unfold SeqAt.shaped
  simp [PyData.canLay0, PyData.depth, hc]
  omega
def sp_law_whole : DSp := sp_are_integers
def d_law_whole : DS :=
  (dSeq (dIfS (dOr (dNot (dTest (dCall isiF (dCons (dVar 0) (dCons (dC (.ty "tuple")) dNil))))) (dTest (dOp neF (dCall lenF (dCons (dVar 0) dNil)) (dVar 1)))) (dRet (dC (.bl false))) dNext)
  (dRet (dOp eqF (dComp (diSq (dVar 0)) (bName 2) (dOr (dNot (dTest (dCall isiF (dCons (dVar 2) (dCons (dC (.ty "int")) dNil))))) (dTest (dCall isiF (dCons (dVar 2) (dCons (dC (.ty "bool")) dNil))))) (dVar 2) [2]) (dLst dNil))))
theorem b_law_whole {as : List D} {M : DM} {Qd : DK} {Xd : DX} (hl : as.length = 2) (h : sp_law_whole as M Qd Xd) : d_law_whole (endsD Qd Xd) (startD 3 as) M := by
  obtain ⟨d, n, rfl, hs, q⟩ := h
  unfold d_law_whole
  simp only [atI_0, atI_1, atI_2, atI_3, ixN31, ixN32, ixN30, startD, List.map_cons, List.map_nil, List.length_cons, List.length_nil, List.cons_append, List.nil_append, Nat.reduceAdd, Nat.reduceSub, List.replicate, List.getElem?_cons_zero, List.getElem?_cons_succ, List.set_cons_zero, List.set_cons_succ, List.set_nil, true_and, and_true, if_true, ite_true]
  refine go_seq fun k hk => ?_
  simp only [dIfS, dOr, dNot, dTest, dCall, dOp, dCons, dNil, dVar, dC, dRet, dNext, atI_0, atI_1, atI_2, atI_3, ixN31, ixN32, ixN30, startD, List.map_cons, List.map_nil, List.length_cons, List.length_nil, List.cons_append, List.nil_append, Nat.reduceAdd, Nat.reduceSub, List.replicate, List.getElem?_cons_zero, List.getElem?_cons_succ, List.set_cons_zero, List.set_cons_succ, List.set_nil, true_and, and_true, if_true, ite_true]
  refine isi_tup hs ?_
  cases hs with
  | @tup ds hf hd =>
    simp only [isTup, onB, Bool.not_true, Bool.false_eq_true, if_false, lenF, on1, onSeq, seqD, neF, cmpF]
    by_cases c : (ds.length : Int) = n
    · rw [if_neg (by simp [c])]
      subst hk
      simp only [dRet, dOp, dCall, dComp, diSq, dVar, dCons, dNil, dLst, items, onSeq, seqD, wipeD, atI_0, atI_1, atI_2, atI_3, ixN31, ixN32, ixN30, startD, List.map_cons, List.map_nil, List.length_cons, List.length_nil, List.cons_append, List.nil_append, Nat.reduceAdd, Nat.reduceSub, List.replicate, List.getElem?_cons_zero, List.getElem?_cons_succ, List.set_cons_zero, List.set_cons_succ, List.set_nil, true_and, and_true, if_true, ite_true]
      refine ⟨Nat.le_trans hd (by decide), dCL_filter (fun x => !intQ x) trivial ds [] (fun x hx => flat_noL (hf x hx)) (fun x hx A B hA => ?_) ?_⟩
      · have fx := hf x hx
        simp only [bName, dOr, dNot, dTest, dCall, dCons, dNil, dVar, dC, atI_0, atI_1, atI_2, atI_3, ixN31, ixN32, ixN30, startD, List.map_cons, List.map_nil, List.length_cons, List.length_nil, List.cons_append, List.nil_append, Nat.reduceAdd, Nat.reduceSub, List.replicate, List.getElem?_cons_zero, List.getElem?_cons_succ, List.set_cons_zero, List.set_cons_succ, List.set_nil, true_and, and_true, if_true, ite_true]
        refine isi_int fx ?_
        cases fx with
        | int i =>
          simp only [intish, onB, Bool.not_true, Bool.false_eq_true, if_false]
          refine isi_bool (.int i) ?_
          exact hA
        | bl b =>
          simp only [intish, onB, Bool.not_true, Bool.false_eq_true, if_false]
          refine isi_bool (.bl b) ?_
          exact hA
        | non => exact hA
        | str z hz => exact hA
      · simp only [List.nil_append]
        refine ⟨by decide, eq_nil (fun x hx => hf x (List.mem_filter.mp hx).1) ?_⟩
        refine rtD.of ?_
        have e : decide (ds.filter (fun x => !intQ x) = []) = ds.all intQ := by
          rw [Bool.eq_iff_iff, decide_eq_true_iff, List.filter_eq_nil_iff, List.all_eq_true]
          simp
        rw [e]
        simp only [wholeB, c, decide_true, Bool.true_and] at q
        exact q
    · rw [if_pos (by simp [c])]
      simp only [wholeB, c, decide_false, Bool.false_and] at q
      exact rtD.of q
  | non => exact rtD.of q
  | bl b => exact rtD.of q
  | int i => exact rtD.of q
  | str x => exact rtD.of q
  | lst ds => exact rtD.of q
  | dct ks ds => exact rtD.of q
end DP

set_option Elab.async false
set_option linter.all false
set_option maxRecDepth 100000
set_option maxHeartbeats 4000000
namespace DP
open PySem PySem.Spec L2 DL Wm
def sp_law_due_move : DSp := fun as M Q X => ∃ d : D, as = [d] ∧ Simple d ∧ (∀ m : Mv, d = mvD m → Bn 300 m) ∧ (∀ m : Mv, d = mvD m → det m = 1 → Q (mvD (sgn m)) M) ∧ ((∀ m : Mv, d = mvD m → det m ≠ 1) → Q .non M)
def d_law_due_move (c_law_signed : DSp) (c_law_whole : DSp) : DS :=
  (dSeq (dIfS (dOr (dNot (dTest (dFn c_law_whole 2 (dCons (dVar 0) (dCons (dC (.int 4)) dNil))))) (dTest (dOp neF (dOp subF (dOp mulF (dOp ixF (dVar 0) (dC (.int 0))) (dOp ixF (dVar 0) (dC (.int 3)))) (dOp mulF (dOp ixF (dVar 0) (dC (.int 1))) (dOp ixF (dVar 0) (dC (.int 2))))) (dC (.int 1))))) (dRet (dC .non)) dNext)
  (dRet (dFn c_law_signed 1 (dCons (dVar 0) dNil))))
theorem b_law_due_move {as : List D} {M : DM} {Qd : DK} {Xd : DX} (hl : as.length = 1) (h : sp_law_due_move as M Qd Xd) : d_law_due_move sp_law_signed sp_law_whole (endsD Qd Xd) (startD 1 as) M := by
  obtain ⟨d, rfl, hs, hb, q1, q2⟩ := h
  unfold d_law_due_move
  simp only [atI_0, atI_1, atI_2, atI_3, ixN31, ixN32, ixN30, startD, List.map_cons, List.map_nil, List.length_cons, List.length_nil, List.cons_append, List.nil_append, Nat.reduceAdd, Nat.reduceSub, List.replicate, List.getElem?_cons_zero, List.getElem?_cons_succ, List.set_cons_zero, List.set_cons_succ, List.set_nil, true_and, and_true, if_true, ite_true]
  refine go_seq fun k hk => ?_
  simp only [dIfS, dOr, dNot, dTest, dFn, dCons, dNil, dVar, dC, atI_0, atI_1, atI_2, atI_3, ixN31, ixN32, ixN30, startD, List.map_cons, List.map_nil, List.length_cons, List.length_nil, List.cons_append, List.nil_append, Nat.reduceAdd, Nat.reduceSub, List.replicate, List.getElem?_cons_zero, List.getElem?_cons_succ, List.set_cons_zero, List.set_cons_succ, List.set_nil, true_and, and_true, if_true, ite_true]
  refine ⟨d, 4, rfl, hs, ?_⟩
  simp only [onB]
  by_cases c : wholeB d 4 = true
  · obtain ⟨m, rfl⟩ := mv_of c
    have mb := hb m rfl
    rw [c]
    simp only [Bool.not_true, Bool.false_eq_true, if_false]
    obtain ⟨m1, m2, m3, m4⟩ := mb
    simp only [dOp, mvD, intsD, Mv.l, dSet, dAsg, dPar, dAug, dRet, dRetN, dDrop, dNext, dNever, dBreak, dCont, diSq, diR1, diR2, items, onI1, onI2, dVar, dC, dOp, dUn, dTest, onB, dAnd, dOr, dNot, dAndV, dOrV, dNotV, dIf, dNil, dCons, dTup, dLst, dLstM, dCall, dFn, hName, hNil, hCons, hSeq, hSub, setF, onSeq, seqD, dSl, doNo, doAt, onI, slF, lstV, lstM, on2, addF, mulF, iF, CT, negF, cmpF, id, ixF, onO, lenF, absF, maxF, minF, tupleF, listF, listFM, reprF, on1, dDictIx, dPairs, onS, lastD, dComp, bName, bSeq, bNames, dYes, wipeD, subF, fdivF, modF, powF, ltF, leF, gtF, geF, eqF, neF, endsD, atI_0, atI_1, atI_2, atI_3, ixN31, ixN32, ixN30, startD, List.map_cons, List.map_nil, List.length_cons, List.length_nil, List.cons_append, List.nil_append, Nat.reduceAdd, Nat.reduceSub, List.replicate, List.getElem?_cons_zero, List.getElem?_cons_succ, List.set_cons_zero, List.set_cons_succ, List.set_nil, true_and, and_true, if_true, ite_true]
    refine ⟨mulC_of m1 m4 (by decide), mulC_of m2 m3 (by decide), ?_⟩
    have ed : m.a * m.d - m.b * m.c = det m := rfl
    rw [ed]
    by_cases e : det m = 1
    · rw [if_neg (by simp [e])]
      subst hk
      simp only [dSet, dAsg, dPar, dAug, dRet, dRetN, dDrop, dNext, dNever, dBreak, dCont, diSq, diR1, diR2, items, onI1, onI2, dVar, dC, dOp, dUn, dTest, onB, dAnd, dOr, dNot, dAndV, dOrV, dNotV, dIf, dNil, dCons, dTup, dLst, dLstM, dCall, dFn, hName, hNil, hCons, hSeq, hSub, setF, onSeq, seqD, dSl, doNo, doAt, onI, slF, lstV, lstM, on2, addF, mulF, iF, CT, negF, cmpF, id, ixF, onO, lenF, absF, maxF, minF, tupleF, listF, listFM, reprF, on1, dDictIx, dPairs, onS, lastD, dComp, bName, bSeq, bNames, dYes, wipeD, subF, fdivF, modF, powF, ltF, leF, gtF, geF, eqF, neF, endsD, atI_0, atI_1, atI_2, atI_3, ixN31, ixN32, ixN30, startD, List.map_cons, List.map_nil, List.length_cons, List.length_nil, List.cons_append, List.nil_append, Nat.reduceAdd, Nat.reduceSub, List.replicate, List.getElem?_cons_zero, List.getElem?_cons_succ, List.set_cons_zero, List.set_cons_succ, List.set_nil, true_and, and_true, if_true, ite_true]
      exact ⟨m.l, rfl, by simp [Mv.l], rtD.of (sgn_of (q1 m rfl e))⟩
    · rw [if_pos (by simp [e])]
      refine rtD.of (q2 fun m2 e2 => ?_)
      rw [← mvD_inj (u := m) (v := m2) e2]
      exact e
  · have c' : wholeB d 4 = false := by simpa using c
    rw [c']
    simp only [Bool.not_false, if_true]
    refine rtD.of (q2 fun m e => ?_)
    rw [e, whole_mv] at c'
    cases c'
def sp_law_due_value : DSp := fun as M Q X => ∃ d : D, as = [d] ∧ Simple d ∧ (∀ v : Vl, d = vlD v → VlOk v → Q d M) ∧ ((∀ v : Vl, d = vlD v → ¬ VlOk v) → Q .non M)
def d_law_due_value (c_law_whole : DSp) (c_law_common : DSp) : DS :=
  (dSeq (dIfS (dOr (dNot (dTest (dFn c_law_whole 2 (dCons (dVar 0) (dCons (dC (.int 2)) dNil))))) (dOr (dTest (dOp ltF (dOp ixF (dVar 0) (dC (.int 1))) (dC (.int 0)))) (dTest (dOp neF (dFn c_law_common 2 (dCons (dOp ixF (dVar 0) (dC (.int 0))) (dCons (dOp ixF (dVar 0) (dC (.int 1))) dNil))) (dC (.int 1)))))) (dRet (dC .non)) dNext)
  (dRet (dIf (dAnd (dTest (dOp eqF (dOp ixF (dVar 0) (dC (.int 1))) (dC (.int 0)))) (dTest (dOp neF (dOp ixF (dVar 0) (dC (.int 0))) (dC (.int 1))))) (dC .non) (dVar 0))))
theorem b_law_due_value {as : List D} {M : DM} {Qd : DK} {Xd : DX} (hl : as.length = 1) (h : sp_law_due_value as M Qd Xd) : d_law_due_value sp_law_whole sp_law_common (endsD Qd Xd) (startD 1 as) M := by
  obtain ⟨d, rfl, hs, q1, q2⟩ := h
  unfold d_law_due_value
  simp only [atI_0, atI_1, atI_2, atI_3, ixN31, ixN32, ixN30, startD, List.map_cons, List.map_nil, List.length_cons, List.length_nil, List.cons_append, List.nil_append, Nat.reduceAdd, Nat.reduceSub, List.replicate, List.getElem?_cons_zero, List.getElem?_cons_succ, List.set_cons_zero, List.set_cons_succ, List.set_nil, true_and, and_true, if_true, ite_true]
  refine go_seq fun k hk => ?_
  simp only [dIfS, dOr, dNot, dTest, dFn, dCons, dNil, dVar, dC, atI_0, atI_1, atI_2, atI_3, ixN31, ixN32, ixN30, startD, List.map_cons, List.map_nil, List.length_cons, List.length_nil, List.cons_append, List.nil_append, Nat.reduceAdd, Nat.reduceSub, List.replicate, List.getElem?_cons_zero, List.getElem?_cons_succ, List.set_cons_zero, List.set_cons_succ, List.set_nil, true_and, and_true, if_true, ite_true]
  refine ⟨d, 2, rfl, hs, ?_⟩
  simp only [onB]
  by_cases c : wholeB d 2 = true
  · obtain ⟨v, rfl⟩ := vl_of c
    rw [c]
    simp only [Bool.not_true, Bool.false_eq_true, if_false]
    simp only [dOp, vlD, intsD, Vl.l, dSet, dAsg, dPar, dAug, dRet, dRetN, dDrop, dNext, dNever, dBreak, dCont, diSq, diR1, diR2, items, onI1, onI2, dVar, dC, dOp, dUn, dTest, onB, dAnd, dOr, dNot, dAndV, dOrV, dNotV, dIf, dNil, dCons, dTup, dLst, dLstM, dCall, dFn, hName, hNil, hCons, hSeq, hSub, setF, onSeq, seqD, dSl, doNo, doAt, onI, slF, lstV, lstM, on2, addF, mulF, iF, CT, negF, cmpF, id, ixF, onO, lenF, absF, maxF, minF, tupleF, listF, listFM, reprF, on1, dDictIx, dPairs, onS, lastD, dComp, bName, bSeq, bNames, dYes, wipeD, subF, fdivF, modF, powF, ltF, leF, gtF, geF, eqF, neF, endsD, atI_0, atI_1, atI_2, atI_3, ixN31, ixN32, ixN30, startD, List.map_cons, List.map_nil, List.length_cons, List.length_nil, List.cons_append, List.nil_append, Nat.reduceAdd, Nat.reduceSub, List.replicate, List.getElem?_cons_zero, List.getElem?_cons_succ, List.set_cons_zero, List.set_cons_succ, List.set_nil, true_and, and_true, if_true, ite_true]
    have key := ok_if (A := rtD Qd .non M) (B := rtD Qd (vlD v) M) (p := v.p) (q := v.q) rfl (fun z => rtD.of (q1 v rfl z)) (fun z => rtD.of (q2 fun u e => by rw [← vlD_inj e]; exact z))
    by_cases c1 : v.q < 0
    · rw [if_pos (by simpa using c1)]
      exact rtD.of (q2 fun u e z => by rw [vlD_inj e] at c1; have := z.1; omega)
    · rw [if_neg (by simpa using c1)]
      rw [if_neg (by simpa using c1)] at key
      refine ⟨_, _, rfl, ?_⟩
      dsimp only
      by_cases c2 : (Int.gcd v.p v.q : Int) = 1
      · rw [if_neg (by simp [c2])] at key
        rw [if_neg (by simp [c2])]
        subst hk
        simp only [dSet, dAsg, dPar, dAug, dRet, dRetN, dDrop, dNext, dNever, dBreak, dCont, diSq, diR1, diR2, items, onI1, onI2, dVar, dC, dOp, dUn, dTest, onB, dAnd, dOr, dNot, dAndV, dOrV, dNotV, dIf, dNil, dCons, dTup, dLst, dLstM, dCall, dFn, hName, hNil, hCons, hSeq, hSub, setF, onSeq, seqD, dSl, doNo, doAt, onI, slF, lstV, lstM, on2, addF, mulF, iF, CT, negF, cmpF, id, ixF, onO, lenF, absF, maxF, minF, tupleF, listF, listFM, reprF, on1, dDictIx, dPairs, onS, lastD, dComp, bName, bSeq, bNames, dYes, wipeD, subF, fdivF, modF, powF, ltF, leF, gtF, geF, eqF, neF, endsD, atI_0, atI_1, atI_2, atI_3, ixN31, ixN32, ixN30, startD, List.map_cons, List.map_nil, List.length_cons, List.length_nil, List.cons_append, List.nil_append, Nat.reduceAdd, Nat.reduceSub, List.replicate, List.getElem?_cons_zero, List.getElem?_cons_succ, List.set_cons_zero, List.set_cons_succ, List.set_nil, true_and, and_true, if_true, ite_true]
        exact key
      · rw [if_pos (by simp [c2])] at key
        rw [if_pos (by simp [c2])]
        exact key
  · have c' : wholeB d 2 = false := by simpa using c
    rw [c']
    simp only [Bool.not_false, if_true]
    refine rtD.of (q2 fun v e => ?_)
    rw [e, whole_vl] at c'
    cases c'
/-! ### what is raised -/
def ReprOk (d : D) : Prop := ∃ t : Str, ∀ (M : DM) (Q : DK), Q (.str t) M → reprXF [d] M Q
structure ExK (ξ : Str → Addr) (exm : Value → Value → Option Bool) : Prop where
  ne : ξ "require_move" ≠ ξ "require_value"
  mm : exm (.ref (ξ "NotAMove")) (.ref (ξ "NotAMove")) = some true
  vm : exm (.ref (ξ "NotAValue")) (.ref (ξ "NotAMove")) = some false
  vv : exm (.ref (ξ "NotAValue")) (.ref (ξ "NotAValue")) = some true
theorem csel1 {a : Addr} {sp : DSp} {l : List (Addr × DSp)} : csel ((a, sp) :: l) a = some sp := by simp [csel]
theorem csel2 {a b : Addr} {sp sq : DSp} (h : a ≠ b) {l : List (Addr × DSp)} : csel ((a, sp) :: (b, sq) :: l) b = some sq := by simp [csel, h]
def sp_law_raised (ξ : Str → Addr) : DSp := fun as M Q X => ∃ (f : Addr) (d : D), as = [.ref f, d] ∧ Simple d ∧ (∀ m : Mv, d = mvD m → Bn 300 m) ∧ ReprOk d ∧
  ((f = ξ "require_move" ∧ (∀ m : Mv, d = mvD m → det m = 1 → Q (mvD (sgn m)) M) ∧ ((∀ m : Mv, d = mvD m → det m ≠ 1) → Q (.tup [.str "move", .bl true]) M)) ∨
   (f = ξ "require_value" ∧ (∀ v : Vl, d = vlD v → VlOk v → Q d M) ∧ ((∀ v : Vl, d = vlD v → ¬ VlOk v) → Q (.tup [.str "value", .bl true]) M)))
def d_law_raised (ξ : Str → Addr) (exm : Value → Value → Option Bool) (c_require_move : DSp) (c_require_value : DSp) : DS :=
  (dSeq (dSet (dC .non) 2)
  (dSeq (dTry exm (dSet (dFnV (csel [(ξ "require_move", c_require_move), (ξ "require_value", c_require_value)]) 1 0 (dCons (dVar 1) dNil)) 2) [(.ref (ξ "NotAMove"), some 3, fun a cls od => (dSet (dTup (dCons (dC (.str "move")) (dCons (dOp eqF (dCall reprXF (dCons (dXf a cls od (ξ "NotAMove") 3 "value") dNil)) (dCall reprXF (dCons (dVar 1) dNil))) dNil))) 2)), (.ref (ξ "NotAValue"), some 3, fun a cls od => (dSet (dTup (dCons (dC (.str "value")) (dCons (dOp eqF (dCall reprXF (dCons (dXf a cls od (ξ "NotAValue") 3 "value") dNil)) (dCall reprXF (dCons (dVar 1) dNil))) dNil))) 2))])
  (dRet (dVar 2))))
theorem b_law_raised {ξ : Str → Addr} {exm : Value → Value → Option Bool} (hE : ExK ξ exm) {as : List D} {M : DM} {Qd : DK} {Xd : DX} (hl : as.length = 2) (h : sp_law_raised ξ as M Qd Xd) : d_law_raised ξ exm (sp_require_move ξ) (sp_require_value ξ) (endsD Qd Xd) (startD 4 as) M := by
  obtain ⟨f, d, rfl, hs, hb, ⟨t, ht⟩, h⟩ := h
  unfold d_law_raised
  simp only [atI_0, atI_1, atI_2, atI_3, ixN31, ixN32, ixN30, startD, List.map_cons, List.map_nil, List.length_cons, List.length_nil, List.cons_append, List.nil_append, Nat.reduceAdd, Nat.reduceSub, List.replicate, List.getElem?_cons_zero, List.getElem?_cons_succ, List.set_cons_zero, List.set_cons_succ, List.set_nil, true_and, and_true, if_true, ite_true]
  refine go_seq fun k hk => ?_; simp only [dSet, dAsg, dPar, dAug, dRet, dRetN, dDrop, dNext, dNever, dBreak, dCont, diSq, diR1, diR2, items, onI1, onI2, dVar, dC, dOp, dUn, dTest, onB, dAnd, dOr, dNot, dAndV, dOrV, dNotV, dIf, dNil, dCons, dTup, dLst, dLstM, dCall, dFn, hName, hNil, hCons, hSeq, hSub, setF, onSeq, seqD, dSl, doNo, doAt, onI, slF, lstV, lstM, on2, addF, mulF, iF, CT, negF, cmpF, id, ixF, onO, lenF, absF, maxF, minF, tupleF, listF, listFM, reprF, on1, dDictIx, dPairs, onS, lastD, dComp, bName, bSeq, bNames, dYes, wipeD, subF, fdivF, modF, powF, ltF, leF, gtF, geF, eqF, neF, endsD, atI_0, atI_1, atI_2, atI_3, ixN31, ixN32, ixN30, startD, List.map_cons, List.map_nil, List.length_cons, List.length_nil, List.cons_append, List.nil_append, Nat.reduceAdd, Nat.reduceSub, List.replicate, List.getElem?_cons_zero, List.getElem?_cons_succ, List.set_cons_zero, List.set_cons_succ, List.set_nil, true_and, and_true, if_true, ite_true]; subst hk
  refine go_seq fun k hk => ?_
  simp only [dTry, dSet, dFnV, dCons, dNil, dVar, atI_0, atI_1, atI_2, atI_3, ixN31, ixN32, ixN30, startD, List.map_cons, List.map_nil, List.length_cons, List.length_nil, List.cons_append, List.nil_append, Nat.reduceAdd, Nat.reduceSub, List.replicate, List.getElem?_cons_zero, List.getElem?_cons_succ, List.set_cons_zero, List.set_cons_succ, List.set_nil, true_and, and_true, if_true, ite_true]
  have fin : ∀ (o3 : Option D) (y : D), Qd y M → k (endsD Qd Xd) [some (.ref f), some d, some y, o3] M := by
    intro o3 y q
    subst hk
    simp only [dSet, dAsg, dPar, dAug, dRet, dRetN, dDrop, dNext, dNever, dBreak, dCont, diSq, diR1, diR2, items, onI1, onI2, dVar, dC, dOp, dUn, dTest, onB, dAnd, dOr, dNot, dAndV, dOrV, dNotV, dIf, dNil, dCons, dTup, dLst, dLstM, dCall, dFn, hName, hNil, hCons, hSeq, hSub, setF, onSeq, seqD, dSl, doNo, doAt, onI, slF, lstV, lstM, on2, addF, mulF, iF, CT, negF, cmpF, id, ixF, onO, lenF, absF, maxF, minF, tupleF, listF, listFM, reprF, on1, dDictIx, dPairs, onS, lastD, dComp, bName, bSeq, bNames, dYes, wipeD, subF, fdivF, modF, powF, ltF, leF, gtF, geF, eqF, neF, endsD, atI_0, atI_1, atI_2, atI_3, ixN31, ixN32, ixN30, startD, List.map_cons, List.map_nil, List.length_cons, List.length_nil, List.cons_append, List.nil_append, Nat.reduceAdd, Nat.reduceSub, List.replicate, List.getElem?_cons_zero, List.getElem?_cons_succ, List.set_cons_zero, List.set_cons_succ, List.set_nil, true_and, and_true, if_true, ite_true]
    exact rtD.of q
  rcases h with ⟨rfl, q1, q2⟩ | ⟨rfl, q1, q2⟩
  · rw [csel1]
    simp only [onO]
    refine ⟨d, rfl, hs, hb, fun m e h1 => fin _ _ (q1 m e h1), fun h2 => ?_⟩
    refine ⟨true, hE.mm, fun _ => ?_, fun z => by cases z⟩
    intro a dd
    simp only [bindX, sufN, dSet, dTup, dOp, dCall, dCons, dNil, dXf, dC, dVar, atI_0, atI_1, atI_2, atI_3, ixN31, ixN32, ixN30, startD, List.map_cons, List.map_nil, List.length_cons, List.length_nil, List.cons_append, List.nil_append, Nat.reduceAdd, Nat.reduceSub, List.replicate, List.getElem?_cons_zero, List.getElem?_cons_succ, List.set_cons_zero, List.set_cons_succ, List.set_nil, true_and, and_true, if_true, ite_true]
    refine ht _ _ ?_
    refine ht _ _ ?_
    simp only [eqF, cmpF, id, decide_true]
    exact ⟨by decide, fin _ _ (q2 h2)⟩
  · rw [csel2 hE.ne]
    simp only [onO]
    refine ⟨d, rfl, hs, fun v e h1 => fin _ _ (q1 v e h1), fun h2 => ?_⟩
    refine ⟨false, hE.vm, ?_, ?_⟩
    · intro z
      cases z
    intro _
    refine ⟨true, hE.vv, ?_, ?_⟩
    rotate_left
    · intro z
      cases z
    intro _
    intro a dd
    simp only [bindX, sufN, dSet, dTup, dOp, dCall, dCons, dNil, dXf, dC, dVar, atI_0, atI_1, atI_2, atI_3, ixN31, ixN32, ixN30, startD, List.map_cons, List.map_nil, List.length_cons, List.length_nil, List.cons_append, List.nil_append, Nat.reduceAdd, Nat.reduceSub, List.replicate, List.getElem?_cons_zero, List.getElem?_cons_succ, List.set_cons_zero, List.set_cons_succ, List.set_nil, true_and, and_true, if_true, ite_true]
    refine ht _ _ ?_
    refine ht _ _ ?_
    simp only [eqF, cmpF, id, decide_true]
    exact ⟨by decide, fin _ _ (q2 h2)⟩
end DP

set_option Elab.async false
set_option linter.all false
set_option maxRecDepth 100000
set_option maxHeartbeats 4000000
namespace DP
open PySem PySem.Spec L2 DL Wm
/-! ### what is shown of plain values -/
inductive Lf : D → Prop
  | non : Lf .non
  | bl (b : Bool) : Lf (.bl b)
  | int (i : Int) (h : i.natAbs ≤ 2 ^ 200) : Lf (.int i)
  | str (x : Str) (h : PyData.canLay0 (.str x) = true) (h2 : (PyData.shown (.str x)).length ≤ 1921) : Lf (.str x)
theorem Lf.flat {x : D} (h : Lf x) : Flat x := by
  cases h with
  | non => exact .non
  | bl b => exact .bl b
  | int i _ => exact .int i
  | str z h _ => exact .str z h
theorem lf_py : ∀ {ds : List D}, (∀ x ∈ ds, Lf x) → ∃ ps, pyOfs ds = some ps ∧ ps.length = ds.length ∧ PyData.showableAll ps = true ∧ PyData.depthAll ps ≤ 1 ∧ (PyData.shownAll ps).length = ds.length ∧ ∀ t ∈ PyData.shownAll ps, t.length ≤ 1921
  | [], _ => ⟨[], by simp [pyOfs], rfl, by simp [PyData.showableAll], by simp [PyData.depthAll], by simp [PyData.shownAll], by simp [PyData.shownAll]⟩
  | x :: ds, h => by
    obtain ⟨ps, e, l, c, d, l2, t⟩ := lf_py fun y hy => h y (List.mem_cons_of_mem _ hy)
    have hx := h x List.mem_cons_self
    have go : ∀ p : PyData, pyOf x = some p → p.showable = true → p.depth ≤ 1 → p.shown.length ≤ 1921 → ∃ ps, pyOfs (x :: ds) = some ps ∧ ps.length = (x :: ds).length ∧ PyData.showableAll ps = true ∧ PyData.depthAll ps ≤ 1 ∧ (PyData.shownAll ps).length = (x :: ds).length ∧ ∀ t ∈ PyData.shownAll ps, t.length ≤ 1921 := by
      intro p h1 h2 h3 h4
      refine ⟨p :: ps, by simp [pyOfs, h1, e], by simp [l], by simp [PyData.showableAll, h2, c], by simp [PyData.depthAll]; omega, by simp [PyData.shownAll, l2], ?_⟩
      intro u hu
      simp only [PyData.shownAll, List.mem_cons] at hu
      rcases hu with rfl | hu
      · exact h4
      · exact t u hu
    cases hx with
    | non => exact go .none (by simp [pyOf]) (by decide +kernel) (by decide +kernel) (by decide +kernel)
    | bl b => exact go (.bool b) (by simp [pyOf]) (by cases b <;> decide +kernel) (by cases b <;> decide +kernel) (by cases b <;> decide +kernel)
    | int i hi =>
      have lg := log2_of_le hi (by decide : 200 ≤ 1900)
      refine go (.int i) (by simp [pyOf]) (by simp [PyData.showable, lg]) (by simp [PyData.depth]) ?_
      unfold PyData.shown
      rw [ofString_length]
      exact int_text_length_le (k := 1920) (by decide) lg
    | str z h1 h2 => exact go (.str z) (by simp [pyOf]) (by simp [PyData.showable]) (by simp [PyData.depth]) h2
theorem piled_le (ts : List Str) (h : ∀ t ∈ ts, t.length ≤ 1921) : piled ts ≤ ts.length * 1923 := by
  have := piled_map (fun x : Str => x) 1921 ts h
  rwa [List.map_id'] at this
theorem sum_le (ts : List Str) (h : ∀ t ∈ ts, t.length ≤ 1921) : (ts.map (·.length)).sum ≤ ts.length * 1921 := by
  induction ts with
  | nil => simp
  | cons t ts ih =>
    have h1 := ih fun u hu => h u (List.mem_cons_of_mem _ hu)
    have h2 := h t List.mem_cons_self
    simp only [List.map_cons, List.sum_cons, List.length_cons]
    omega
theorem listText_len (ts : List Str) (h : ∀ t ∈ ts, t.length ≤ 1921) : (listText ts).length ≤ ts.length * 1923 + 2 := by
  unfold listText
  rw [strLen]
  have e1 : (("[" : Str)).length = 1 := by decide +kernel
  have e2 : (("]" : Str)).length = 1 := by decide +kernel
  have e3 := textFrom_len_le ts 0 "["
  have e4 := sum_le ts h
  omega
theorem repr_tup {ds : List D} (h : ∀ x ∈ ds, Lf x) (hl : ds.length ≤ 1000) : ReprOk (.tup ds) := by
  obtain ⟨ps, e, l, c, d, l2, t⟩ := lf_py h
  refine ⟨(PyData.tuple ps).shown, fun M Q q => .inr (.inr ?_)⟩
  have e2 : pyM M (.tup ds) = some (.tuple ps) := by simp only [pyM, pyOf, e, Option.map_some]
  simp only [reprF, on1, e2, onO]
  refine ⟨by unfold PyData.showable; exact c, by unfold PyData.depth; omega, ?_, q⟩
  unfold PyData.shown
  refine Nat.le_trans (tupleText_len _) ?_
  have h1 := piled_le _ t
  have h2 : (PyData.shownAll ps).length * 1923 ≤ 1000 * 1923 := Nat.mul_le_mul (by omega) (by decide)
  rw [sizeLine_eq]
  omega
theorem repr_lst {ds : List D} (h : ∀ x ∈ ds, Lf x) (hl : ds.length ≤ 1000) : ReprOk (.lst ds) := by
  obtain ⟨ps, e, l, c, d, l2, t⟩ := lf_py h
  refine ⟨(PyData.list ps).shown, fun M Q q => .inr (.inr ?_)⟩
  have e2 : pyM M (.lst ds) = some (.list ps) := by simp only [pyM, pyOf, e, Option.map_some]
  simp only [reprF, on1, e2, onO]
  refine ⟨by unfold PyData.showable; exact c, by unfold PyData.depth; omega, ?_, q⟩
  unfold PyData.shown
  refine Nat.le_trans (listText_len _ t) ?_
  have h2 : (PyData.shownAll ps).length * 1923 ≤ 1000 * 1923 := Nat.mul_le_mul (by omega) (by decide)
  rw [sizeLine_eq]
  omega
theorem repr_lf {x : D} (h : Lf x) : ReprOk x := by
  cases h with
  | non =>
    refine ⟨(PyData.none).shown, fun M Q q => .inr (.inr ?_)⟩
    simp only [reprF, on1, pyM, pyOf, onO]
    exact ⟨by decide +kernel, by decide +kernel, by decide +kernel, q⟩
  | bl b =>
    refine ⟨(PyData.bool b).shown, fun M Q q => .inr (.inr ?_)⟩
    simp only [reprF, on1, pyM, pyOf, onO]
    exact ⟨by cases b <;> decide +kernel, by cases b <;> decide +kernel, by cases b <;> decide +kernel, q⟩
  | int i hi =>
    have lg := log2_of_le hi (by decide : 200 ≤ 1900)
    refine ⟨(PyData.int i).shown, fun M Q q => .inr (.inr ?_)⟩
    simp only [reprF, on1, pyM, pyOf, onO]
    refine ⟨by simp [PyData.showable, lg], by simp [PyData.depth], ?_, q⟩
    unfold PyData.shown
    rw [ofString_length]
    exact Nat.le_trans (int_text_length_le (k := 1920) (by decide) lg) (by rw [sizeLine_eq]; decide)
  | str z h1 h2 =>
    refine ⟨(PyData.str z).shown, fun M Q q => .inr (.inr ?_)⟩
    simp only [reprF, on1, pyM, pyOf, onO]
    exact ⟨by simp [PyData.showable], by simp [PyData.depth], Nat.le_trans h2 (by rw [sizeLine_eq]; decide), q⟩
/-- what the law hands on -/
structure Fine (d : D) : Prop where
  sim : Simple d
  rep : ReprOk d
  bd : ∀ m : Mv, d = mvD m → Bn 300 m
theorem fine_tup {ds : List D} (h : ∀ x ∈ ds, Lf x) (hl : ds.length ≤ 1000) : Fine (.tup ds) := by
  refine ⟨.tup (fun x hx => (h x hx).flat) hl, repr_tup h hl, fun m e => ?_⟩
  have e2 : ds = m.l.map D.int := by injection e
  have b : ∀ i : Int, D.int i ∈ ds → i.natAbs ≤ 2 ^ 300 := fun i hi => by
    cases h _ hi with
    | int i hi => exact Nat.le_trans hi (Nat.pow_le_pow_right (by decide) (by decide))
  subst e2
  exact ⟨b _ (by simp [Mv.l]), b _ (by simp [Mv.l]), b _ (by simp [Mv.l]), b _ (by simp [Mv.l])⟩
theorem fine_ints {ns : List Int} (h : ∀ n ∈ ns, n.natAbs ≤ 2 ^ 200) (hl : ns.length ≤ 1000) : Fine (intsD ns) :=
  fine_tup (fun x hx => by
    obtain ⟨n, hn, rfl⟩ := List.mem_map.mp hx
    exact .int n (h n hn)) (by rw [List.length_map]; exact hl)
theorem fine_lst {ds : List D} (h : ∀ x ∈ ds, Lf x) (hl : ds.length ≤ 1000) : Fine (.lst ds) := ⟨.lst ds, repr_lst h hl, fun m e => by cases e⟩
theorem fine_lf {x : D} (h : Lf x) : Fine x := by
  refine ⟨?_, repr_lf h, fun m e => ?_⟩
  · cases h with
    | non => exact .non
    | bl b => exact .bl b
    | int i _ => exact .int i
    | str z _ _ => exact .str z
  · subst e
    cases h
theorem fine_dct : Fine (.dct [] []) := ⟨.dct [] [], ⟨"{}", fun M Q q => .inl ⟨rfl, q⟩⟩, fun m e => by cases e⟩
end DP

set_option Elab.async false
set_option linter.all false
set_option maxRecDepth 100000
set_option maxHeartbeats 4000000
namespace DP
open PySem PySem.Spec L2 DL Wm
def cutI (ns : List Int) (lo hi : Option Int) : List Int := (ns.drop (HT.sIx ns.length 0 lo)).take (HT.sIx ns.length ns.length hi - HT.sIx ns.length 0 lo)
theorem cut_ints {ns : List Int} {lo hi : Option Int} : cutD (ns.map D.int) lo hi = (cutI ns lo hi).map D.int := by
  unfold cutD cutI
  rw [List.length_map, ← List.map_drop, ← List.map_take]
theorem cut_mem {ns : List Int} {lo hi : Option Int} {n : Int} (h : n ∈ cutI ns lo hi) : n ∈ ns := List.mem_of_mem_drop (List.mem_of_mem_take h)
theorem cut_len {ns : List Int} {lo hi : Option Int} : (cutI ns lo hi).length ≤ ns.length := by
  unfold cutI
  rw [List.length_take, List.length_drop]
  omega
theorem at_ints {ns : List Int} {i : Int} (h0 : 0 ≤ i) (h1 : i < ns.length) : ∃ n ∈ ns, atI (ns.map D.int) i = some (.int n) := by
  obtain ⟨j, rfl⟩ := Int.eq_ofNat_of_zero_le h0
  have hj : j < ns.length := by omega
  exact ⟨ns[j], List.getElem_mem hj, atI_nat (by rw [List.getElem?_map, List.getElem?_eq_getElem hj]; rfl)⟩
theorem noLs_intsA {a : List Int} : noLs (a.map D.int) = true := noLs_ints
theorem atI_4 {α : Type} {x y z u w : α} {xs : List α} : atI (x :: y :: z :: u :: w :: xs) 4 = some w := atI_nat (j := 4) rfl
def sp_law_changed : DSp := fun as M Q _ => ∃ (p : Addr) (ns : List Int), as = [.ref p, intsD ns] ∧ Pen M p ∧ 0 < ns.length ∧ ns.length ≤ 4 ∧ (∀ n ∈ ns, n.natAbs ≤ 2 ^ 150) ∧ ∀ d M', Fine d → PenTo M M' p → Q d M'
def d_law_changed (c_law_draw : DSp) : DS :=
  (dSeq (dPar 2 3 (dCons (dFn c_law_draw 2 (dCons (dVar 0) (dCons (dCall lenF (dCons (dVar 1) dNil)) dNil))) (dCons (dFn c_law_draw 2 (dCons (dVar 0) (dCons (dC (.int 9)) dNil))) dNil)))
  (dSeq (dIfS (dTest (dOp ltF (dVar 3) (dC (.int 4)))) (dRet (dOp addF (dOp addF (dSl (dVar 1) doNo (doAt (dVar 2))) (dTup (dCons (dOp addF (dOp ixF (dVar 1) (dVar 2)) (dOp ixF (dLst (dCons (dC (.int 1)) (dCons (dUn negF (dC (.int 1))) (dCons (dOp powF (dC (.int 10)) (dC (.int 30))) (dCons (dC (.int 0)) dNil))))) (dVar 3))) dNil))) (dSl (dVar 1) (doAt (dOp addF (dVar 2) (dC (.int 1)))) doNo))) dNext)
  (dSeq (dSet (dLstM (dCons (dCall listFM (dCons (dVar 1) dNil)) (dCons (dOp addF (dSl (dVar 1) doNo (doAt (dVar 2))) (dSl (dVar 1) (doAt (dOp addF (dVar 2) (dC (.int 1)))) doNo)) (dCons (dOp addF (dVar 1) (dTup (dCons (dC (.int 0)) dNil))) (dCons (dOp addF (dOp addF (dSl (dVar 1) doNo (doAt (dVar 2))) (dTup (dCons (dC (.bl true)) dNil))) (dSl (dVar 1) (doAt (dOp addF (dVar 2) (dC (.int 1)))) doNo)) dNil))))) 4)
  (dSeq (dSet (dLst (dCons (dC .non) (dCons (dC (.str "move")) (dCons (dC (.int 7)) (dCons (dTup dNil) (dCons dNewM (dCons (dOp mulTF (dTup (dCons (dC .non) dNil)) (dC (.int 4))) (dCons (dTup (dCons (dC (.str "1")) (dCons (dC (.str "0")) dNil))) (dCons (dTup (dCons (dC (.int 0)) (dCons (dC (.int 0)) dNil))) (dCons (dTup (dCons (dC (.int 0)) (dCons (dC (.int 0)) (dCons (dC (.int 0)) (dCons (dC (.int 0)) dNil))))) (dCons (dTup (dCons (dUn negF (dC (.int 1))) (dCons (dC (.int 0)) dNil))) (dCons (dTup (dCons (dC (.int 0)) (dCons (dUn negF (dC (.int 1))) dNil))) (dCons (dTup (dCons (dC (.int 2)) (dCons (dC (.int 0)) dNil))) dNil))))))))))))) 5)
  (dSeq (dDrop (dMt "list" appF (dVar 4) (dCons (dOp ixF (dVar 5) (dFn c_law_draw 2 (dCons (dVar 0) (dCons (dC (.int 12)) dNil)))) dNil)))
  (dRet (dOp ixF (dVar 4) (dOp subF (dVar 3) (dC (.int 4))))))))))
theorem b_law_changed {as : List D} {M : DM} {Qd : DK} {Xd : DX} (hl : as.length = 2) (h : sp_law_changed as M Qd Xd) : d_law_changed sp_law_draw (endsD Qd Xd) (startD 6 as) M := by
  obtain ⟨p, ns, rfl, hP, l0, l4, hb, q⟩ := h
  unfold d_law_changed
  simp only [atI_0, atI_1, atI_2, atI_3, ixN31, ixN32, ixN30, startD, List.map_cons, List.map_nil, List.length_cons, List.length_nil, List.cons_append, List.nil_append, Nat.reduceAdd, Nat.reduceSub, List.replicate, List.getElem?_cons_zero, List.getElem?_cons_succ, List.set_cons_zero, List.set_cons_succ, List.set_nil, true_and, and_true, if_true, ite_true]
  refine go_seq fun k hk => ?_
  simp only [dPar, dFn, dCall, dCons, dNil, dVar, dC, lenF, on1, onSeq, seqD, intsD, List.length_map, atI_0, atI_1, atI_2, atI_3, ixN31, ixN32, ixN30, startD, List.map_cons, List.map_nil, List.length_cons, List.length_nil, List.cons_append, List.nil_append, Nat.reduceAdd, Nat.reduceSub, List.replicate, List.getElem?_cons_zero, List.getElem?_cons_succ, List.set_cons_zero, List.set_cons_succ, List.set_nil, true_and, and_true, if_true, ite_true]
  refine ⟨p, ns.length, rfl, hP, by omega, log2_lit (by omega) (by omega), fun at_ M1 a0 a1 t1 => ?_⟩
  refine ⟨p, 9, rfl, t1.pen, by decide, log2_lit (by decide) (by decide), fun op M2 o0 o9 t2 => ?_⟩
  have t12 := t1.trans t2
  have b200 : ∀ n ∈ ns, n.natAbs ≤ 2 ^ 200 := fun n hn => Nat.le_trans (hb n hn) (Nat.pow_le_pow_right (by decide) (by decide))
  have lfI : ∀ {lo hi : Option Int} {x : D}, x ∈ (cutI ns lo hi).map D.int → Lf x := by
    intro lo hi x hx
    obtain ⟨n, hn, rfl⟩ := List.mem_map.mp hx
    exact .int n (b200 n (cut_mem hn))
  have fits : ∀ {n : Nat}, n ≤ 100 → n ≤ sizeLine := fun h => Nat.le_trans h (by rw [sizeLine_eq]; decide)
  have cl : ∀ {lo hi : Option Int}, (cutI ns lo hi).length ≤ 4 := fun {lo hi} => Nat.le_trans cut_len l4
  subst hk
  refine go_seq fun k hk => ?_
  have rest : ¬ op < 4 → k (endsD Qd Xd) [some (.ref p), some (.tup (ns.map D.int)), some (.int at_), some (.int op), none, none] M2 := by
    intro nop
    subst hk
    refine go_seq fun k hk => ?_
    have c1 := @cl none (some at_)
    have c2 := @cl (some (at_ + 1)) none
    simp only [dSet, dLstM, dCons, dNil, dCall, listFM, on1, onSeq, seqD, dVar, dOp, dSl, dTup, dC, doNo, doAt, onI, slF, cut_ints, addF, List.length_append, List.length_map, atI_0, atI_1, atI_2, atI_3, ixN31, ixN32, ixN30, startD, List.map_cons, List.map_nil, List.length_cons, List.length_nil, List.cons_append, List.nil_append, Nat.reduceAdd, Nat.reduceSub, List.replicate, List.getElem?_cons_zero, List.getElem?_cons_succ, List.set_cons_zero, List.set_cons_succ, List.set_nil, true_and, and_true, if_true, ite_true]
    have lf0 : Lf (D.int 0) := .int 0 (by decide)
    obtain ⟨y2, e2, F2, N2⟩ : ∃ y, y = D.tup ((cutI ns none (some at_)).map D.int ++ (cutI ns (some (at_ + 1)) none).map D.int) ∧ Fine y ∧ noL y = true := ⟨_, rfl, fine_tup (fun x hx => by
      rcases List.mem_append.mp hx with hx | hx
      · exact lfI hx
      · exact lfI hx) (by simp only [List.length_append, List.length_map]; omega), by unfold noL; rw [noLs_app, noLs_ints, noLs_ints]; rfl⟩
    obtain ⟨y3, e3, F3, N3⟩ : ∃ y, y = D.tup (ns.map D.int ++ [D.int 0]) ∧ Fine y ∧ noL y = true := ⟨_, rfl, fine_tup (fun x hx => by
      rcases List.mem_append.mp hx with hx | hx
      · obtain ⟨n, hn, rfl⟩ := List.mem_map.mp hx
        exact .int n (b200 n hn)
      · rw [List.mem_singleton.mp hx]
        exact lf0) (by simp only [List.length_append, List.length_map, List.length_singleton]; omega), by unfold noL; rw [noLs_app, noLs_ints]; simp [noLs, noL]⟩
    obtain ⟨y4, e4, F4, N4⟩ : ∃ y, y = D.tup ((cutI ns none (some at_)).map D.int ++ [D.bl true] ++ (cutI ns (some (at_ + 1)) none).map D.int) ∧ Fine y ∧ noL y = true := ⟨_, rfl, fine_tup (fun x hx => by
      simp only [List.mem_append, List.mem_singleton] at hx
      rcases hx with (hx | rfl) | hx
      · exact lfI hx
      · exact .bl true
      · exact lfI hx) (by simp only [List.length_append, List.length_map, List.length_singleton]; omega), by unfold noL; rw [noLs_app, noLs_app, noLs_ints, noLs_ints]; simp [noLs, noL]⟩
    rw [← e2, ← e3, ← e4]
    refine ⟨noLs_ints, fun q1 f1 => ⟨fits (by omega), fits (by decide), fits (by omega), fits (by decide), fits (by omega), fits (by omega), fits (by decide), ?_, fun q2 f2 => ?_⟩⟩
    · simp [noLs_cons, noLs_nil, N2, N3, N4]
      simp [noL]
    subst hk
    refine go_seq fun k hk => ?_
    simp only [dSet, dLst, dCons, dNil, dC, dTup, dNewM, dOp, mulTF, dUn, negF, atI_0, atI_1, atI_2, atI_3, ixN31, ixN32, ixN30, startD, List.map_cons, List.map_nil, List.length_cons, List.length_nil, List.cons_append, List.nil_append, Nat.reduceAdd, Nat.reduceSub, List.replicate, List.getElem?_cons_zero, List.getElem?_cons_succ, List.set_cons_zero, List.set_cons_succ, List.set_nil, true_and, and_true, if_true, ite_true]
    have key : ∀ (q3 : Addr) (S : List D), put (put M2 q1 (.lst (ns.map D.int))) q2 (.lst [D.ref q1, y2, y3, y4]) q3 = none → S.length = 12 → (∀ y ∈ S, noL y = true ∧ (y = .ref q3 ∨ Fine y)) →
        k (endsD Qd Xd) [some (.ref p), some (.tup (ns.map D.int)), some (.int at_), some (.int op), some (.ref q2), some (.lst S)] (put (put (put M2 q1 (.lst (ns.map D.int))) q2 (.lst [D.ref q1, y2, y3, y4])) q3 (.dct [] [])) := by
      intro q3 S f3 lS hS
      obtain ⟨l, cs, pa, pb, hp, hc, ne⟩ := t12.pen
      have pn : ∀ {M : DM} {a b : Addr} {o : MO}, put M a o b = none → b ≠ a ∧ M b = none := fun {M a b o} h => by
        have h1 : b ≠ a := fun z => by rw [z, put_same] at h; cases h
        exact ⟨h1, by rw [put_ne h1] at h; exact h⟩
      obtain ⟨n21, g2⟩ := pn f2
      obtain ⟨n32, g3⟩ := pn f3
      obtain ⟨n31, g3⟩ := pn g3
      have off : ∀ {a q : Addr} {o : MO}, M2 a = some o → M2 q = none → a ≠ q := fun h1 h2 z => by rw [z, h2] at h1; cases h1
      have np1 := off hp f1
      have np2 := off hp g2
      have np3 := off hp g3
      have nl1 := off hc f1
      have nl2 := off hc g2
      have nl3 := off hc g3
      generalize hM4 : put (put (put M2 q1 (.lst (ns.map D.int))) q2 (.lst [D.ref q1, y2, y3, y4])) q3 (.dct [] []) = M4
      have m1 : M4 q1 = some (.lst (ns.map D.int)) := by rw [← hM4, put_ne (Ne.symm n31), put_ne (Ne.symm n21), put_same]
      have m2 : M4 q2 = some (.lst [D.ref q1, y2, y3, y4]) := by rw [← hM4, put_ne (Ne.symm n32), put_same]
      have m3 : M4 q3 = some (.dct [] []) := by rw [← hM4, put_same]
      have mo : ∀ a, a ≠ q1 → a ≠ q2 → a ≠ q3 → M4 a = M2 a := fun a h1 h2 h3 => by rw [← hM4, put_ne h3, put_ne h2, put_ne h1]
      have hp4 : M4 p = some (penO l pa pb) := by rw [mo p np1 np2 np3]; exact hp
      have hc4 : M4 l = some (.lst (cs.map D.int)) := by rw [mo l nl1 nl2 nl3]; exact hc
      subst hk
      refine go_seq fun k hk => ?_
      simp only [dDrop, dMt, dVar, dCons, dNil, dOp, dFn, dC, atI_0, atI_1, atI_2, atI_3, ixN31, ixN32, ixN30, startD, List.map_cons, List.map_nil, List.length_cons, List.length_nil, List.cons_append, List.nil_append, Nat.reduceAdd, Nat.reduceSub, List.replicate, List.getElem?_cons_zero, List.getElem?_cons_succ, List.set_cons_zero, List.set_cons_succ, List.set_nil, true_and, and_true, if_true, ite_true]
      refine ⟨.inl ⟨rfl, by simp [lstM, m2]⟩, p, 12, rfl, ⟨l, cs, pa, pb, hp4, hc4, ne⟩, by decide, log2_lit (by decide) (by decide), fun v M5 v0 v12 t5 => ?_⟩
      obtain ⟨j, rfl⟩ := Int.eq_ofNat_of_zero_le v0
      have hj : j < S.length := by omega
      have ej : atI S (j : Int) = some S[j] := atI_nat (List.getElem?_eq_getElem hj)
      obtain ⟨yn, yf⟩ := hS _ (List.getElem_mem hj)
      generalize S[j] = y at ej yn yf
      have r5 : ∀ a, a ≠ p → M5 a = M4 a := t5.rest
      have k1 : M5 q1 = some (.lst (ns.map D.int)) := by rw [r5 q1 (Ne.symm np1)]; exact m1
      have k2 : M5 q2 = some (.lst [D.ref q1, y2, y3, y4]) := by rw [r5 q2 (Ne.symm np2)]; exact m2
      have k3 : M5 q3 = some (.dct [] []) := by rw [r5 q3 (Ne.symm np3)]; exact m3
      obtain ⟨pa5, pb5, hp5⟩ := t5.own l pa pb hp4
      have hc5 : M5 l = some (.lst (cs.map D.int)) := by rw [r5 l ne]; exact hc4
      simp only [ixF, onSeq, seqD, ej, onO, appF, on1, onM, k2, yn, atI_0, atI_1, atI_2, atI_3, ixN31, ixN32, ixN30, startD, List.map_cons, List.map_nil, List.length_cons, List.length_nil, List.cons_append, List.nil_append, Nat.reduceAdd, Nat.reduceSub, List.replicate, List.getElem?_cons_zero, List.getElem?_cons_succ, List.set_cons_zero, List.set_cons_succ, List.set_nil, true_and, and_true, if_true, ite_true]
      refine ⟨by rw [sizeLine_eq]; decide, ?_⟩
      -- what is given back: nothing of the three new objects stays
      have back : ∀ (d d' : D), Fine d' → (d' = d ∨ (d = .ref q1 ∧ d' = .lst (ns.map D.int)) ∨ (d = .ref q3 ∧ d' = .dct [] [])) → rtD Qd d (put M5 q2 (.lst [D.ref q1, y2, y3, y4, y])) := by
        intro d d' fd hd
        have hF : ∀ a, a ≠ q1 → a ≠ q2 → a ≠ q3 → (put M5 q2 (.lst [D.ref q1, y2, y3, y4, y])) a = M5 a := fun a _ h2 _ => put_ne h2
        refine ⟨d', fun a => if a = q1 ∨ a = q2 ∨ a = q3 then none else M5 a, fun a o h => ?_, ?_, q d' _ fd ⟨⟨l, cs, pa5, pb5, ?_, ?_, ne⟩, fun a ha => ?_, fun l0 a0 b0 e => ?_⟩⟩
        · dsimp only at h
          by_cases z : a = q1 ∨ a = q2 ∨ a = q3
          · rw [if_pos z] at h; cases h
          · rw [if_neg z] at h
            rw [put_ne (fun z2 => z (.inr (.inl z2)))]
            exact h
        · rcases hd with rfl | ⟨rfl, rfl⟩ | ⟨rfl, rfl⟩
          · exact .same _
          · refine .fr ?_ (if_pos (.inl rfl))
            rw [put_ne (Ne.symm n21)]
            exact k1
          · refine .fd ?_ (if_pos (.inr (.inr rfl)))
            rw [put_ne n32]
            exact k3
        · dsimp only
          rw [if_neg (by rintro (z | z | z) <;> contradiction)]
          exact hp5
        · dsimp only
          rw [if_neg (by rintro (z | z | z) <;> contradiction)]
          exact hc5
        · by_cases z : a = q1 ∨ a = q2 ∨ a = q3
          · rw [if_pos z, ← t12.rest a ha]
            rcases z with rfl | rfl | rfl
            · exact f1.symm
            · exact g2.symm
            · exact g3.symm
          · rw [if_neg z, r5 a ha, mo a (fun w => z (.inl w)) (fun w => z (.inr (.inl w))) (fun w => z (.inr (.inr w)))]
            exact t12.rest a ha
        · obtain ⟨a1, b1, e1⟩ := t12.own l0 a0 b0 e
          rw [hp] at e1
          have e3 : l = l0 := by simp only [penO, Option.some.injEq, MO.lst.injEq, List.cons.injEq, D.ref.injEq] at e1; exact e1.1
          subst e3
          exact ⟨pa5, pb5, by rw [if_neg (by rintro (z | z | z) <;> contradiction)]; exact hp5⟩
      subst hk
      have hop : op - 4 = 0 ∨ op - 4 = 1 ∨ op - 4 = 2 ∨ op - 4 = 3 ∨ op - 4 = 4 := by omega
      simp only [dRet, dOp, dVar, dC, subF, iF, CT, ixF, onSeq, seqD, put_same, endsD, atI_0, atI_1, atI_2, atI_3, ixN31, ixN32, ixN30, startD, List.map_cons, List.map_nil, List.length_cons, List.length_nil, List.cons_append, List.nil_append, Nat.reduceAdd, Nat.reduceSub, List.replicate, List.getElem?_cons_zero, List.getElem?_cons_succ, List.set_cons_zero, List.set_cons_succ, List.set_nil, true_and, and_true, if_true, ite_true]
      rcases hop with e | e | e | e | e <;> rw [e]
      · simp only [atI_0, onO]
        exact back _ _ (fine_lst (fun x hx => by
          obtain ⟨n, hn, rfl⟩ := List.mem_map.mp hx
          exact .int n (b200 n hn)) (by rw [List.length_map]; omega)) (.inr (.inl ⟨rfl, rfl⟩))
      · simp only [atI_1, onO]
        exact back _ _ F2 (.inl rfl)
      · simp only [atI_2, onO]
        exact back _ _ F3 (.inl rfl)
      · simp only [atI_3, onO]
        exact back _ _ F4 (.inl rfl)
      · simp only [atI_4, onO]
        rcases yf with rfl | fy
        · exact back _ _ fine_dct (.inr (.inr ⟨rfl, rfl⟩))
        · exact back _ _ fy (.inl rfl)
    refine ⟨fits (by decide), fun q3 f3 => ⟨fits (by decide), by simp, by decide, by decide, by decide, fits (by decide), fits (by decide), fits (by decide), fits (by decide), fits (by decide), fits (by decide), fits (by decide), key q3 _ f3 rfl ?_⟩⟩
    intro y hy
    simp only [List.mem_cons, List.not_mem_nil, or_false] at hy
    have two : ∀ a b : Int, a.natAbs ≤ 2 → b.natAbs ≤ 2 → noL (.tup [.int a, .int b]) = true ∧ ((D.tup [.int a, .int b]) = .ref q3 ∨ Fine (.tup [.int a, .int b])) := fun a b ha hb => ⟨by simp [noL, noLs], .inr (fine_tup (fun x hx => by
      have h200 : (2 : Nat) ≤ 2 ^ 200 := by decide
      simp only [List.mem_cons, List.not_mem_nil, or_false] at hx
      rcases hx with rfl | rfl
      · exact .int _ (by omega)
      · exact .int _ (by omega)) (by simp))⟩
    rcases hy with rfl | rfl | rfl | rfl | rfl | rfl | rfl | rfl | rfl | rfl | rfl | rfl
    · exact ⟨by simp [noL], .inr (fine_lf .non)⟩
    · exact ⟨by simp [noL], .inr (fine_lf (.str _ (by decide +kernel) (by decide +kernel)))⟩
    · exact ⟨by simp [noL], .inr (fine_lf (.int 7 (by decide)))⟩
    · exact ⟨by simp [noL, noLs], .inr (fine_tup (fun x hx => nomatch hx) (by decide))⟩
    · exact ⟨by simp [noL], .inl rfl⟩
    · have e : (List.replicate (Int.toNat 4) [D.non]).flatten = [D.non, .non, .non, .non] := rfl
      rw [e]
      exact ⟨by simp [noL, noLs], .inr (fine_tup (fun x hx => by
        simp only [List.mem_cons, List.not_mem_nil, or_false, or_self] at hx
        rw [hx]
        exact .non) (by decide))⟩
    · exact ⟨by simp [noL, noLs], .inr (fine_tup (fun x hx => by
        simp only [List.mem_cons, List.not_mem_nil, or_false] at hx
        rcases hx with rfl | rfl
        · exact .str _ (by decide +kernel) (by decide +kernel)
        · exact .str _ (by decide +kernel) (by decide +kernel)) (by decide))⟩
    · exact two 0 0 (by decide) (by decide)
    · exact ⟨by simp [noL, noLs], .inr (fine_tup (fun x hx => by
        simp only [List.mem_cons, List.not_mem_nil, or_false, or_self] at hx
        rw [hx]
        exact .int 0 (by decide)) (by decide))⟩
    · exact two (-1) 0 (by decide) (by decide)
    · exact two 0 (-1) (by decide) (by decide)
    · exact two 2 0 (by decide) (by decide)
  simp only [dIfS, dTest, dOp, ltF, iF, onB, dVar, dC, CT, atI_0, atI_1, atI_2, atI_3, ixN31, ixN32, ixN30, startD, List.map_cons, List.map_nil, List.length_cons, List.length_nil, List.cons_append, List.nil_append, Nat.reduceAdd, Nat.reduceSub, List.replicate, List.getElem?_cons_zero, List.getElem?_cons_succ, List.set_cons_zero, List.set_cons_succ, List.set_nil, true_and, and_true, if_true, ite_true]
  by_cases c : op < 4
  · rw [if_pos (by simpa using c)]
    obtain ⟨n, hn, en⟩ := at_ints a0 a1
    have hv : op = 0 ∨ op = 1 ∨ op = 2 ∨ op = 3 := by omega
    have pw : CPow 10 30 := by unfold CPow; decide
    have go : ∀ e : Int, e.natAbs ≤ 2 ^ 150 → Qd (.tup ((cutI ns none (some at_)).map D.int ++ [D.int (n + e)] ++ (cutI ns (some (at_ + 1)) none).map D.int)) M2 := by
      intro e he
      refine q _ _ (fine_tup (fun x hx => ?_) ?_) t12
      · simp only [List.mem_append, List.mem_singleton] at hx
        rcases hx with (hx | rfl) | hx
        · exact lfI hx
        · refine .int _ ?_
          have := hb n hn
          have h2 := Int.natAbs_add_le n e
          have h3 : (2 : Nat) ^ 150 + 2 ^ 150 ≤ 2 ^ 200 := by decide
          omega
        · exact lfI hx
      · have := @cl none (some at_)
        have := @cl (some (at_ + 1)) none
        simp only [List.length_append, List.length_map, List.length_singleton]
        omega
    have c1 := @cl none (some at_)
    have c2 := @cl (some (at_ + 1)) none
    simp only [dRet, dOp, dSl, dVar, dC, dTup, dLst, dCons, dNil, dUn, negF, doNo, doAt, onI, slF, cut_ints, ixF, onSeq, seqD, en, onO, addF, powF, iF, List.length_append, List.length_map, atI_0, atI_1, atI_2, atI_3, ixN31, ixN32, ixN30, startD, List.map_cons, List.map_nil, List.length_cons, List.length_nil, List.cons_append, List.nil_append, Nat.reduceAdd, Nat.reduceSub, List.replicate, List.getElem?_cons_zero, List.getElem?_cons_succ, List.set_cons_zero, List.set_cons_succ, List.set_nil, true_and, and_true, if_true, ite_true]
    refine ⟨pw, by decide, ?_⟩
    rcases hv with rfl | rfl | rfl | rfl
    · simp only [atI_0]
      exact ⟨fits (by decide), fits (by omega), fits (by omega), rtD.of (go 1 (by decide))⟩
    · simp only [atI_1]
      exact ⟨fits (by decide), fits (by omega), fits (by omega), rtD.of (go (-1) (by decide))⟩
    · simp only [atI_2]
      exact ⟨fits (by decide), fits (by omega), fits (by omega), rtD.of (go _ (by decide +kernel))⟩
    · simp only [atI_3]
      exact ⟨fits (by decide), fits (by omega), fits (by omega), rtD.of (go 0 (by decide))⟩
  · rw [if_neg (by simpa using c)]
    exact rest c
end DP

set_option Elab.async false
set_option linter.all false
set_option maxRecDepth 100000
set_option maxHeartbeats 4000000
namespace K01
open PySem PySem.Spec L2 DL Wm DP
def sp_law : DSp := fun as M Q _ => ∃ ns : List Int, as = [.seq (ns.map D.int)] ∧ M = (fun _ => none) ∧ ∀ M', Q (.bl true) M'
def d_law (ξ : Str → Addr) (c_law_raised : DSp) (c_law_due_value : DSp) (c_law_due_move : DSp) (c_law_draw : DSp) (c_law_changed : DSp) (c_law_fraction : DSp) (c_law_move : DSp) (c_law_word : DSp) (c_law_pen : DSp) : DS :=
  (dSeq (dSet (dFn c_law_pen 1 (dCons (dVar 0) dNil)) 1)
  (dSeq (dFor (diR1 (dCons (dC (.int 8)) dNil)) (hName 2) (dSeq (dSet (dFn c_law_move 1 (dCons (dFn c_law_word 2 (dCons (dVar 1) (dCons (dC (.int 40)) dNil))) dNil)) 3)
  (dSeq (dIfS (dTest (dOp eqF (dFn c_law_draw 2 (dCons (dVar 1) (dCons (dC (.int 2)) dNil))) (dC (.int 0)))) (dSet (dCall tupleF (dCons (dComp (diSq (dVar 3)) (bName 8) dYes (dUn negF (dVar 8)) [8]) dNil)) 3) dNext)
  (dSeq (dSet (dFn c_law_fraction 1 (dCons (dVar 1) dNil)) 4)
  (dSeq (dIfS (dTest (dOp eqF (dFn c_law_draw 2 (dCons (dVar 1) (dCons (dC (.int 3)) dNil))) (dC (.int 0)))) (dPar 3 4 (dCons (dFn c_law_changed 2 (dCons (dVar 1) (dCons (dVar 3) dNil))) (dCons (dFn c_law_changed 2 (dCons (dVar 1) (dCons (dVar 4) dNil))) dNil))) dNext)
  (dFor (diSq (dTup (dCons (dVar 3) (dCons (dVar 4) dNil)))) (hName 5) (dSeq (dSet (dCall reprXF (dCons (dVar 5) dNil)) 6)
  (dSeq (dSet (dFn c_law_due_move 1 (dCons (dVar 5) dNil)) 7)
  (dSeq (dSet (dIf (dTest (dIsN (dVar 7))) (dTup (dCons (dC (.str "move")) (dCons (dC (.bl true)) dNil))) (dVar 7)) 7)
  (dSeq (dIfS (dTest (dOp neF (dCall reprXF (dCons (dFn c_law_raised 2 (dCons (dC (.ref (ξ "require_move"))) (dCons (dVar 5) dNil))) dNil)) (dCall reprXF (dCons (dVar 7) dNil)))) (dRet (dC (.bl false))) dNext)
  (dSeq (dSet (dFn c_law_due_value 1 (dCons (dVar 5) dNil)) 7)
  (dSeq (dSet (dIf (dTest (dIsN (dVar 7))) (dTup (dCons (dC (.str "value")) (dCons (dC (.bl true)) dNil))) (dVar 7)) 7)
  (dIfS (dOr (dTest (dOp neF (dCall reprXF (dCons (dFn c_law_raised 2 (dCons (dC (.ref (ξ "require_value"))) (dCons (dVar 5) dNil))) dNil)) (dCall reprXF (dCons (dVar 7) dNil)))) (dTest (dOp neF (dCall reprXF (dCons (dVar 5) dNil)) (dVar 6)))) (dRet (dC (.bl false))) dNext)))))))))))))
  (dRet (dC (.bl true)))))
theorem rep_mv {m : Mv} (h : Bn 300 m) : ReprOk (mvD m) := ⟨shownMv m, fun M Q q => .inr (.inr (repr_mv h (by decide) q))⟩
theorem rep_pair (x : Str) (h : PyData.canLay0 (.str x) = true) (h2 : (PyData.shown (.str x)).length ≤ 1921) : ReprOk (.tup [.str x, .bl true]) := repr_tup (fun y hy => by
  simp only [List.mem_cons, List.not_mem_nil, or_false] at hy
  rcases hy with rfl | rfl
  · exact .str x h h2
  · exact .bl true) (by simp)
theorem ne_str {a : Str} {M : DM} {Q : DK} (h : Q (.bl false) M) : neF (.str a) (.str a) M Q := by
  simp only [neF, cmpF, decide_true, Bool.not_true]
  exact h
section
variable {ξ : Str → Addr} {x : D} {M : DM} {Q : DK} {X : DX}
theorem raised_mv (F : Fine x) {m : Mv} (e : x = mvD m) (h : det m = 1) (hq : Q (mvD (sgn m)) M) : sp_law_raised ξ [.ref (ξ "require_move"), x] M Q X :=
  ⟨_, x, rfl, F.sim, F.bd, F.rep, .inl ⟨rfl, fun m2 e2 _ => by
    have e3 : m = m2 := mvD_inj (e.symm.trans e2)
    rw [← e3]
    exact hq, fun no => absurd h (no m e)⟩⟩
theorem raised_mvn (F : Fine x) (h : ∀ m : Mv, x = mvD m → det m ≠ 1) (hq : Q (.tup [.str "move", .bl true]) M) : sp_law_raised ξ [.ref (ξ "require_move"), x] M Q X :=
  ⟨_, x, rfl, F.sim, F.bd, F.rep, .inl ⟨rfl, fun m2 e2 h2 => absurd h2 (h m2 e2), fun _ => hq⟩⟩
theorem raised_vl (F : Fine x) {v : Vl} (e : x = vlD v) (h : VlOk v) (hq : Q x M) : sp_law_raised ξ [.ref (ξ "require_value"), x] M Q X :=
  ⟨_, x, rfl, F.sim, F.bd, F.rep, .inr ⟨rfl, fun _ _ _ => hq, fun no => absurd h (no v e)⟩⟩
theorem raised_vln (F : Fine x) (h : ∀ v : Vl, x = vlD v → ¬ VlOk v) (hq : Q (.tup [.str "value", .bl true]) M) : sp_law_raised ξ [.ref (ξ "require_value"), x] M Q X :=
  ⟨_, x, rfl, F.sim, F.bd, F.rep, .inr ⟨rfl, fun v e h2 => absurd h2 (h v e), fun _ => hq⟩⟩
end
theorem b_law {ξ : Str → Addr} {as : List D} {M : DM} {Qd : DK} {Xd : DX} (hl : as.length = 1) (h : sp_law as M Qd Xd) : d_law ξ (sp_law_raised ξ) sp_law_due_value sp_law_due_move sp_law_draw sp_law_changed sp_law_fraction sp_law_move sp_law_word sp_law_pen (endsD Qd Xd) (startD 9 as) M := by
  obtain ⟨ns, rfl, rfl, q⟩ := h
  unfold d_law
  simp only [atI_0, atI_1, atI_2, atI_3, ixN31, ixN32, ixN30, startD, List.map_cons, List.map_nil, List.length_cons, List.length_nil, List.cons_append, List.nil_append, Nat.reduceAdd, Nat.reduceSub, List.replicate, List.getElem?_cons_zero, List.getElem?_cons_succ, List.set_cons_zero, List.set_cons_succ, List.set_nil, true_and, and_true, if_true, ite_true]
  refine go_seq fun k hk => ?_; simp only [dSet, dAsg, dPar, dAug, dRet, dRetN, dDrop, dNext, dNever, dBreak, dCont, diSq, diR1, diR2, items, onI1, onI2, dVar, dC, dOp, dUn, dTest, onB, dAnd, dOr, dNot, dAndV, dOrV, dNotV, dIf, dNil, dCons, dTup, dLst, dLstM, dCall, dFn, hName, hNil, hCons, hSeq, hSub, setF, onSeq, seqD, dSl, doNo, doAt, onI, slF, lstV, lstM, on2, addF, mulF, iF, CT, negF, cmpF, id, ixF, onO, lenF, absF, maxF, minF, tupleF, listF, listFM, reprF, on1, dDictIx, dPairs, onS, lastD, dComp, bName, bSeq, bNames, dYes, wipeD, subF, fdivF, modF, powF, ltF, leF, gtF, geF, eqF, neF, endsD, atI_0, atI_1, atI_2, atI_3, ixN31, ixN32, ixN30, startD, List.map_cons, List.map_nil, List.length_cons, List.length_nil, List.cons_append, List.nil_append, Nat.reduceAdd, Nat.reduceSub, List.replicate, List.getElem?_cons_zero, List.getElem?_cons_succ, List.set_cons_zero, List.set_cons_succ, List.set_nil, true_and, and_true, if_true, ite_true]; subst hk
  refine ⟨ns, rfl, fun p M1 hP _ => ?_⟩
  refine go_seq fun k hk => ?_
  simp only [dFor, diR1, onI1, dCons, dNil, dC]
  refine ⟨by decide, by decide, ?_⟩
  refine dLoop_inv (fun ds ρ M => Pen M p ∧ ∃ o2 o3 o4 o5 o6 o7 o8, ρ = [some (.seq (ns.map D.int)), some (.ref p), o2, o3, o4, o5, o6, o7, o8]) ?_ ?_ _ _ _ ⟨hP, _, _, _, _, _, _, _, rfl⟩
  · rintro ρ M ⟨_, o2, o3, o4, o5, o6, o7, o8, rfl⟩
    subst hk
    simp only [dSet, dAsg, dPar, dAug, dRet, dRetN, dDrop, dNext, dNever, dBreak, dCont, diSq, diR1, diR2, items, onI1, onI2, dVar, dC, dOp, dUn, dTest, onB, dAnd, dOr, dNot, dAndV, dOrV, dNotV, dIf, dNil, dCons, dTup, dLst, dLstM, dCall, dFn, hName, hNil, hCons, hSeq, hSub, setF, onSeq, seqD, dSl, doNo, doAt, onI, slF, lstV, lstM, on2, addF, mulF, iF, CT, negF, cmpF, id, ixF, onO, lenF, absF, maxF, minF, tupleF, listF, listFM, reprF, on1, dDictIx, dPairs, onS, lastD, dComp, bName, bSeq, bNames, dYes, wipeD, subF, fdivF, modF, powF, ltF, leF, gtF, geF, eqF, neF, endsD, atI_0, atI_1, atI_2, atI_3, ixN31, ixN32, ixN30, startD, List.map_cons, List.map_nil, List.length_cons, List.length_nil, List.cons_append, List.nil_append, Nat.reduceAdd, Nat.reduceSub, List.replicate, List.getElem?_cons_zero, List.getElem?_cons_succ, List.set_cons_zero, List.set_cons_succ, List.set_nil, true_and, and_true, if_true, ite_true]
    exact rtD.of (q M)
  clear hP
  rintro d r ρ M ⟨hP, o2, o3, o4, o5, o6, o7, o8, rfl⟩ nx hnx
  simp only [hName, atI_0, atI_1, atI_2, atI_3, ixN31, ixN32, ixN30, startD, List.map_cons, List.map_nil, List.length_cons, List.length_nil, List.cons_append, List.nil_append, Nat.reduceAdd, Nat.reduceSub, List.replicate, List.getElem?_cons_zero, List.getElem?_cons_succ, List.set_cons_zero, List.set_cons_succ, List.set_nil, true_and, and_true, if_true, ite_true]
  refine go_seq fun k2 hk2 => ?_
  simp only [dSet, dFn, dCons, dNil, dVar, dC, atI_0, atI_1, atI_2, atI_3, ixN31, ixN32, ixN30, startD, List.map_cons, List.map_nil, List.length_cons, List.length_nil, List.cons_append, List.nil_append, Nat.reduceAdd, Nat.reduceSub, List.replicate, List.getElem?_cons_zero, List.getElem?_cons_succ, List.set_cons_zero, List.set_cons_succ, List.set_nil, true_and, and_true, if_true, ite_true]
  refine ⟨p, 40, rfl, hP, by decide, by decide, fun u1 M1 hr1 hu1 t1 => ⟨u1, rfl, by omega, ?_⟩⟩
  have gm : Good 40 (moveW u1) := (Good.word u1).mono (by omega)
  generalize moveW u1 = m at gm
  subst hk2
  refine go_seq fun k2 hk2 => ?_
  have rest : ∀ (m : Mv) o8 M2, Bn 40 m → Pen M2 p → k2 { nx := nx, rt := (endsD Qd Xd).rt, ct := nx, bk := fun ρ M => k (endsD Qd Xd) ρ M, ex := (endsD Qd Xd).ex } [some (.seq (ns.map D.int)), some (.ref p), some d, some (mvD m), o4, o5, o6, o7, o8] M2 := by
    intro m o8 M2 bm hP2
    subst hk2
    refine go_seq fun k2 hk2 => ?_
    simp only [dSet, dFn, dCons, dNil, dVar, dC, atI_0, atI_1, atI_2, atI_3, ixN31, ixN32, ixN30, startD, List.map_cons, List.map_nil, List.length_cons, List.length_nil, List.cons_append, List.nil_append, Nat.reduceAdd, Nat.reduceSub, List.replicate, List.getElem?_cons_zero, List.getElem?_cons_succ, List.set_cons_zero, List.set_cons_succ, List.set_nil, true_and, and_true, if_true, ite_true]
    refine ⟨p, rfl, hP2, fun v M3 wv zv t3 => ?_⟩
    subst hk2
    refine go_seq fun k2 hk2 => ?_
    have rest : ∀ (d1 d2 : D) M4, Fine d1 → Fine d2 → Pen M4 p → k2 { nx := nx, rt := (endsD Qd Xd).rt, ct := nx, bk := fun ρ M => k (endsD Qd Xd) ρ M, ex := (endsD Qd Xd).ex } [some (.seq (ns.map D.int)), some (.ref p), some d, some d1, some d2, o5, o6, o7, o8] M4 := by
      intro d1 d2 M4 F1 F2 hP4
      subst hk2
      simp only [dFor, diSq, dTup, dCons, dNil, dVar, items, onSeq, seqD, atI_0, atI_1, atI_2, atI_3, ixN31, ixN32, ixN30, startD, List.map_cons, List.map_nil, List.length_cons, List.length_nil, List.cons_append, List.nil_append, Nat.reduceAdd, Nat.reduceSub, List.replicate, List.getElem?_cons_zero, List.getElem?_cons_succ, List.set_cons_zero, List.set_cons_succ, List.set_nil, true_and, and_true, if_true, ite_true]
      refine ⟨by decide, ?_⟩
      refine dLoop_inv (fun es ρ M => Pen M p ∧ (∀ x ∈ es, Fine x) ∧ ∃ o5 o6 o7 o8, ρ = [some (.seq (ns.map D.int)), some (.ref p), some d, some d1, some d2, o5, o6, o7, o8]) ?_ ?_ _ _ _ ⟨hP4, fun x hx => ?_, _, _, _, _, rfl⟩
      · rintro ρ M ⟨hP5, _, o5, o6, o7, o8, rfl⟩
        exact hnx _ _ ⟨hP5, _, _, _, _, _, _, _, rfl⟩
      · rintro x r2 ρ M ⟨hP5, hf, o5, o6, o7, o8, rfl⟩ nx2 hnx2
        obtain ⟨sx, ⟨tx, hx⟩, bx⟩ := hf x List.mem_cons_self
        have fin : ∀ o6 o7, nx2 [some (.seq (ns.map D.int)), some (.ref p), some d, some d1, some d2, some x, o6, o7, o8] M := fun o6 o7 => hnx2 _ _ ⟨hP5, fun y hy => hf y (List.mem_cons_of_mem _ hy), _, _, _, _, rfl⟩
        simp only [hName, atI_0, atI_1, atI_2, atI_3, ixN31, ixN32, ixN30, startD, List.map_cons, List.map_nil, List.length_cons, List.length_nil, List.cons_append, List.nil_append, Nat.reduceAdd, Nat.reduceSub, List.replicate, List.getElem?_cons_zero, List.getElem?_cons_succ, List.set_cons_zero, List.set_cons_succ, List.set_nil, true_and, and_true, if_true, ite_true]
        refine go_seq fun k hk => ?_
        simp only [dSet, dCall, dCons, dNil, dVar, atI_0, atI_1, atI_2, atI_3, ixN31, ixN32, ixN30, startD, List.map_cons, List.map_nil, List.length_cons, List.length_nil, List.cons_append, List.nil_append, Nat.reduceAdd, Nat.reduceSub, List.replicate, List.getElem?_cons_zero, List.getElem?_cons_succ, List.set_cons_zero, List.set_cons_succ, List.set_nil, true_and, and_true, if_true, ite_true]
        refine hx _ _ ?_
        subst hk
        refine go_seq fun k hk => ?_
        have Fx : Fine x := ⟨sx, ⟨tx, hx⟩, bx⟩
        have afterM : ∀ y0 y : D, ((isNonD y0 = true ∧ y = .tup [.str "move", .bl true]) ∨ (isNonD y0 = false ∧ y = y0)) → ReprOk y → (∀ (Q : DK) (X : DX), Q y M → sp_law_raised ξ [.ref (ξ "require_move"), x] M Q X) →
            k { nx := nx2, rt := (endsD Qd Xd).rt, ct := nx2, bk := fun ρ M => nx ρ M, ex := (endsD Qd Xd).ex } [some (.seq (ns.map D.int)), some (.ref p), some d, some d1, some d2, some x, some (.str tx), some y0, o8] M := by
          intro y0 y hy ⟨ty, hty⟩ hr
          subst hk
          refine go_seq fun k hk => ?_
          have next : k { nx := nx2, rt := (endsD Qd Xd).rt, ct := nx2, bk := fun ρ M => nx ρ M, ex := (endsD Qd Xd).ex } [some (.seq (ns.map D.int)), some (.ref p), some d, some d1, some d2, some x, some (.str tx), some y, o8] M := by
            subst hk
            refine go_seq fun k hk => ?_
            simp only [dIfS, dTest, dOp, dCall, dFn, dCons, dNil, dVar, dC, atI_0, atI_1, atI_2, atI_3, ixN31, ixN32, ixN30, startD, List.map_cons, List.map_nil, List.length_cons, List.length_nil, List.cons_append, List.nil_append, Nat.reduceAdd, Nat.reduceSub, List.replicate, List.getElem?_cons_zero, List.getElem?_cons_succ, List.set_cons_zero, List.set_cons_succ, List.set_nil, true_and, and_true, if_true, ite_true]
            refine hr _ _ ?_
            refine hty _ _ ?_
            refine hty _ _ ?_
            refine ne_str ?_
            simp only [onB, Bool.false_eq_true, if_false, dNext]
            subst hk
            refine go_seq fun k hk => ?_
            have afterV : ∀ y0 y : D, ((isNonD y0 = true ∧ y = .tup [.str "value", .bl true]) ∨ (isNonD y0 = false ∧ y = y0)) → ReprOk y → (∀ (Q : DK) (X : DX), Q y M → sp_law_raised ξ [.ref (ξ "require_value"), x] M Q X) →
                k { nx := nx2, rt := (endsD Qd Xd).rt, ct := nx2, bk := fun ρ M => nx ρ M, ex := (endsD Qd Xd).ex } [some (.seq (ns.map D.int)), some (.ref p), some d, some d1, some d2, some x, some (.str tx), some y0, o8] M := by
              intro y0 y hy ⟨ty, hty⟩ hr
              subst hk
              refine go_seq fun k hk => ?_
              have next : k { nx := nx2, rt := (endsD Qd Xd).rt, ct := nx2, bk := fun ρ M => nx ρ M, ex := (endsD Qd Xd).ex } [some (.seq (ns.map D.int)), some (.ref p), some d, some d1, some d2, some x, some (.str tx), some y, o8] M := by
                subst hk
                simp only [dIfS, dOr, dTest, dOp, dCall, dFn, dCons, dNil, dVar, dC, atI_0, atI_1, atI_2, atI_3, ixN31, ixN32, ixN30, startD, List.map_cons, List.map_nil, List.length_cons, List.length_nil, List.cons_append, List.nil_append, Nat.reduceAdd, Nat.reduceSub, List.replicate, List.getElem?_cons_zero, List.getElem?_cons_succ, List.set_cons_zero, List.set_cons_succ, List.set_nil, true_and, and_true, if_true, ite_true]
                refine hr _ _ ?_
                refine hty _ _ ?_
                refine hty _ _ ?_
                refine ne_str ?_
                simp only [onB, Bool.false_eq_true, if_false]
                refine hx _ _ ?_
                refine ne_str ?_
                simp only [onB, Bool.false_eq_true, if_false, dNext]
                exact fin _ _
              simp only [dSet, dIf, dTest, dIsN, dVar, onB, dTup, dCons, dNil, dC, atI_0, atI_1, atI_2, atI_3, ixN31, ixN32, ixN30, startD, List.map_cons, List.map_nil, List.length_cons, List.length_nil, List.cons_append, List.nil_append, Nat.reduceAdd, Nat.reduceSub, List.replicate, List.getElem?_cons_zero, List.getElem?_cons_succ, List.set_cons_zero, List.set_cons_succ, List.set_nil, true_and, and_true, if_true, ite_true]
              rcases hy with ⟨h1, rfl⟩ | ⟨h1, rfl⟩
              · rw [h1]
                exact ⟨by decide, next⟩
              · rw [h1]
                exact next
            simp only [dSet, dFn, dCons, dNil, dVar, atI_0, atI_1, atI_2, atI_3, ixN31, ixN32, ixN30, startD, List.map_cons, List.map_nil, List.length_cons, List.length_nil, List.cons_append, List.nil_append, Nat.reduceAdd, Nat.reduceSub, List.replicate, List.getElem?_cons_zero, List.getElem?_cons_succ, List.set_cons_zero, List.set_cons_succ, List.set_nil, true_and, and_true, if_true, ite_true]
            refine ⟨x, rfl, sx, fun v e h => afterV x x (.inr ⟨by rw [e]; rfl, rfl⟩) ⟨tx, hx⟩ fun Q X hq => raised_vl Fx e h hq, fun h => afterV .non _ (.inl ⟨rfl, rfl⟩) (rep_pair "value" (by decide +kernel) (by decide +kernel)) fun Q X hq => raised_vln Fx h hq⟩
          simp only [dSet, dIf, dTest, dIsN, dVar, onB, dTup, dCons, dNil, dC, atI_0, atI_1, atI_2, atI_3, ixN31, ixN32, ixN30, startD, List.map_cons, List.map_nil, List.length_cons, List.length_nil, List.cons_append, List.nil_append, Nat.reduceAdd, Nat.reduceSub, List.replicate, List.getElem?_cons_zero, List.getElem?_cons_succ, List.set_cons_zero, List.set_cons_succ, List.set_nil, true_and, and_true, if_true, ite_true]
          rcases hy with ⟨h1, rfl⟩ | ⟨h1, rfl⟩
          · rw [h1]
            exact ⟨by decide, next⟩
          · rw [h1]
            exact next
        simp only [dSet, dFn, dCons, dNil, dVar, atI_0, atI_1, atI_2, atI_3, ixN31, ixN32, ixN30, startD, List.map_cons, List.map_nil, List.length_cons, List.length_nil, List.cons_append, List.nil_append, Nat.reduceAdd, Nat.reduceSub, List.replicate, List.getElem?_cons_zero, List.getElem?_cons_succ, List.set_cons_zero, List.set_cons_succ, List.set_nil, true_and, and_true, if_true, ite_true]
        refine ⟨x, rfl, sx, bx, fun m e h => afterM (mvD (sgn m)) _ (.inr ⟨rfl, rfl⟩) (rep_mv (bx m e).sgn) fun Q X hq => raised_mv Fx e h hq, fun h => afterM .non _ (.inl ⟨rfl, rfl⟩) (rep_pair "move" (by decide +kernel) (by decide +kernel)) fun Q X hq => raised_mvn Fx h hq⟩
      · simp only [List.mem_cons, List.not_mem_nil, or_false] at hx
        rcases hx with rfl | rfl
        · exact F1
        · exact F2
    have b1 : ∀ n ∈ m.l, n.natAbs ≤ 2 ^ 150 := by
      obtain ⟨a, b, c, e⟩ := bm
      have h : (2 : Nat) ^ 40 ≤ 2 ^ 150 := by decide
      intro n hn
      simp only [Mv.l, List.mem_cons, List.not_mem_nil, or_false] at hn
      rcases hn with rfl | rfl | rfl | rfl <;> omega
    have b2 : ∀ n ∈ v.l, n.natAbs ≤ 2 ^ 150 := by
      obtain ⟨a, b⟩ := zv
      have h : (2 : Nat) ^ 68 ≤ 2 ^ 150 := by decide
      intro n hn
      simp only [Vl.l, List.mem_cons, List.not_mem_nil, or_false] at hn
      rcases hn with rfl | rfl <;> omega
    have up : ∀ {ns : List Int}, (∀ n ∈ ns, n.natAbs ≤ 2 ^ 150) → ∀ n ∈ ns, n.natAbs ≤ 2 ^ 200 := fun h n hn => Nat.le_trans (h n hn) (by decide)
    simp only [dIfS, dTest, dOp, dFn, dCons, dNil, dVar, dC, atI_0, atI_1, atI_2, atI_3, ixN31, ixN32, ixN30, startD, List.map_cons, List.map_nil, List.length_cons, List.length_nil, List.cons_append, List.nil_append, Nat.reduceAdd, Nat.reduceSub, List.replicate, List.getElem?_cons_zero, List.getElem?_cons_succ, List.set_cons_zero, List.set_cons_succ, List.set_nil, true_and, and_true, if_true, ite_true]
    refine ⟨p, 3, rfl, t3.pen, by decide, log2_lit (by decide) (by decide), fun z M4 z0 z3 t4 => ?_⟩
    simp only [eqF, cmpF, id, onB]
    by_cases c : z = 0
    · rw [if_pos (by simp [c])]
      simp only [dPar, dFn, dCons, dNil, dVar, atI_0, atI_1, atI_2, atI_3, ixN31, ixN32, ixN30, startD, List.map_cons, List.map_nil, List.length_cons, List.length_nil, List.cons_append, List.nil_append, Nat.reduceAdd, Nat.reduceSub, List.replicate, List.getElem?_cons_zero, List.getElem?_cons_succ, List.set_cons_zero, List.set_cons_succ, List.set_nil, true_and, and_true, if_true, ite_true]
      exact ⟨p, m.l, rfl, t4.pen, by simp [Mv.l], by simp [Mv.l], b1, fun d1 M5 F1 t5 => ⟨p, v.l, rfl, t5.pen, by simp [Vl.l], by simp [Vl.l], b2, fun d2 M6 F2 t6 => rest d1 d2 M6 F1 F2 t6.pen⟩⟩
    · rw [if_neg (by simp [c])]
      exact rest (mvD m) (vlD v) M4 (fine_ints (up b1) (by simp [Mv.l])) (fine_ints (up b2) (by simp [Vl.l])) t4.pen
  simp only [dIfS, dTest, dOp, dFn, dCons, dNil, dVar, dC, atI_0, atI_1, atI_2, atI_3, ixN31, ixN32, ixN30, startD, List.map_cons, List.map_nil, List.length_cons, List.length_nil, List.cons_append, List.nil_append, Nat.reduceAdd, Nat.reduceSub, List.replicate, List.getElem?_cons_zero, List.getElem?_cons_succ, List.set_cons_zero, List.set_cons_succ, List.set_nil, true_and, and_true, if_true, ite_true]
  refine ⟨p, 2, rfl, t1.pen, by decide, log2_lit (by decide) (by decide), fun v M2 v0 v2 t2 => ?_⟩
  simp only [eqF, cmpF, id, onB]
  by_cases c : v = 0
  · rw [if_pos (by simp [c])]
    simp only [dSet, dCall, dComp, diSq, dVar, dCons, dNil, mvD, intsD, items, onSeq, seqD, wipeD, List.length_map, atI_0, atI_1, atI_2, atI_3, ixN31, ixN32, ixN30, startD, List.map_cons, List.map_nil, List.length_cons, List.length_nil, List.cons_append, List.nil_append, Nat.reduceAdd, Nat.reduceSub, List.replicate, List.getElem?_cons_zero, List.getElem?_cons_succ, List.set_cons_zero, List.set_cons_succ, List.set_nil, true_and, and_true, if_true, ite_true]
    refine ⟨by simp [Mv.l, sizeLine_eq], ?_⟩
    refine dCL_map D.int (fun n => D.int (-n)) trivial m.l [] (fun _ _ => by simp [noL]) (fun x _ A B hA => ?_) ?_
    · simp only [bName, dYes, dUn, dVar, negF, if_true, atI_0, atI_1, atI_2, atI_3, ixN31, ixN32, ixN30, startD, List.map_cons, List.map_nil, List.length_cons, List.length_nil, List.cons_append, List.nil_append, Nat.reduceAdd, Nat.reduceSub, List.replicate, List.getElem?_cons_zero, List.getElem?_cons_succ, List.set_cons_zero, List.set_cons_succ, List.set_nil, true_and, and_true, if_true, ite_true]
      exact hA
    · simp only [List.nil_append, tupleF, on1, onSeq, seqD]
      exact rest (neg m) _ _ gm.bn.neg t2.pen
  · rw [if_neg (by simp [c])]
    exact rest m _ _ gm.bn t2.pen
theorem law_true {ns : List Int} (hl : ns.length ≤ 63) (hb : ∀ z ∈ ns, Builtin.Int.intBits z ≤ 1048576) : sp_law [.seq (ns.map D.int)] (fun _ => none) (fun d _ => d = D.bl true) (fun _ _ => False) := ⟨ns, rfl, rfl, fun _ => rfl⟩
end K01

set_option Elab.async false
set_option linter.all false
set_option maxRecDepth 100000
set_option maxHeartbeats 8000000
namespace K01
open PySem PySem.Spec L2 DL Wm DP
def topS (i : Nat) : Stmt := PySem.Challenge.pw_fracwalk_k01_moves_and_values_required.main.body.getD i (.Pass ⟨0, 0, 0, 0⟩)
section
variable {P : Program} {w : World} {K : PySem.W.Frag} {mg : Str → Option Value} {base : Heap}
abbrev s_are_integers : Stmt := topS 4
abbrev N_are_integers : List Str := ["value", "count", "number"]
theorem sc_are_integers : FnScope N_are_integers ["value", "count"] (defScope s_are_integers) := ⟨rfl, rfl, rfl, by decide +kernel, rfl, by decide +kernel, by decide +kernel⟩
theorem ok_are_integers {sp : DSp} (hb : ∀ {as M Qd Xd}, as.length = 2 → sp as M Qd Xd → d_are_integers (endsD Qd Xd) (startD 3 as) M)
    (F : Df K mg "are_integers" s_are_integers ["value", "count"])  (m_all : mg "all" = none) (m_isinstance : mg "isinstance" = none) (m_int : mg "int" = none) (m_bool : mg "bool" = none) (m_tuple : mg "tuple" = none) (m_len : mg "len" = none) : Dn P w K mg base "are_integers" ["value", "count"] 1 sp := by
  refine okF F sc_are_integers (by decide) (fun f cdv A outer s H E hr => ⟨d_are_integers, ?_, fun as M Qd Xd hl h => hb hl h⟩)
  have nd := sc_are_integers.nd
  exact (dz_cons (dz_if (PW.pt (dw_or (dt_not (dt_val (dd_call (pe_callB call_isi (by rfl) m_isinstance (by decide +kernel) (dx_cons (dd_var 0) (dx_cons (dd_ty (by rfl) m_tuple (by decide +kernel)) dx_nil))) cv_isi))) (dw_or1 (dt_cmp (op_neU (by exact hr.units)) ov_ne (dd_call (pe_callB call_lenU (by rfl) m_len (by decide +kernel) (dx_cons (dd_var 0) dx_nil)) cv_len) (dd_var 1) (nomark _))))) (dz_one (dz_ret dd_bl)) dz_nil)
      (dz_one (dz_ret (dd_call (pe_callB (cr_all rfl) (by rfl) m_all (by decide +kernel) (dx_cons (dd_lc rfl nd (di_sq (dd_var 0)) (blkOk_by (N := N_are_integers) (sc := defScope s_are_integers) (own := [("number", 2)]) (by decide +kernel)) rfl (bg_name (j := 2) (by decide)) (fun _ _ _ _ _ => (pg_name (i := 2) nd rfl (.inl rfl))) (fun _ _ _ _ _ => dt_nil) (fun _ _ _ _ _ => (dd_and (dd_call (pe_callB call_isi (by rfl) m_isinstance (by decide +kernel) (dx_cons (dd_var 2) (dx_cons (dd_ty (by rfl) m_int (by decide +kernel)) dx_nil))) cv_isi) (dd_and1 (dd_not (dd_call (pe_callB call_isi (by rfl) m_isinstance (by decide +kernel) (dx_cons (dd_var 2) (dx_cons (dd_ty (by rfl) m_bool (by decide +kernel)) dx_nil))) cv_isi)))))) dx_nil)) cv_all))))

abbrev s_with_sign : Stmt := topS 5
abbrev N_with_sign : List Str := ["numbers", "number", "entry"]
theorem sc_with_sign : FnScope N_with_sign ["numbers"] (defScope s_with_sign) := ⟨rfl, rfl, rfl, by decide +kernel, rfl, by decide +kernel, by decide +kernel⟩
theorem ok_with_sign {sp : DSp} (hb : ∀ {as M Qd Xd}, as.length = 1 → sp as M Qd Xd → d_with_sign (endsD Qd Xd) (startD 3 as) M)
    (F : Df K mg "with_sign" s_with_sign ["numbers"])  (m_tuple : mg "tuple" = none) : Dn P w K mg base "with_sign" ["numbers"] 1 sp := by
  refine okF F sc_with_sign (by decide) (fun f cdv A outer s H E hr => ⟨d_with_sign, ?_, fun as M Qd Xd hl h => hb hl h⟩)
  have nd := sc_with_sign.nd
  exact (dz_cons (dz_for passD rfl (di_sq (dd_var 0)) (dg_name (i := 1) nd rfl (.inl rfl)) (dz_one (dz_if (dt_cmp (op_neU (by exact hr.units)) ov_ne (dd_var 1) dd_int (nomark _)) (dz_one (dz_ret (dd_if (dt_cmp op_lt ov_lt (dd_var 1) dd_int (nomark _)) (dd_call (pe_callTy call_tuple_of (by rfl) m_tuple (by decide +kernel) (dx_cons (dd_lc rfl nd (di_sq (dd_var 0)) (blkOk_by (N := N_with_sign) (sc := defScope s_with_sign) (own := [("entry", 2)]) (by decide +kernel)) rfl (bg_name (j := 2) (by decide)) (fun _ _ _ _ _ => (pg_name (i := 2) nd rfl (.inl rfl))) (fun _ _ _ _ _ => dt_nil) (fun _ _ _ _ _ => (dd_un un_neg uv_neg (dd_var 2)))) dx_nil)) cv_tuple) (dd_call (pe_callTy call_tuple_of (by rfl) m_tuple (by decide +kernel) (dx_cons (dd_var 0) dx_nil)) cv_tuple)))) dz_nil)))
      (dz_one (dz_ret (dd_call (pe_callTy call_tuple_of (by rfl) m_tuple (by decide +kernel) (dx_cons (dd_var 0) dx_nil)) cv_tuple))))

abbrev s_common_divisor : Stmt := topS 6
abbrev N_common_divisor : List Str := ["one", "other"]
theorem sc_common_divisor : FnScope N_common_divisor ["one", "other"] (defScope s_common_divisor) := ⟨rfl, rfl, rfl, by decide +kernel, rfl, by decide +kernel, by decide +kernel⟩
theorem ok_common_divisor {sp : DSp} (hb : ∀ {as M Qd Xd}, as.length = 2 → sp as M Qd Xd → d_common_divisor (endsD Qd Xd) (startD 2 as) M)
    (F : Df K mg "common_divisor" s_common_divisor ["one", "other"])  (m_abs : mg "abs" = none) : Dn P w K mg base "common_divisor" ["one", "other"] 1 sp := by
  refine okF F sc_common_divisor (by decide) (fun f cdv A outer s H E hr => ⟨d_common_divisor, ?_, fun as M Qd Xd hl h => hb hl h⟩)
  have nd := sc_common_divisor.nd
  exact (dz_cons (dz_par (i := 0) (j := 1) rfl nd rfl rfl (by decide) rfl rfl (dx_cons (dd_call (pe_callB call_abs (by rfl) m_abs (by decide +kernel) (dx_cons (dd_var 0) dx_nil)) cv_abs) (dx_cons (dd_call (pe_callB call_abs (by rfl) m_abs (by decide +kernel) (dx_cons (dd_var 1) dx_nil)) cv_abs) dx_nil)) (by rfl))
      (dz_cons (dz_while passD (dt_cmp (op_neU (by exact hr.units)) ov_ne (dd_var 1) dd_int (nomark _)) (dz_one (dz_par (i := 0) (j := 1) rfl nd rfl rfl (by decide) rfl rfl (dx_cons (dd_var 1) (dx_cons (dd_bin op_mod ov_mod (dd_var 0) (dd_var 1)) dx_nil)) (by rfl))))
      (dz_one (dz_ret (dd_var 0)))))

abbrev s_require_move : Stmt := topS 7
abbrev N_require_move : List Str := ["value", "a", "b", "c", "d"]
theorem sc_require_move : FnScope N_require_move ["value"] (defScope s_require_move) := ⟨rfl, rfl, rfl, by decide +kernel, rfl, by decide +kernel, by decide +kernel⟩
theorem ok_require_move {sp sp_with_sign sp_are_integers : DSp} (hb : ∀ {as M Qd Xd}, as.length = 1 → sp as M Qd Xd → d_require_move (xiOf mg) sp_with_sign sp_are_integers (endsD Qd Xd) (startD 5 as) M)
    (F : Df K mg "require_move" s_require_move ["value"]) (G_with_sign : Dn P w K mg base "with_sign" ["numbers"] 1 sp_with_sign) (G_are_integers : Dn P w K mg base "are_integers" ["value", "count"] 1 sp_are_integers)  (Z_NotAMove : XCls P w K mg base "NotAMove" (xiOf mg "NotAMove") "value") : Dn P w K mg base "require_move" ["value"] 3 sp := by
  refine okF F sc_require_move (by decide) (fun f cdv A outer s H E hr => ⟨d_require_move (xiOf mg) sp_with_sign sp_are_integers, ?_, fun as M Qd Xd hl h => hb hl h⟩)
  have nd := sc_require_move.nd
  exact (dz_cons (dz_if (dt_not (dt_val (dd_fnD G_are_integers (hr.mono (by decide)) (by rfl) takesD (dx_cons (dd_var 0) (dx_cons dd_int dx_nil))))) (dz_one (dz_raise rfl takesD Z_NotAMove (hr.mono (by decide)) (by rfl) (dd_var 0))) dz_nil)
      (dz_cons (dz_asg (dd_var 0) (dg_tup rfl (dg_cons (dg_name (i := 1) nd rfl (.inl rfl)) (dg_cons (dg_name (i := 2) nd rfl (.inl rfl)) (dg_cons (dg_name (i := 3) nd rfl (.inl rfl)) (dg_cons (dg_name (i := 4) nd rfl (.inl rfl)) dg_nil))))))
      (dz_cons (dz_if (dt_cmp (op_neU (by exact hr.units)) ov_ne (dd_bin op_sub ov_sub (dd_bin op_mulU ov_mul (dd_var 1) (dd_var 4)) (dd_bin op_mulU ov_mul (dd_var 2) (dd_var 3))) dd_int (nomark _)) (dz_one (dz_raise rfl takesD Z_NotAMove (hr.mono (by decide)) (by rfl) (dd_var 0))) dz_nil)
      (dz_one (dz_ret (dd_fnD G_with_sign (hr.mono (by decide)) (by rfl) takesD (dx_cons (dd_var 0) dx_nil)))))))

abbrev s_require_value : Stmt := topS 8
abbrev N_require_value : List Str := ["value", "p", "q"]
theorem sc_require_value : FnScope N_require_value ["value"] (defScope s_require_value) := ⟨rfl, rfl, rfl, by decide +kernel, rfl, by decide +kernel, by decide +kernel⟩
theorem ok_require_value {sp sp_common_divisor sp_are_integers : DSp} (hb : ∀ {as M Qd Xd}, as.length = 1 → sp as M Qd Xd → d_require_value (xiOf mg) sp_common_divisor sp_are_integers (endsD Qd Xd) (startD 3 as) M)
    (F : Df K mg "require_value" s_require_value ["value"]) (G_common_divisor : Dn P w K mg base "common_divisor" ["one", "other"] 1 sp_common_divisor) (G_are_integers : Dn P w K mg base "are_integers" ["value", "count"] 1 sp_are_integers)  (Z_NotAValue : XCls P w K mg base "NotAValue" (xiOf mg "NotAValue") "value") : Dn P w K mg base "require_value" ["value"] 3 sp := by
  refine okF F sc_require_value (by decide) (fun f cdv A outer s H E hr => ⟨d_require_value (xiOf mg) sp_common_divisor sp_are_integers, ?_, fun as M Qd Xd hl h => hb hl h⟩)
  have nd := sc_require_value.nd
  exact (dz_cons (dz_if (dt_not (dt_val (dd_fnD G_are_integers (hr.mono (by decide)) (by rfl) takesD (dx_cons (dd_var 0) (dx_cons dd_int dx_nil))))) (dz_one (dz_raise rfl takesD Z_NotAValue (hr.mono (by decide)) (by rfl) (dd_var 0))) dz_nil)
      (dz_cons (dz_asg (dd_var 0) (dg_tup rfl (dg_cons (dg_name (i := 1) nd rfl (.inl rfl)) (dg_cons (dg_name (i := 2) nd rfl (.inl rfl)) dg_nil))))
      (dz_cons (dz_if (PW.pt (dw_or (dt_cmp op_lt ov_lt (dd_var 2) dd_int (nomark _)) (dw_or (dt_cmp (op_neU (by exact hr.units)) ov_ne (dd_fnD G_common_divisor (hr.mono (by decide)) (by rfl) takesD (dx_cons (dd_var 1) (dx_cons (dd_var 2) dx_nil))) dd_int (nomark _)) (dw_or1 (PW.pt (dw_and (dt_cmp (op_eqU (by exact hr.units)) ov_eq (dd_var 2) dd_int (nomark _)) (dw_and1 (dt_cmp (op_neU (by exact hr.units)) ov_ne (dd_var 1) dd_int (nomark _))))))))) (dz_one (dz_raise rfl takesD Z_NotAValue (hr.mono (by decide)) (by rfl) (dd_var 0))) dz_nil)
      (dz_one (dz_ret (dd_var 0))))))

abbrev s_law_pen : Stmt := topS 10
abbrev N_law_pen : List Str := ["script"]
theorem sc_law_pen : FnScope N_law_pen ["script"] (defScope s_law_pen) := ⟨rfl, rfl, rfl, by decide +kernel, rfl, by decide +kernel, by decide +kernel⟩
theorem ok_law_pen {sp : DSp} (hb : ∀ {as M Qd Xd}, as.length = 1 → sp as M Qd Xd → d_law_pen (endsD Qd Xd) (startD 1 as) M)
    (F : Df K mg "_law_pen" s_law_pen ["script"])  (m_list : mg "list" = none) : Dn P w K mg base "_law_pen" ["script"] 1 sp := by
  refine okF F sc_law_pen (by decide) (fun f cdv A outer s H E hr => ⟨d_law_pen, ?_, fun as M Qd Xd hl h => hb hl h⟩)
  have nd := sc_law_pen.nd
  exact (dz_one (dz_ret (dd_lstM (dx_cons (dd_call (pe_callTy call_list_of (by rfl) m_list (by decide +kernel) (dx_cons (dd_sl (dd_var 0) do_no (do_at dd_int)) dx_nil)) cv_listM) (dx_cons dd_int (dx_cons dd_int dx_nil))))))

abbrev s_law_fresh : Stmt := topS 11
abbrev N_law_fresh : List Str := ["pen", "at", "cell", "p", "state", "found", "turn"]
theorem sc_law_fresh : FnScope N_law_fresh ["pen"] (defScope s_law_fresh) := ⟨rfl, rfl, rfl, by decide +kernel, rfl, by decide +kernel, by decide +kernel⟩
theorem ok_law_fresh {sp : DSp} (hb : ∀ {as M Qd Xd}, as.length = 1 → sp as M Qd Xd → d_law_fresh (endsD Qd Xd) (startD 7 as) M)
    (F : Df K mg "_law_fresh" s_law_fresh ["pen"])  (m_range : mg "range" = none) (m_len : mg "len" = none) : Dn P w K mg base "_law_fresh" ["pen"] 1 sp := by
  refine okF F sc_law_fresh (by decide) (fun f cdv A outer s H E hr => ⟨d_law_fresh, ?_, fun as M Qd Xd hl h => hb hl h⟩)
  have nd := sc_law_fresh.nd
  exact (dz_cons (dz_set (i := 1) nd rfl (.inl rfl) (dd_ix ix_seq ov_ix (dd_var 0) dd_int (fun _ _ => rfl)))
      (dz_cons (dz_asg (dd_bin op_addU ov_add (dd_var 1) dd_int) (dg_sub (pg_sub (dd_var 0) dd_int set_list) sv_list))
      (dz_cons (dz_set (i := 2) nd rfl (.inl rfl) dd_int)
      (dz_cons (dz_if (dt_cmp (op_neU (by exact hr.units)) ov_ne (dd_ix ix_seq ov_ix (dd_var 0) dd_int (fun _ _ => rfl)) (dd_lst dx_nil) (nomark _)) (dz_one (dz_set (i := 2) nd rfl (.inl rfl) (dd_ix ix_seq ov_ix (dd_ix ix_seq ov_ix (dd_var 0) dd_int (fun _ _ => rfl)) (dd_bin op_mod ov_mod (dd_var 1) (dd_call (pe_callB call_lenU (by rfl) m_len (by decide +kernel) (dx_cons (dd_ix ix_seq ov_ix (dd_var 0) dd_int (fun _ _ => rfl)) dx_nil)) cv_len)) (fun _ _ => rfl)))) dz_nil)
      (dz_cons (dz_if (PW.pt (dw_and (dt_cmp op_lt ov_lt (dd_var 1) (dd_call (pe_callB call_lenU (by rfl) m_len (by decide +kernel) (dx_cons (dd_ix ix_seq ov_ix (dd_var 0) dd_int (fun _ _ => rfl)) dx_nil)) cv_len) (nomark _)) (dw_and1 (dt_cmp op_ge ov_ge (dd_var 2) (dd_bin op_pow ov_pow dd_int dd_int) (nomark _))))) (dz_one (dz_ret (dd_bin op_sub ov_sub (dd_var 2) (dd_bin op_pow ov_pow dd_int dd_int)))) dz_nil)
      (dz_cons (dz_set (i := 3) nd rfl (.inl rfl) dd_int)
      (dz_cons (dz_set (i := 4) nd rfl (.inl rfl) (dd_bin op_mod ov_mod (dd_bin op_addU ov_add (dd_bin op_addU ov_add (dd_bin op_mulU ov_mul (dd_var 2) dd_int) (dd_bin op_mulU ov_mul dd_int (dd_var 1))) dd_int) (dd_var 3)))
      (dz_cons (dz_set (i := 5) nd rfl (.inl rfl) (dd_var 4))
      (dz_cons (dz_for passD rfl (di_r1 (by rfl) m_range (dx_cons dd_int dx_nil)) (dg_name (i := 6) nd rfl (.inl rfl)) (dz_cons (dz_set (i := 4) nd rfl (.inl rfl) (dd_bin op_mod ov_mod (dd_bin op_addU ov_add (dd_bin op_addU ov_add (dd_bin op_mulU ov_mul (dd_var 4) (dd_var 4)) (dd_bin op_mulU ov_mul (dd_bin op_mulU ov_mul dd_int (dd_bin op_addU ov_add (dd_var 6) dd_int)) (dd_bin op_addU ov_add (dd_var 1) dd_int))) (dd_var 2)) (dd_var 3)))
      (dz_one (dz_set (i := 5) nd rfl (.inl rfl) (dd_bin op_addU ov_add (dd_bin op_mulU ov_mul (dd_var 5) (dd_var 3)) (dd_var 4))))))
      (dz_one (dz_ret (dd_var 5))))))))))))

abbrev s_law_draw : Stmt := topS 12
abbrev N_law_draw : List Str := ["pen", "many", "digit"]
theorem sc_law_draw : FnScope N_law_draw ["pen", "many"] (defScope s_law_draw) := ⟨rfl, rfl, rfl, by decide +kernel, rfl, by decide +kernel, by decide +kernel⟩
theorem ok_law_draw {sp sp_law_fresh : DSp} (hb : ∀ {as M Qd Xd}, as.length = 2 → sp as M Qd Xd → d_law_draw sp_law_fresh (endsD Qd Xd) (startD 3 as) M)
    (F : Df K mg "_law_draw" s_law_draw ["pen", "many"]) (G_law_fresh : Dn P w K mg base "_law_fresh" ["pen"] 1 sp_law_fresh)  : Dn P w K mg base "_law_draw" ["pen", "many"] 2 sp := by
  refine okF F sc_law_draw (by decide) (fun f cdv A outer s H E hr => ⟨d_law_draw sp_law_fresh, ?_, fun as M Qd Xd hl h => hb hl h⟩)
  have nd := sc_law_draw.nd
  exact (dz_cons (dz_if (dt_cmp op_lt ov_lt (dd_ix ix_seq ov_ix (dd_var 0) dd_int (fun _ _ => rfl)) (dd_var 1) (nomark _)) (dz_one (dz_asg (dd_fnD G_law_fresh (hr.mono (by decide)) (by rfl) takesD (dx_cons (dd_var 0) dx_nil)) (dg_sub (pg_sub (dd_var 0) dd_int set_list) sv_list))) dz_nil)
      (dz_cons (dz_set (i := 2) nd rfl (.inl rfl) (dd_bin op_mod ov_mod (dd_ix ix_seq ov_ix (dd_var 0) dd_int (fun _ _ => rfl)) (dd_var 1)))
      (dz_cons (dz_asg (dd_bin op_fdivW ov_fdiv (dd_ix ix_seq ov_ix (dd_var 0) dd_int (fun _ _ => rfl)) (dd_var 1)) (dg_sub (pg_sub (dd_var 0) dd_int set_list) sv_list))
      (dz_one (dz_ret (dd_var 2))))))

abbrev s_law_word : Stmt := topS 13
abbrev N_law_word : List Str := ["pen", "most", "found", "many"]
theorem sc_law_word : FnScope N_law_word ["pen", "most"] (defScope s_law_word) := ⟨rfl, rfl, rfl, by decide +kernel, rfl, by decide +kernel, by decide +kernel⟩
theorem ok_law_word {sp sp_law_draw : DSp} (hb : ∀ {as M Qd Xd}, as.length = 2 → sp as M Qd Xd → d_law_word sp_law_draw (endsD Qd Xd) (startD 4 as) M)
    (F : Df K mg "_law_word" s_law_word ["pen", "most"]) (G_law_draw : Dn P w K mg base "_law_draw" ["pen", "many"] 2 sp_law_draw) (m_len : mg "len" = none) : Dn P w K mg base "_law_word" ["pen", "most"] 3 sp := by
  refine okF F sc_law_word (by decide) (fun f cdv A outer s H E hr => ⟨d_law_word sp_law_draw, ?_, fun as M Qd Xd hl h => hb hl h⟩)
  have nd := sc_law_word.nd
  exact (dz_cons (dz_par (i := 2) (j := 3) rfl nd rfl rfl (by decide) rfl rfl (dx_cons dd_str (dx_cons (dd_fnD G_law_draw (hr.mono (by decide)) (by rfl) takesD (dx_cons (dd_var 0) (dx_cons (dd_bin op_addU ov_add (dd_var 1) dd_int) dx_nil))) dx_nil)) (by rfl))
      (dz_cons (dz_if (PW.pt (dw_and (dt_cmp (op_eqU (by exact hr.units)) ov_eq (dd_fnD G_law_draw (hr.mono (by decide)) (by rfl) takesD (dx_cons (dd_var 0) (dx_cons dd_int dx_nil))) dd_int (nomark _)) (dw_and1 (dt_cmp op_gt ov_gt (dd_var 3) dd_int (nomark _))))) (dz_one (dz_set (i := 2) nd rfl (.inl rfl) dd_str)) dz_nil)
      (dz_cons (dz_while passD (dt_cmp op_lt ov_lt (dd_call (pe_callB call_lenU (by rfl) m_len (by decide +kernel) (dx_cons (dd_var 2) dx_nil)) cv_len) (dd_var 3) (nomark _)) (dz_one (dz_if (PW.pt (dw_or (dt_cmp (op_eqU (by exact hr.units)) ov_eq (dd_sl (dd_var 2) (do_at (dd_un un_neg uv_neg dd_int)) do_no) dd_str (nomark _)) (dw_or1 (dt_cmp (op_eqU (by exact hr.units)) ov_eq (dd_var 2) dd_str (nomark _))))) (dz_one (dz_set (i := 2) nd rfl (.inl rfl) (dd_bin op_addU ov_add (dd_var 2) (dd_ix ix_seq ov_ix dd_str (dd_fnD G_law_draw (hr.mono (by decide)) (by rfl) takesD (dx_cons (dd_var 0) (dx_cons dd_int dx_nil))) (fun _ _ => rfl))))) (dz_one (dz_set (i := 2) nd rfl (.inl rfl) (dd_bin op_addU ov_add (dd_var 2) dd_str))))))
      (dz_one (dz_ret (dd_var 2))))))

abbrev s_law_signed : Stmt := topS 14
abbrev N_law_signed : List Str := ["numbers", "number", "one"]
theorem sc_law_signed : FnScope N_law_signed ["numbers"] (defScope s_law_signed) := ⟨rfl, rfl, rfl, by decide +kernel, rfl, by decide +kernel, by decide +kernel⟩
theorem ok_law_signed {sp : DSp} (hb : ∀ {as M Qd Xd}, as.length = 1 → sp as M Qd Xd → d_law_signed (endsD Qd Xd) (startD 3 as) M)
    (F : Df K mg "_law_signed" s_law_signed ["numbers"])  (m_tuple : mg "tuple" = none) : Dn P w K mg base "_law_signed" ["numbers"] 1 sp := by
  refine okF F sc_law_signed (by decide) (fun f cdv A outer s H E hr => ⟨d_law_signed, ?_, fun as M Qd Xd hl h => hb hl h⟩)
  have nd := sc_law_signed.nd
  exact (dz_cons (dz_for passD rfl (di_sq (dd_var 0)) (dg_name (i := 1) nd rfl (.inr rfl)) (dz_one (dz_if (dt_cmp (op_neU (by exact hr.units)) ov_ne (dd_var 1) dd_int (nomark _)) (dz_one (dz_ret (dd_call (pe_callTy call_tuple_of (by rfl) m_tuple (by decide +kernel) (dx_cons (dd_lc rfl nd (di_sq (dd_var 0)) (blkOk_by (N := N_law_signed) (sc := defScope s_law_signed) (own := [("one", 2)]) (by decide +kernel)) rfl (bg_name (j := 2) (by decide)) (fun _ _ _ _ _ => (pg_name (i := 2) nd rfl (.inl rfl))) (fun _ _ _ _ _ => dt_nil) (fun _ _ _ _ _ => (dd_bin op_mulU ov_mul (dd_var 2) (dd_if (dt_cmp op_gt ov_gt (dd_var 1) dd_int (nomark _)) dd_int (dd_un un_neg uv_neg dd_int))))) dx_nil)) cv_tuple))) dz_nil)))
      (dz_one (dz_ret (dd_call (pe_callTy call_tuple_of (by rfl) m_tuple (by decide +kernel) (dx_cons (dd_var 0) dx_nil)) cv_tuple))))

abbrev s_law_product : Stmt := topS 15
abbrev N_law_product : List Str := ["first", "then", "a", "b", "c", "d", "e", "f", "g", "h"]
theorem sc_law_product : FnScope N_law_product ["first", "then"] (defScope s_law_product) := ⟨rfl, rfl, rfl, by decide +kernel, rfl, by decide +kernel, by decide +kernel⟩
theorem ok_law_product {sp sp_law_signed : DSp} (hb : ∀ {as M Qd Xd}, as.length = 2 → sp as M Qd Xd → d_law_product sp_law_signed (endsD Qd Xd) (startD 10 as) M)
    (F : Df K mg "_law_product" s_law_product ["first", "then"]) (G_law_signed : Dn P w K mg base "_law_signed" ["numbers"] 1 sp_law_signed)  : Dn P w K mg base "_law_product" ["first", "then"] 2 sp := by
  refine okF F sc_law_product (by decide) (fun f cdv A outer s H E hr => ⟨d_law_product sp_law_signed, ?_, fun as M Qd Xd hl h => hb hl h⟩)
  have nd := sc_law_product.nd
  exact (dz_cons (dz_asg (dd_var 1) (dg_tup rfl (dg_cons (dg_name (i := 2) nd rfl (.inl rfl)) (dg_cons (dg_name (i := 3) nd rfl (.inl rfl)) (dg_cons (dg_name (i := 4) nd rfl (.inl rfl)) (dg_cons (dg_name (i := 5) nd rfl (.inl rfl)) dg_nil))))))
      (dz_cons (dz_asg (dd_var 0) (dg_tup rfl (dg_cons (dg_name (i := 6) nd rfl (.inl rfl)) (dg_cons (dg_name (i := 7) nd rfl (.inl rfl)) (dg_cons (dg_name (i := 8) nd rfl (.inl rfl)) (dg_cons (dg_name (i := 9) nd rfl (.inl rfl)) dg_nil))))))
      (dz_one (dz_ret (dd_fnD G_law_signed (hr.mono (by decide)) (by rfl) takesD (dx_cons (dd_tup (dx_cons (dd_bin op_addU ov_add (dd_bin op_mulU ov_mul (dd_var 2) (dd_var 6)) (dd_bin op_mulU ov_mul (dd_var 3) (dd_var 8))) (dx_cons (dd_bin op_addU ov_add (dd_bin op_mulU ov_mul (dd_var 2) (dd_var 7)) (dd_bin op_mulU ov_mul (dd_var 3) (dd_var 9))) (dx_cons (dd_bin op_addU ov_add (dd_bin op_mulU ov_mul (dd_var 4) (dd_var 6)) (dd_bin op_mulU ov_mul (dd_var 5) (dd_var 8))) (dx_cons (dd_bin op_addU ov_add (dd_bin op_mulU ov_mul (dd_var 4) (dd_var 7)) (dd_bin op_mulU ov_mul (dd_var 5) (dd_var 9))) dx_nil))))) dx_nil))))))

abbrev s_law_move : Stmt := topS 16
abbrev N_law_move : List Str := ["word", "found", "sign"]
theorem sc_law_move : FnScope N_law_move ["word"] (defScope s_law_move) := ⟨rfl, rfl, rfl, by decide +kernel, rfl, by decide +kernel, by decide +kernel⟩
theorem ok_law_move {sp sp_law_product : DSp} (hb : ∀ {as M Qd Xd}, as.length = 1 → sp as M Qd Xd → d_law_move sp_law_product (endsD Qd Xd) (startD 3 as) M)
    (F : Df K mg "_law_move" s_law_move ["word"]) (G_law_product : Dn P w K mg base "_law_product" ["first", "then"] 2 sp_law_product)  : Dn P w K mg base "_law_move" ["word"] 3 sp := by
  refine okF F sc_law_move (by decide) (fun f cdv A outer s H E hr => ⟨d_law_move sp_law_product, ?_, fun as M Qd Xd hl h => hb hl h⟩)
  have nd := sc_law_move.nd
  exact (dz_cons (dz_set (i := 1) nd rfl (.inl rfl) (dd_tup (dx_cons dd_int (dx_cons dd_int (dx_cons dd_int (dx_cons dd_int dx_nil))))))
      (dz_cons (dz_for passD rfl (di_sq (dd_var 0)) (dg_name (i := 2) nd rfl (.inl rfl)) (dz_one (dz_set (i := 1) nd rfl (.inl rfl) (dd_fnD G_law_product (hr.mono (by decide)) (by rfl) takesD (dx_cons (dd_var 1) (dx_cons (dd_dictIx (hu_of hr) (du_cons (dd_tup (dx_cons dd_int (dx_cons dd_int (dx_cons (dd_un un_neg uv_neg dd_int) (dx_cons dd_int dx_nil))))) (du_cons (dd_tup (dx_cons dd_int (dx_cons dd_int (dx_cons (dd_un un_neg uv_neg dd_int) (dx_cons (dd_un un_neg uv_neg dd_int) dx_nil))))) (du_cons (dd_tup (dx_cons dd_int (dx_cons dd_int (dx_cons (dd_un un_neg uv_neg dd_int) (dx_cons dd_int dx_nil))))) du_nil))) (dd_var 2) rfl rfl (fun z => by cases z) (by decide) (fun _ _ => rfl)) dx_nil))))))
      (dz_one (dz_ret (dd_var 1)))))

abbrev s_law_common : Stmt := topS 17
abbrev N_law_common : List Str := ["one", "other"]
theorem sc_law_common : FnScope N_law_common ["one", "other"] (defScope s_law_common) := ⟨rfl, rfl, rfl, by decide +kernel, rfl, by decide +kernel, by decide +kernel⟩
theorem ok_law_common {sp : DSp} (hb : ∀ {as M Qd Xd}, as.length = 2 → sp as M Qd Xd → d_law_common (endsD Qd Xd) (startD 2 as) M)
    (F : Df K mg "_law_common" s_law_common ["one", "other"])  (m_abs : mg "abs" = none) : Dn P w K mg base "_law_common" ["one", "other"] 1 sp := by
  refine okF F sc_law_common (by decide) (fun f cdv A outer s H E hr => ⟨d_law_common, ?_, fun as M Qd Xd hl h => hb hl h⟩)
  have nd := sc_law_common.nd
  exact (dz_cons (dz_par (i := 0) (j := 1) rfl nd rfl rfl (by decide) rfl rfl (dx_cons (dd_call (pe_callB call_abs (by rfl) m_abs (by decide +kernel) (dx_cons (dd_var 0) dx_nil)) cv_abs) (dx_cons (dd_call (pe_callB call_abs (by rfl) m_abs (by decide +kernel) (dx_cons (dd_var 1) dx_nil)) cv_abs) dx_nil)) (by rfl))
      (dz_cons (dz_while passD (dt_cmp (op_neU (by exact hr.units)) ov_ne (dd_var 1) dd_int (nomark _)) (dz_one (dz_par (i := 0) (j := 1) rfl nd rfl rfl (by decide) rfl rfl (dx_cons (dd_var 1) (dx_cons (dd_bin op_mod ov_mod (dd_var 0) (dd_var 1)) dx_nil)) (by rfl))))
      (dz_one (dz_ret (dd_var 0)))))

abbrev s_law_fraction : Stmt := topS 18
abbrev N_law_fraction : List Str := ["pen", "option", "size", "p", "q", "divisor"]
theorem sc_law_fraction : FnScope N_law_fraction ["pen"] (defScope s_law_fraction) := ⟨rfl, rfl, rfl, by decide +kernel, rfl, by decide +kernel, by decide +kernel⟩
theorem ok_law_fraction {sp sp_law_common sp_law_draw : DSp} (hb : ∀ {as M Qd Xd}, as.length = 1 → sp as M Qd Xd → d_law_fraction sp_law_common sp_law_draw (endsD Qd Xd) (startD 6 as) M)
    (F : Df K mg "_law_fraction" s_law_fraction ["pen"]) (G_law_common : Dn P w K mg base "_law_common" ["one", "other"] 1 sp_law_common) (G_law_draw : Dn P w K mg base "_law_draw" ["pen", "many"] 2 sp_law_draw)  : Dn P w K mg base "_law_fraction" ["pen"] 3 sp := by
  refine okF F sc_law_fraction (by decide) (fun f cdv A outer s H E hr => ⟨d_law_fraction sp_law_common sp_law_draw, ?_, fun as M Qd Xd hl h => hb hl h⟩)
  have nd := sc_law_fraction.nd
  exact (dz_cons (dz_set (i := 1) nd rfl (.inl rfl) (dd_fnD G_law_draw (hr.mono (by decide)) (by rfl) takesD (dx_cons (dd_var 0) (dx_cons dd_int dx_nil))))
      (dz_cons (dz_if (dt_cmp (op_eqU (by exact hr.units)) ov_eq (dd_var 1) dd_int (nomark _)) (dz_one (dz_ret (dd_tup (dx_cons dd_int (dx_cons dd_int dx_nil))))) dz_nil)
      (dz_cons (dz_set (i := 2) nd rfl (.inl rfl) (dd_ix ix_seq ov_ix (dd_lst (dx_cons dd_int (dx_cons dd_int (dx_cons dd_int (dx_cons (dd_bin op_pow ov_pow dd_int dd_int) (dx_cons (dd_bin op_pow ov_pow dd_int dd_int) dx_nil)))))) (dd_fnD G_law_draw (hr.mono (by decide)) (by rfl) takesD (dx_cons (dd_var 0) (dx_cons dd_int dx_nil))) (fun _ _ => rfl)))
      (dz_cons (dz_par (i := 3) (j := 4) rfl nd rfl rfl (by decide) rfl rfl (dx_cons (dd_bin op_sub ov_sub (dd_fnD G_law_draw (hr.mono (by decide)) (by rfl) takesD (dx_cons (dd_var 0) (dx_cons (dd_bin op_addU ov_add (dd_bin op_mulU ov_mul dd_int (dd_var 2)) dd_int) dx_nil))) (dd_var 2)) (dx_cons (dd_bin op_addU ov_add dd_int (dd_fnD G_law_draw (hr.mono (by decide)) (by rfl) takesD (dx_cons (dd_var 0) (dx_cons (dd_var 2) dx_nil)))) dx_nil)) (by rfl))
      (dz_cons (dz_if (dt_cmp (op_eqU (by exact hr.units)) ov_eq (dd_var 1) dd_int (nomark _)) (dz_one (dz_set (i := 4) nd rfl (.inl rfl) dd_int)) dz_nil)
      (dz_cons (dz_set (i := 5) nd rfl (.inl rfl) (dd_fnD G_law_common (hr.mono (by decide)) (by rfl) takesD (dx_cons (dd_var 3) (dx_cons (dd_var 4) dx_nil))))
      (dz_one (dz_ret (dd_tup (dx_cons (dd_bin op_fdivW ov_fdiv (dd_var 3) (dd_var 5)) (dx_cons (dd_bin op_fdivW ov_fdiv (dd_var 4) (dd_var 5)) dx_nil)))))))))))

abbrev s_law_whole : Stmt := topS 19
abbrev N_law_whole : List Str := ["value", "size", "one"]
theorem sc_law_whole : FnScope N_law_whole ["value", "size"] (defScope s_law_whole) := ⟨rfl, rfl, rfl, by decide +kernel, rfl, by decide +kernel, by decide +kernel⟩
theorem ok_law_whole {sp : DSp} (hb : ∀ {as M Qd Xd}, as.length = 2 → sp as M Qd Xd → d_law_whole (endsD Qd Xd) (startD 3 as) M)
    (F : Df K mg "_law_whole" s_law_whole ["value", "size"])  (m_isinstance : mg "isinstance" = none) (m_int : mg "int" = none) (m_bool : mg "bool" = none) (m_tuple : mg "tuple" = none) (m_len : mg "len" = none) : Dn P w K mg base "_law_whole" ["value", "size"] 1 sp := by
  refine okF F sc_law_whole (by decide) (fun f cdv A outer s H E hr => ⟨d_law_whole, ?_, fun as M Qd Xd hl h => hb hl h⟩)
  have nd := sc_law_whole.nd
  exact (dz_cons (dz_if (PW.pt (dw_or (dt_not (dt_val (dd_call (pe_callB call_isi (by rfl) m_isinstance (by decide +kernel) (dx_cons (dd_var 0) (dx_cons (dd_ty (by rfl) m_tuple (by decide +kernel)) dx_nil))) cv_isi))) (dw_or1 (dt_cmp (op_neU (by exact hr.units)) ov_ne (dd_call (pe_callB call_lenU (by rfl) m_len (by decide +kernel) (dx_cons (dd_var 0) dx_nil)) cv_len) (dd_var 1) (nomark _))))) (dz_one (dz_ret dd_bl)) dz_nil)
      (dz_one (dz_ret (dd_cmp (op_eqU (by exact hr.units)) ov_eq (dd_lc rfl nd (di_sq (dd_var 0)) (blkOk_by (N := N_law_whole) (sc := defScope s_law_whole) (own := [("one", 2)]) (by decide +kernel)) rfl (bg_name (j := 2) (by decide)) (fun _ _ _ _ _ => (pg_name (i := 2) nd rfl (.inl rfl))) (fun _ _ _ _ _ => (pts_one (PW.pt (dw_or (dt_not (dt_val (dd_call (pe_callB call_isi (by rfl) m_isinstance (by decide +kernel) (dx_cons (dd_var 2) (dx_cons (dd_ty (by rfl) m_int (by decide +kernel)) dx_nil))) cv_isi))) (dw_or1 (dt_val (dd_call (pe_callB call_isi (by rfl) m_isinstance (by decide +kernel) (dx_cons (dd_var 2) (dx_cons (dd_ty (by rfl) m_bool (by decide +kernel)) dx_nil))) cv_isi))))))) (fun _ _ _ _ _ => (dd_var 2))) (dd_lst dx_nil) (nomark _)))))

abbrev s_law_due_move : Stmt := topS 20
abbrev N_law_due_move : List Str := ["value"]
theorem sc_law_due_move : FnScope N_law_due_move ["value"] (defScope s_law_due_move) := ⟨rfl, rfl, rfl, by decide +kernel, rfl, by decide +kernel, by decide +kernel⟩
theorem ok_law_due_move {sp sp_law_signed sp_law_whole : DSp} (hb : ∀ {as M Qd Xd}, as.length = 1 → sp as M Qd Xd → d_law_due_move sp_law_signed sp_law_whole (endsD Qd Xd) (startD 1 as) M)
    (F : Df K mg "_law_due_move" s_law_due_move ["value"]) (G_law_signed : Dn P w K mg base "_law_signed" ["numbers"] 1 sp_law_signed) (G_law_whole : Dn P w K mg base "_law_whole" ["value", "size"] 1 sp_law_whole)  : Dn P w K mg base "_law_due_move" ["value"] 2 sp := by
  refine okF F sc_law_due_move (by decide) (fun f cdv A outer s H E hr => ⟨d_law_due_move sp_law_signed sp_law_whole, ?_, fun as M Qd Xd hl h => hb hl h⟩)
  have nd := sc_law_due_move.nd
  exact (dz_cons (dz_if (PW.pt (dw_or (dt_not (dt_val (dd_fnD G_law_whole (hr.mono (by decide)) (by rfl) takesD (dx_cons (dd_var 0) (dx_cons dd_int dx_nil))))) (dw_or1 (dt_cmp (op_neU (by exact hr.units)) ov_ne (dd_bin op_sub ov_sub (dd_bin op_mulU ov_mul (dd_ix ix_seq ov_ix (dd_var 0) dd_int (fun _ _ => rfl)) (dd_ix ix_seq ov_ix (dd_var 0) dd_int (fun _ _ => rfl))) (dd_bin op_mulU ov_mul (dd_ix ix_seq ov_ix (dd_var 0) dd_int (fun _ _ => rfl)) (dd_ix ix_seq ov_ix (dd_var 0) dd_int (fun _ _ => rfl)))) dd_int (nomark _))))) (dz_one (dz_ret dd_non)) dz_nil)
      (dz_one (dz_ret (dd_fnD G_law_signed (hr.mono (by decide)) (by rfl) takesD (dx_cons (dd_var 0) dx_nil)))))

abbrev s_law_due_value : Stmt := topS 21
abbrev N_law_due_value : List Str := ["value"]
theorem sc_law_due_value : FnScope N_law_due_value ["value"] (defScope s_law_due_value) := ⟨rfl, rfl, rfl, by decide +kernel, rfl, by decide +kernel, by decide +kernel⟩
theorem ok_law_due_value {sp sp_law_whole sp_law_common : DSp} (hb : ∀ {as M Qd Xd}, as.length = 1 → sp as M Qd Xd → d_law_due_value sp_law_whole sp_law_common (endsD Qd Xd) (startD 1 as) M)
    (F : Df K mg "_law_due_value" s_law_due_value ["value"]) (G_law_whole : Dn P w K mg base "_law_whole" ["value", "size"] 1 sp_law_whole) (G_law_common : Dn P w K mg base "_law_common" ["one", "other"] 1 sp_law_common)  : Dn P w K mg base "_law_due_value" ["value"] 2 sp := by
  refine okF F sc_law_due_value (by decide) (fun f cdv A outer s H E hr => ⟨d_law_due_value sp_law_whole sp_law_common, ?_, fun as M Qd Xd hl h => hb hl h⟩)
  have nd := sc_law_due_value.nd
  exact (dz_cons (dz_if (PW.pt (dw_or (dt_not (dt_val (dd_fnD G_law_whole (hr.mono (by decide)) (by rfl) takesD (dx_cons (dd_var 0) (dx_cons dd_int dx_nil))))) (dw_or (dt_cmp op_lt ov_lt (dd_ix ix_seq ov_ix (dd_var 0) dd_int (fun _ _ => rfl)) dd_int (nomark _)) (dw_or1 (dt_cmp (op_neU (by exact hr.units)) ov_ne (dd_fnD G_law_common (hr.mono (by decide)) (by rfl) takesD (dx_cons (dd_ix ix_seq ov_ix (dd_var 0) dd_int (fun _ _ => rfl)) (dx_cons (dd_ix ix_seq ov_ix (dd_var 0) dd_int (fun _ _ => rfl)) dx_nil))) dd_int (nomark _)))))) (dz_one (dz_ret dd_non)) dz_nil)
      (dz_one (dz_ret (dd_if (PW.pt (dw_and (dt_cmp (op_eqU (by exact hr.units)) ov_eq (dd_ix ix_seq ov_ix (dd_var 0) dd_int (fun _ _ => rfl)) dd_int (nomark _)) (dw_and1 (dt_cmp (op_neU (by exact hr.units)) ov_ne (dd_ix ix_seq ov_ix (dd_var 0) dd_int (fun _ _ => rfl)) dd_int (nomark _))))) dd_non (dd_var 0)))))

abbrev s_law_raised : Stmt := topS 22
abbrev N_law_raised : List Str := ["asked", "value", "found", "e"]
theorem sc_law_raised : FnScope N_law_raised ["asked", "value"] (defScope s_law_raised) := ⟨rfl, rfl, rfl, by decide +kernel, rfl, by decide +kernel, by decide +kernel⟩
theorem ok_law_raised {sp sp_require_move sp_require_value : DSp} (hb : ∀ {as M Qd Xd}, as.length = 2 → sp as M Qd Xd → d_law_raised (xiOf mg) (PySem.W.exmOne K) sp_require_move sp_require_value (endsD Qd Xd) (startD 4 as) M)
    (F : Df K mg "_law_raised" s_law_raised ["asked", "value"]) (G_require_move : Dn P w K mg base "require_move" ["value"] 3 sp_require_move) (G_require_value : Dn P w K mg base "require_value" ["value"] 3 sp_require_value) (m_repr : mg "repr" = none) (M_NotAValue : mg "NotAValue" = some (.ref (xiOf mg "NotAValue"))) (xf_NotAValue : XfC K (xiOf mg "NotAValue") ∧ PySem.W.findIn K (.ref (xiOf mg "NotAValue")) "value" = some none) (M_NotAMove : mg "NotAMove" = some (.ref (xiOf mg "NotAMove"))) (xf_NotAMove : XfC K (xiOf mg "NotAMove") ∧ PySem.W.findIn K (.ref (xiOf mg "NotAMove")) "value" = some none) : Dg P w K mg base "_law_raised" ["asked", "value"] 4 sp := by
  refine okG F sc_law_raised (by decide) (fun f cdv A outer s H E hr hg => ⟨d_law_raised (xiOf mg) (PySem.W.exmOne K) sp_require_move sp_require_value, ?_, fun as M Qd Xd hl h => hb hl h⟩)
  have nd := sc_law_raised.nd
  exact (dz_cons (dz_set (i := 2) nd rfl (.inl rfl) dd_non)
      (dz_cons (dz_try nd rfl rfl takesD (fun W pn xe tk hp => (dz_one (dz_set (i := 2) nd rfl (.inl rfl) (dd_fnV (csel_ok fun p hp => by simp only [List.mem_cons, List.not_mem_nil, or_false] at hp; rcases hp with rfl | rfl; exact G_require_move.g.calV rfl (hr.mono (by decide)); exact G_require_value.g.calV rfl (hr.mono (by decide))) hg rfl (.inl rfl) tk (dx_cons (dd_var 1) dx_nil))))) (.as (i := 3) rfl rfl ⟨rfl, by decide, .inl M_NotAMove⟩ (fun a oe cls od pn hz hf => (dz_one (dz_set (i := 2) nd rfl (.inl rfl) (dd_tup (dx_cons dd_str (dx_cons (dd_cmp (op_eqU (by exact hr.units)) ov_eq (dd_call (pe_callB (call_reprX (by exact hg) (by exact hr.units)) (by rfl) m_repr (by decide +kernel) (dx_cons (dd_xf (C := xiOf mg "NotAMove") xf_NotAMove.1 xf_NotAMove.2 hz hf rfl (.inl rfl)) dx_nil)) cv_reprX) (dd_call (pe_callB (call_reprX (by exact hg) (by exact hr.units)) (by rfl) m_repr (by decide +kernel) (dx_cons (dd_var 1) dx_nil)) cv_reprX) (nomark _)) dx_nil)))))) (.as (i := 3) rfl rfl ⟨rfl, by decide, .inl M_NotAValue⟩ (fun a oe cls od pn hz hf => (dz_one (dz_set (i := 2) nd rfl (.inl rfl) (dd_tup (dx_cons dd_str (dx_cons (dd_cmp (op_eqU (by exact hr.units)) ov_eq (dd_call (pe_callB (call_reprX (by exact hg) (by exact hr.units)) (by rfl) m_repr (by decide +kernel) (dx_cons (dd_xf (C := xiOf mg "NotAValue") xf_NotAValue.1 xf_NotAValue.2 hz hf rfl (.inl rfl)) dx_nil)) cv_reprX) (dd_call (pe_callB (call_reprX (by exact hg) (by exact hr.units)) (by rfl) m_repr (by decide +kernel) (dx_cons (dd_var 1) dx_nil)) cv_reprX) (nomark _)) dx_nil)))))) .nil)))
      (dz_one (dz_ret (dd_var 2)))))

abbrev s_law_changed : Stmt := topS 23
abbrev N_law_changed : List Str := ["pen", "value", "at", "option", "odd", "some"]
theorem sc_law_changed : FnScope N_law_changed ["pen", "value"] (defScope s_law_changed) := ⟨rfl, rfl, rfl, by decide +kernel, rfl, by decide +kernel, by decide +kernel⟩
theorem ok_law_changed {sp sp_law_draw : DSp} (hb : ∀ {as M Qd Xd}, as.length = 2 → sp as M Qd Xd → d_law_changed sp_law_draw (endsD Qd Xd) (startD 6 as) M)
    (F : Df K mg "_law_changed" s_law_changed ["pen", "value"]) (G_law_draw : Dn P w K mg base "_law_draw" ["pen", "many"] 2 sp_law_draw) (m_list : mg "list" = none) (m_len : mg "len" = none) : Dn P w K mg base "_law_changed" ["pen", "value"] 3 sp := by
  refine okF F sc_law_changed (by decide) (fun f cdv A outer s H E hr => ⟨d_law_changed sp_law_draw, ?_, fun as M Qd Xd hl h => hb hl h⟩)
  have nd := sc_law_changed.nd
  exact (dz_cons (dz_par (i := 2) (j := 3) rfl nd rfl rfl (by decide) rfl rfl (dx_cons (dd_fnD G_law_draw (hr.mono (by decide)) (by rfl) takesD (dx_cons (dd_var 0) (dx_cons (dd_call (pe_callB call_lenU (by rfl) m_len (by decide +kernel) (dx_cons (dd_var 1) dx_nil)) cv_len) dx_nil))) (dx_cons (dd_fnD G_law_draw (hr.mono (by decide)) (by rfl) takesD (dx_cons (dd_var 0) (dx_cons dd_int dx_nil))) dx_nil)) (by rfl))
      (dz_cons (dz_if (dt_cmp op_lt ov_lt (dd_var 3) dd_int (nomark _)) (dz_one (dz_ret (dd_bin op_addU ov_add (dd_bin op_addU ov_add (dd_sl (dd_var 1) do_no (do_at (dd_var 2))) (dd_tup (dx_cons (dd_bin op_addU ov_add (dd_ix ix_seq ov_ix (dd_var 1) (dd_var 2) (fun _ _ => rfl)) (dd_ix ix_seq ov_ix (dd_lst (dx_cons dd_int (dx_cons (dd_un un_neg uv_neg dd_int) (dx_cons (dd_bin op_pow ov_pow dd_int dd_int) (dx_cons dd_int dx_nil))))) (dd_var 3) (fun _ _ => rfl))) dx_nil))) (dd_sl (dd_var 1) (do_at (dd_bin op_addU ov_add (dd_var 2) dd_int)) do_no)))) dz_nil)
      (dz_cons (dz_set (i := 4) nd rfl (.inl rfl) (dd_lstM (dx_cons (dd_call (pe_callTy call_list_of (by rfl) m_list (by decide +kernel) (dx_cons (dd_var 1) dx_nil)) cv_listM) (dx_cons (dd_bin op_addU ov_add (dd_sl (dd_var 1) do_no (do_at (dd_var 2))) (dd_sl (dd_var 1) (do_at (dd_bin op_addU ov_add (dd_var 2) dd_int)) do_no)) (dx_cons (dd_bin op_addU ov_add (dd_var 1) (dd_tup (dx_cons dd_int dx_nil))) (dx_cons (dd_bin op_addU ov_add (dd_bin op_addU ov_add (dd_sl (dd_var 1) do_no (do_at (dd_var 2))) (dd_tup (dx_cons dd_bl dx_nil))) (dd_sl (dd_var 1) (do_at (dd_bin op_addU ov_add (dd_var 2) dd_int)) do_no)) dx_nil))))))
      (dz_cons (dz_set (i := 5) nd rfl (.inl rfl) (dd_lst (dx_cons dd_non (dx_cons dd_str (dx_cons dd_int (dx_cons (dd_tup dx_nil) (dx_cons dd_newM (dx_cons (dd_bin op_repT ov_mulT (dd_tup (dx_cons dd_non dx_nil)) dd_int) (dx_cons (dd_tup (dx_cons dd_str (dx_cons dd_str dx_nil))) (dx_cons (dd_tup (dx_cons dd_int (dx_cons dd_int dx_nil))) (dx_cons (dd_tup (dx_cons dd_int (dx_cons dd_int (dx_cons dd_int (dx_cons dd_int dx_nil))))) (dx_cons (dd_tup (dx_cons (dd_un un_neg uv_neg dd_int) (dx_cons dd_int dx_nil))) (dx_cons (dd_tup (dx_cons dd_int (dx_cons (dd_un un_neg uv_neg dd_int) dx_nil))) (dx_cons (dd_tup (dx_cons dd_int (dx_cons dd_int dx_nil))) dx_nil))))))))))))))
      (dz_cons (dz_expr (dd_mt PySem.F.plainAttrs_list PySem.F.slot_list_append PySem.F.type_list_append mt_append mv_append (dd_var 4) (dx_cons (dd_ix ix_seq ov_ix (dd_var 5) (dd_fnD G_law_draw (hr.mono (by decide)) (by rfl) takesD (dx_cons (dd_var 0) (dx_cons dd_int dx_nil))) (fun _ _ => rfl)) dx_nil)))
      (dz_one (dz_ret (dd_ix ix_seq ov_ix (dd_var 4) (dd_bin op_sub ov_sub (dd_var 3) dd_int) (fun _ _ => rfl)))))))))

abbrev s_law : Stmt := topS 24
abbrev N_law : List Str := ["script", "pen", "turn", "move", "pair", "value", "before", "due", "number"]
theorem sc_law : FnScope N_law ["script"] (defScope s_law) := ⟨rfl, rfl, rfl, by decide +kernel, rfl, by decide +kernel, by decide +kernel⟩
theorem ok_law {sp sp_law_raised sp_law_due_value sp_law_due_move sp_law_draw sp_law_changed sp_law_fraction sp_law_move sp_law_word sp_law_pen : DSp} (hb : ∀ {as M Qd Xd}, as.length = 1 → sp as M Qd Xd → d_law (xiOf mg) sp_law_raised sp_law_due_value sp_law_due_move sp_law_draw sp_law_changed sp_law_fraction sp_law_move sp_law_word sp_law_pen (endsD Qd Xd) (startD 9 as) M)
    (F : Df K mg "law" s_law ["script"]) (G_law_raised : Dg P w K mg base "_law_raised" ["asked", "value"] 4 sp_law_raised) (G_law_due_value : Dn P w K mg base "_law_due_value" ["value"] 2 sp_law_due_value) (G_law_due_move : Dn P w K mg base "_law_due_move" ["value"] 2 sp_law_due_move) (G_law_draw : Dn P w K mg base "_law_draw" ["pen", "many"] 2 sp_law_draw) (G_law_changed : Dn P w K mg base "_law_changed" ["pen", "value"] 3 sp_law_changed) (G_law_fraction : Dn P w K mg base "_law_fraction" ["pen"] 3 sp_law_fraction) (G_law_move : Dn P w K mg base "_law_move" ["word"] 3 sp_law_move) (G_law_word : Dn P w K mg base "_law_word" ["pen", "most"] 3 sp_law_word) (G_law_pen : Dn P w K mg base "_law_pen" ["script"] 1 sp_law_pen) (m_range : mg "range" = none) (m_repr : mg "repr" = none) (m_tuple : mg "tuple" = none) (g_require_value : mg "require_value" = some (.ref (xiOf mg "require_value"))) (g_require_move : mg "require_move" = some (.ref (xiOf mg "require_move"))) : Dg P w K mg base "law" ["script"] 5 sp := by
  refine okG F sc_law (by decide) (fun f cdv A outer s H E hr hg => ⟨d_law (xiOf mg) sp_law_raised sp_law_due_value sp_law_due_move sp_law_draw sp_law_changed sp_law_fraction sp_law_move sp_law_word sp_law_pen, ?_, fun as M Qd Xd hl h => hb hl h⟩)
  have nd := sc_law.nd
  exact (dz_cons (dz_set (i := 1) nd rfl (.inl rfl) (dd_fnD G_law_pen (hr.mono (by decide)) (by rfl) takesD (dx_cons (dd_var 0) dx_nil)))
      (dz_cons (dz_for passD rfl (di_r1 (by rfl) m_range (dx_cons dd_int dx_nil)) (dg_name (i := 2) nd rfl (.inl rfl)) (dz_cons (dz_set (i := 3) nd rfl (.inl rfl) (dd_fnD G_law_move (hr.mono (by decide)) (by rfl) takesD (dx_cons (dd_fnD G_law_word (hr.mono (by decide)) (by rfl) takesD (dx_cons (dd_var 1) (dx_cons dd_int dx_nil))) dx_nil)))
      (dz_cons (dz_if (dt_cmp (op_eqU (by exact hr.units)) ov_eq (dd_fnD G_law_draw (hr.mono (by decide)) (by rfl) takesD (dx_cons (dd_var 1) (dx_cons dd_int dx_nil))) dd_int (nomark _)) (dz_one (dz_set (i := 3) nd rfl (.inl rfl) (dd_call (pe_callTy call_tuple_of (by rfl) m_tuple (by decide +kernel) (dx_cons (dd_lc rfl nd (di_sq (dd_var 3)) (blkOk_by (N := N_law) (sc := defScope s_law) (own := [("number", 8)]) (by decide +kernel)) rfl (bg_name (j := 8) (by decide)) (fun _ _ _ _ _ => (pg_name (i := 8) nd rfl (.inl rfl))) (fun _ _ _ _ _ => dt_nil) (fun _ _ _ _ _ => (dd_un un_neg uv_neg (dd_var 8)))) dx_nil)) cv_tuple))) dz_nil)
      (dz_cons (dz_set (i := 4) nd rfl (.inl rfl) (dd_fnD G_law_fraction (hr.mono (by decide)) (by rfl) takesD (dx_cons (dd_var 1) dx_nil)))
      (dz_cons (dz_if (dt_cmp (op_eqU (by exact hr.units)) ov_eq (dd_fnD G_law_draw (hr.mono (by decide)) (by rfl) takesD (dx_cons (dd_var 1) (dx_cons dd_int dx_nil))) dd_int (nomark _)) (dz_one (dz_par (i := 3) (j := 4) rfl nd rfl rfl (by decide) rfl rfl (dx_cons (dd_fnD G_law_changed (hr.mono (by decide)) (by rfl) takesD (dx_cons (dd_var 1) (dx_cons (dd_var 3) dx_nil))) (dx_cons (dd_fnD G_law_changed (hr.mono (by decide)) (by rfl) takesD (dx_cons (dd_var 1) (dx_cons (dd_var 4) dx_nil))) dx_nil)) (by rfl))) dz_nil)
      (dz_one (dz_for passD rfl (di_sq (dd_tup (dx_cons (dd_var 3) (dx_cons (dd_var 4) dx_nil)))) (dg_name (i := 5) nd rfl (.inl rfl)) (dz_cons (dz_set (i := 6) nd rfl (.inl rfl) (dd_call (pe_callB (call_reprX (by exact hg) (by exact hr.units)) (by rfl) m_repr (by decide +kernel) (dx_cons (dd_var 5) dx_nil)) cv_reprX))
      (dz_cons (dz_set (i := 7) nd rfl (.inl rfl) (dd_fnD G_law_due_move (hr.mono (by decide)) (by rfl) takesD (dx_cons (dd_var 5) dx_nil)))
      (dz_cons (dz_set (i := 7) nd rfl (.inl rfl) (dd_if (dt_isN (dd_var 7)) (dd_tup (dx_cons dd_str (dx_cons dd_bl dx_nil))) (dd_var 7)))
      (dz_cons (dz_if (dt_cmp (op_neU (by exact hr.units)) ov_ne (dd_call (pe_callB (call_reprX (by exact hg) (by exact hr.units)) (by rfl) m_repr (by decide +kernel) (dx_cons (dd_fnG G_law_raised (hr.mono (by decide)) hg (by rfl) takesD (dx_cons (dd_glob (by rfl) g_require_move) (dx_cons (dd_var 5) dx_nil))) dx_nil)) cv_reprX) (dd_call (pe_callB (call_reprX (by exact hg) (by exact hr.units)) (by rfl) m_repr (by decide +kernel) (dx_cons (dd_var 7) dx_nil)) cv_reprX) (nomark _)) (dz_one (dz_ret dd_bl)) dz_nil)
      (dz_cons (dz_set (i := 7) nd rfl (.inl rfl) (dd_fnD G_law_due_value (hr.mono (by decide)) (by rfl) takesD (dx_cons (dd_var 5) dx_nil)))
      (dz_cons (dz_set (i := 7) nd rfl (.inl rfl) (dd_if (dt_isN (dd_var 7)) (dd_tup (dx_cons dd_str (dx_cons dd_bl dx_nil))) (dd_var 7)))
      (dz_one (dz_if (PW.pt (dw_or (dt_cmp (op_neU (by exact hr.units)) ov_ne (dd_call (pe_callB (call_reprX (by exact hg) (by exact hr.units)) (by rfl) m_repr (by decide +kernel) (dx_cons (dd_fnG G_law_raised (hr.mono (by decide)) hg (by rfl) takesD (dx_cons (dd_glob (by rfl) g_require_value) (dx_cons (dd_var 5) dx_nil))) dx_nil)) cv_reprX) (dd_call (pe_callB (call_reprX (by exact hg) (by exact hr.units)) (by rfl) m_repr (by decide +kernel) (dx_cons (dd_var 7) dx_nil)) cv_reprX) (nomark _)) (dw_or1 (dt_cmp (op_neU (by exact hr.units)) ov_ne (dd_call (pe_callB (call_reprX (by exact hg) (by exact hr.units)) (by rfl) m_repr (by decide +kernel) (dx_cons (dd_var 5) dx_nil)) cv_reprX) (dd_var 6) (nomark _))))) (dz_one (dz_ret dd_bl)) dz_nil)))))))))))))))
      (dz_one (dz_ret dd_bl))))

end
def Fin (K : PySem.W.Frag) (mg : Str → Option Value) : Prop :=
  Df K mg "are_integers" s_are_integers ["value", "count"] ∧
  Df K mg "with_sign" s_with_sign ["numbers"] ∧
  Df K mg "common_divisor" s_common_divisor ["one", "other"] ∧
  Df K mg "require_move" s_require_move ["value"] ∧
  Df K mg "require_value" s_require_value ["value"] ∧
  Df K mg "_law_pen" s_law_pen ["script"] ∧
  Df K mg "_law_fresh" s_law_fresh ["pen"] ∧
  Df K mg "_law_draw" s_law_draw ["pen", "many"] ∧
  Df K mg "_law_word" s_law_word ["pen", "most"] ∧
  Df K mg "_law_signed" s_law_signed ["numbers"] ∧
  Df K mg "_law_product" s_law_product ["first", "then"] ∧
  Df K mg "_law_move" s_law_move ["word"] ∧
  Df K mg "_law_common" s_law_common ["one", "other"] ∧
  Df K mg "_law_fraction" s_law_fraction ["pen"] ∧
  Df K mg "_law_whole" s_law_whole ["value", "size"] ∧
  Df K mg "_law_due_move" s_law_due_move ["value"] ∧
  Df K mg "_law_due_value" s_law_due_value ["value"] ∧
  Df K mg "_law_raised" s_law_raised ["asked", "value"] ∧
  Df K mg "_law_changed" s_law_changed ["pen", "value"] ∧
  Df K mg "law" s_law ["script"] ∧
  mg "all" = none ∧
  mg "isinstance" = none ∧
  mg "int" = none ∧
  mg "bool" = none ∧
  mg "tuple" = none ∧
  mg "len" = none ∧
  mg "abs" = none ∧
  mg "list" = none ∧
  mg "range" = none ∧
  mg "repr" = none ∧
  mg "ValueError" = none ∧
  Xf K mg "NotAMove" "NotAMove.__init__" "value" "ValueError" "ValueError.__new__" "ValueError.__init__" [.type "ValueError", .type "Exception", .type "BaseException", .type "object"] (clsM (topS 1) 0) ∧
  Xf K mg "NotAValue" "NotAValue.__init__" "value" "ValueError" "ValueError.__new__" "ValueError.__init__" [.type "ValueError", .type "Exception", .type "BaseException", .type "object"] (clsM (topS 2) 0) ∧
  PySem.W.exmOne K (.ref (xiOf mg "NotAMove")) (.ref (xiOf mg "NotAValue")) = some false ∧
  PySem.W.exmOne K (.ref (xiOf mg "NotAMove")) (.ref (xiOf mg "NotAMove")) = some true ∧
  PySem.W.exmOne K (.ref (xiOf mg "NotAValue")) (.ref (xiOf mg "NotAValue")) = some true ∧
  PySem.W.exmOne K (.ref (xiOf mg "NotAValue")) (.ref (xiOf mg "NotAMove")) = some false ∧
  xiOf mg "require_move" ≠ xiOf mg "require_value"
theorem fin_mk {K : PySem.W.Frag} {h : Heap} {mg : Str → Option Value} (X : K.In h) (G : h.Ns mainGlobals mg)
    {f_are_integers : Addr} {od_are_integers an_are_integers : Option Addr} {sl_are_integers : Array (Option Value)} {oc_are_integers kV_are_integers dc_are_integers pm_are_integers cd_are_integers ct_are_integers : Value}
    {f_with_sign : Addr} {od_with_sign an_with_sign : Option Addr} {sl_with_sign : Array (Option Value)} {oc_with_sign kV_with_sign dc_with_sign pm_with_sign cd_with_sign ct_with_sign : Value}
    {f_common_divisor : Addr} {od_common_divisor an_common_divisor : Option Addr} {sl_common_divisor : Array (Option Value)} {oc_common_divisor kV_common_divisor dc_common_divisor pm_common_divisor cd_common_divisor ct_common_divisor : Value}
    {f_require_move : Addr} {od_require_move an_require_move : Option Addr} {sl_require_move : Array (Option Value)} {oc_require_move kV_require_move dc_require_move pm_require_move cd_require_move ct_require_move : Value}
    {f_require_value : Addr} {od_require_value an_require_value : Option Addr} {sl_require_value : Array (Option Value)} {oc_require_value kV_require_value dc_require_value pm_require_value cd_require_value ct_require_value : Value}
    {f_law_pen : Addr} {od_law_pen an_law_pen : Option Addr} {sl_law_pen : Array (Option Value)} {oc_law_pen kV_law_pen dc_law_pen pm_law_pen cd_law_pen ct_law_pen : Value}
    {f_law_fresh : Addr} {od_law_fresh an_law_fresh : Option Addr} {sl_law_fresh : Array (Option Value)} {oc_law_fresh kV_law_fresh dc_law_fresh pm_law_fresh cd_law_fresh ct_law_fresh : Value}
    {f_law_draw : Addr} {od_law_draw an_law_draw : Option Addr} {sl_law_draw : Array (Option Value)} {oc_law_draw kV_law_draw dc_law_draw pm_law_draw cd_law_draw ct_law_draw : Value}
    {f_law_word : Addr} {od_law_word an_law_word : Option Addr} {sl_law_word : Array (Option Value)} {oc_law_word kV_law_word dc_law_word pm_law_word cd_law_word ct_law_word : Value}
    {f_law_signed : Addr} {od_law_signed an_law_signed : Option Addr} {sl_law_signed : Array (Option Value)} {oc_law_signed kV_law_signed dc_law_signed pm_law_signed cd_law_signed ct_law_signed : Value}
    {f_law_product : Addr} {od_law_product an_law_product : Option Addr} {sl_law_product : Array (Option Value)} {oc_law_product kV_law_product dc_law_product pm_law_product cd_law_product ct_law_product : Value}
    {f_law_move : Addr} {od_law_move an_law_move : Option Addr} {sl_law_move : Array (Option Value)} {oc_law_move kV_law_move dc_law_move pm_law_move cd_law_move ct_law_move : Value}
    {f_law_common : Addr} {od_law_common an_law_common : Option Addr} {sl_law_common : Array (Option Value)} {oc_law_common kV_law_common dc_law_common pm_law_common cd_law_common ct_law_common : Value}
    {f_law_fraction : Addr} {od_law_fraction an_law_fraction : Option Addr} {sl_law_fraction : Array (Option Value)} {oc_law_fraction kV_law_fraction dc_law_fraction pm_law_fraction cd_law_fraction ct_law_fraction : Value}
    {f_law_whole : Addr} {od_law_whole an_law_whole : Option Addr} {sl_law_whole : Array (Option Value)} {oc_law_whole kV_law_whole dc_law_whole pm_law_whole cd_law_whole ct_law_whole : Value}
    {f_law_due_move : Addr} {od_law_due_move an_law_due_move : Option Addr} {sl_law_due_move : Array (Option Value)} {oc_law_due_move kV_law_due_move dc_law_due_move pm_law_due_move cd_law_due_move ct_law_due_move : Value}
    {f_law_due_value : Addr} {od_law_due_value an_law_due_value : Option Addr} {sl_law_due_value : Array (Option Value)} {oc_law_due_value kV_law_due_value dc_law_due_value pm_law_due_value cd_law_due_value ct_law_due_value : Value}
    {f_law_raised : Addr} {od_law_raised an_law_raised : Option Addr} {sl_law_raised : Array (Option Value)} {oc_law_raised kV_law_raised dc_law_raised pm_law_raised cd_law_raised ct_law_raised : Value}
    {f_law_changed : Addr} {od_law_changed an_law_changed : Option Addr} {sl_law_changed : Array (Option Value)} {oc_law_changed kV_law_changed dc_law_changed pm_law_changed cd_law_changed ct_law_changed : Value}
    {f_law : Addr} {od_law an_law : Option Addr} {sl_law : Array (Option Value)} {oc_law kV_law dc_law pm_law cd_law ct_law : Value}
    {C_NotAMove I_NotAMove N_NotAMove : Addr} {nm_NotAMove q_NotAMove : Str} {bs_NotAMove : List Value} {sn_NotAMove : List Str} {sub_NotAMove : List Value} {ab_NotAMove : Bool} {col_NotAMove : Option Bool} {dd_NotAMove : Option Addr} {k0_NotAMove k1_NotAMove k2_NotAMove k3_NotAMove k5_NotAMove : Option Value} {oc_NotAMove kV_NotAMove dc_NotAMove pm_NotAMove cd_NotAMove ct_NotAMove : Value} {od_NotAMove an_NotAMove : Option Addr} {sl_NotAMove : Array (Option Value)}
    {C_NotAValue I_NotAValue N_NotAValue : Addr} {nm_NotAValue q_NotAValue : Str} {bs_NotAValue : List Value} {sn_NotAValue : List Str} {sub_NotAValue : List Value} {ab_NotAValue : Bool} {col_NotAValue : Option Bool} {dd_NotAValue : Option Addr} {k0_NotAValue k1_NotAValue k2_NotAValue k3_NotAValue k5_NotAValue : Option Value} {oc_NotAValue kV_NotAValue dc_NotAValue pm_NotAValue cd_NotAValue ct_NotAValue : Value} {od_NotAValue an_NotAValue : Option Addr} {sl_NotAValue : Array (Option Value)}
    (a_are_integers : PySem.W.nsIn K mainGlobals "are_integers" = some (some (.ref f_are_integers))) (l_are_integers : K.lookup f_are_integers = some ⟨oc_are_integers, od_are_integers, .func (PySem.W.fnOf "are_integers" "are_integers" (defArgs s_are_integers) (defBody s_are_integers) (defScope s_are_integers) .none kV_are_integers dc_are_integers pm_are_integers an_are_integers cd_are_integers ct_are_integers), sl_are_integers⟩) (c_are_integers : PySem.W.codeIn K cd_are_integers "are_integers" = true) (k_are_integers : PySem.W.keepIn K (.ref f_are_integers) = true)
    (a_with_sign : PySem.W.nsIn K mainGlobals "with_sign" = some (some (.ref f_with_sign))) (l_with_sign : K.lookup f_with_sign = some ⟨oc_with_sign, od_with_sign, .func (PySem.W.fnOf "with_sign" "with_sign" (defArgs s_with_sign) (defBody s_with_sign) (defScope s_with_sign) .none kV_with_sign dc_with_sign pm_with_sign an_with_sign cd_with_sign ct_with_sign), sl_with_sign⟩) (c_with_sign : PySem.W.codeIn K cd_with_sign "with_sign" = true) (k_with_sign : PySem.W.keepIn K (.ref f_with_sign) = true)
    (a_common_divisor : PySem.W.nsIn K mainGlobals "common_divisor" = some (some (.ref f_common_divisor))) (l_common_divisor : K.lookup f_common_divisor = some ⟨oc_common_divisor, od_common_divisor, .func (PySem.W.fnOf "common_divisor" "common_divisor" (defArgs s_common_divisor) (defBody s_common_divisor) (defScope s_common_divisor) .none kV_common_divisor dc_common_divisor pm_common_divisor an_common_divisor cd_common_divisor ct_common_divisor), sl_common_divisor⟩) (c_common_divisor : PySem.W.codeIn K cd_common_divisor "common_divisor" = true) (k_common_divisor : PySem.W.keepIn K (.ref f_common_divisor) = true)
    (a_require_move : PySem.W.nsIn K mainGlobals "require_move" = some (some (.ref f_require_move))) (l_require_move : K.lookup f_require_move = some ⟨oc_require_move, od_require_move, .func (PySem.W.fnOf "require_move" "require_move" (defArgs s_require_move) (defBody s_require_move) (defScope s_require_move) .none kV_require_move dc_require_move pm_require_move an_require_move cd_require_move ct_require_move), sl_require_move⟩) (c_require_move : PySem.W.codeIn K cd_require_move "require_move" = true) (k_require_move : PySem.W.keepIn K (.ref f_require_move) = true)
    (a_require_value : PySem.W.nsIn K mainGlobals "require_value" = some (some (.ref f_require_value))) (l_require_value : K.lookup f_require_value = some ⟨oc_require_value, od_require_value, .func (PySem.W.fnOf "require_value" "require_value" (defArgs s_require_value) (defBody s_require_value) (defScope s_require_value) .none kV_require_value dc_require_value pm_require_value an_require_value cd_require_value ct_require_value), sl_require_value⟩) (c_require_value : PySem.W.codeIn K cd_require_value "require_value" = true) (k_require_value : PySem.W.keepIn K (.ref f_require_value) = true)
    (a_law_pen : PySem.W.nsIn K mainGlobals "_law_pen" = some (some (.ref f_law_pen))) (l_law_pen : K.lookup f_law_pen = some ⟨oc_law_pen, od_law_pen, .func (PySem.W.fnOf "_law_pen" "_law_pen" (defArgs s_law_pen) (defBody s_law_pen) (defScope s_law_pen) .none kV_law_pen dc_law_pen pm_law_pen an_law_pen cd_law_pen ct_law_pen), sl_law_pen⟩) (c_law_pen : PySem.W.codeIn K cd_law_pen "_law_pen" = true) (k_law_pen : PySem.W.keepIn K (.ref f_law_pen) = true)
    (a_law_fresh : PySem.W.nsIn K mainGlobals "_law_fresh" = some (some (.ref f_law_fresh))) (l_law_fresh : K.lookup f_law_fresh = some ⟨oc_law_fresh, od_law_fresh, .func (PySem.W.fnOf "_law_fresh" "_law_fresh" (defArgs s_law_fresh) (defBody s_law_fresh) (defScope s_law_fresh) .none kV_law_fresh dc_law_fresh pm_law_fresh an_law_fresh cd_law_fresh ct_law_fresh), sl_law_fresh⟩) (c_law_fresh : PySem.W.codeIn K cd_law_fresh "_law_fresh" = true) (k_law_fresh : PySem.W.keepIn K (.ref f_law_fresh) = true)
    (a_law_draw : PySem.W.nsIn K mainGlobals "_law_draw" = some (some (.ref f_law_draw))) (l_law_draw : K.lookup f_law_draw = some ⟨oc_law_draw, od_law_draw, .func (PySem.W.fnOf "_law_draw" "_law_draw" (defArgs s_law_draw) (defBody s_law_draw) (defScope s_law_draw) .none kV_law_draw dc_law_draw pm_law_draw an_law_draw cd_law_draw ct_law_draw), sl_law_draw⟩) (c_law_draw : PySem.W.codeIn K cd_law_draw "_law_draw" = true) (k_law_draw : PySem.W.keepIn K (.ref f_law_draw) = true)
    (a_law_word : PySem.W.nsIn K mainGlobals "_law_word" = some (some (.ref f_law_word))) (l_law_word : K.lookup f_law_word = some ⟨oc_law_word, od_law_word, .func (PySem.W.fnOf "_law_word" "_law_word" (defArgs s_law_word) (defBody s_law_word) (defScope s_law_word) .none kV_law_word dc_law_word pm_law_word an_law_word cd_law_word ct_law_word), sl_law_word⟩) (c_law_word : PySem.W.codeIn K cd_law_word "_law_word" = true) (k_law_word : PySem.W.keepIn K (.ref f_law_word) = true)
    (a_law_signed : PySem.W.nsIn K mainGlobals "_law_signed" = some (some (.ref f_law_signed))) (l_law_signed : K.lookup f_law_signed = some ⟨oc_law_signed, od_law_signed, .func (PySem.W.fnOf "_law_signed" "_law_signed" (defArgs s_law_signed) (defBody s_law_signed) (defScope s_law_signed) .none kV_law_signed dc_law_signed pm_law_signed an_law_signed cd_law_signed ct_law_signed), sl_law_signed⟩) (c_law_signed : PySem.W.codeIn K cd_law_signed "_law_signed" = true) (k_law_signed : PySem.W.keepIn K (.ref f_law_signed) = true)
    (a_law_product : PySem.W.nsIn K mainGlobals "_law_product" = some (some (.ref f_law_product))) (l_law_product : K.lookup f_law_product = some ⟨oc_law_product, od_law_product, .func (PySem.W.fnOf "_law_product" "_law_product" (defArgs s_law_product) (defBody s_law_product) (defScope s_law_product) .none kV_law_product dc_law_product pm_law_product an_law_product cd_law_product ct_law_product), sl_law_product⟩) (c_law_product : PySem.W.codeIn K cd_law_product "_law_product" = true) (k_law_product : PySem.W.keepIn K (.ref f_law_product) = true)
    (a_law_move : PySem.W.nsIn K mainGlobals "_law_move" = some (some (.ref f_law_move))) (l_law_move : K.lookup f_law_move = some ⟨oc_law_move, od_law_move, .func (PySem.W.fnOf "_law_move" "_law_move" (defArgs s_law_move) (defBody s_law_move) (defScope s_law_move) .none kV_law_move dc_law_move pm_law_move an_law_move cd_law_move ct_law_move), sl_law_move⟩) (c_law_move : PySem.W.codeIn K cd_law_move "_law_move" = true) (k_law_move : PySem.W.keepIn K (.ref f_law_move) = true)
    (a_law_common : PySem.W.nsIn K mainGlobals "_law_common" = some (some (.ref f_law_common))) (l_law_common : K.lookup f_law_common = some ⟨oc_law_common, od_law_common, .func (PySem.W.fnOf "_law_common" "_law_common" (defArgs s_law_common) (defBody s_law_common) (defScope s_law_common) .none kV_law_common dc_law_common pm_law_common an_law_common cd_law_common ct_law_common), sl_law_common⟩) (c_law_common : PySem.W.codeIn K cd_law_common "_law_common" = true) (k_law_common : PySem.W.keepIn K (.ref f_law_common) = true)
    (a_law_fraction : PySem.W.nsIn K mainGlobals "_law_fraction" = some (some (.ref f_law_fraction))) (l_law_fraction : K.lookup f_law_fraction = some ⟨oc_law_fraction, od_law_fraction, .func (PySem.W.fnOf "_law_fraction" "_law_fraction" (defArgs s_law_fraction) (defBody s_law_fraction) (defScope s_law_fraction) .none kV_law_fraction dc_law_fraction pm_law_fraction an_law_fraction cd_law_fraction ct_law_fraction), sl_law_fraction⟩) (c_law_fraction : PySem.W.codeIn K cd_law_fraction "_law_fraction" = true) (k_law_fraction : PySem.W.keepIn K (.ref f_law_fraction) = true)
    (a_law_whole : PySem.W.nsIn K mainGlobals "_law_whole" = some (some (.ref f_law_whole))) (l_law_whole : K.lookup f_law_whole = some ⟨oc_law_whole, od_law_whole, .func (PySem.W.fnOf "_law_whole" "_law_whole" (defArgs s_law_whole) (defBody s_law_whole) (defScope s_law_whole) .none kV_law_whole dc_law_whole pm_law_whole an_law_whole cd_law_whole ct_law_whole), sl_law_whole⟩) (c_law_whole : PySem.W.codeIn K cd_law_whole "_law_whole" = true) (k_law_whole : PySem.W.keepIn K (.ref f_law_whole) = true)
    (a_law_due_move : PySem.W.nsIn K mainGlobals "_law_due_move" = some (some (.ref f_law_due_move))) (l_law_due_move : K.lookup f_law_due_move = some ⟨oc_law_due_move, od_law_due_move, .func (PySem.W.fnOf "_law_due_move" "_law_due_move" (defArgs s_law_due_move) (defBody s_law_due_move) (defScope s_law_due_move) .none kV_law_due_move dc_law_due_move pm_law_due_move an_law_due_move cd_law_due_move ct_law_due_move), sl_law_due_move⟩) (c_law_due_move : PySem.W.codeIn K cd_law_due_move "_law_due_move" = true) (k_law_due_move : PySem.W.keepIn K (.ref f_law_due_move) = true)
    (a_law_due_value : PySem.W.nsIn K mainGlobals "_law_due_value" = some (some (.ref f_law_due_value))) (l_law_due_value : K.lookup f_law_due_value = some ⟨oc_law_due_value, od_law_due_value, .func (PySem.W.fnOf "_law_due_value" "_law_due_value" (defArgs s_law_due_value) (defBody s_law_due_value) (defScope s_law_due_value) .none kV_law_due_value dc_law_due_value pm_law_due_value an_law_due_value cd_law_due_value ct_law_due_value), sl_law_due_value⟩) (c_law_due_value : PySem.W.codeIn K cd_law_due_value "_law_due_value" = true) (k_law_due_value : PySem.W.keepIn K (.ref f_law_due_value) = true)
    (a_law_raised : PySem.W.nsIn K mainGlobals "_law_raised" = some (some (.ref f_law_raised))) (l_law_raised : K.lookup f_law_raised = some ⟨oc_law_raised, od_law_raised, .func (PySem.W.fnOf "_law_raised" "_law_raised" (defArgs s_law_raised) (defBody s_law_raised) (defScope s_law_raised) .none kV_law_raised dc_law_raised pm_law_raised an_law_raised cd_law_raised ct_law_raised), sl_law_raised⟩) (c_law_raised : PySem.W.codeIn K cd_law_raised "_law_raised" = true) (k_law_raised : PySem.W.keepIn K (.ref f_law_raised) = true)
    (a_law_changed : PySem.W.nsIn K mainGlobals "_law_changed" = some (some (.ref f_law_changed))) (l_law_changed : K.lookup f_law_changed = some ⟨oc_law_changed, od_law_changed, .func (PySem.W.fnOf "_law_changed" "_law_changed" (defArgs s_law_changed) (defBody s_law_changed) (defScope s_law_changed) .none kV_law_changed dc_law_changed pm_law_changed an_law_changed cd_law_changed ct_law_changed), sl_law_changed⟩) (c_law_changed : PySem.W.codeIn K cd_law_changed "_law_changed" = true) (k_law_changed : PySem.W.keepIn K (.ref f_law_changed) = true)
    (a_law : PySem.W.nsIn K mainGlobals "law" = some (some (.ref f_law))) (l_law : K.lookup f_law = some ⟨oc_law, od_law, .func (PySem.W.fnOf "law" "law" (defArgs s_law) (defBody s_law) (defScope s_law) .none kV_law dc_law pm_law an_law cd_law ct_law), sl_law⟩) (c_law : PySem.W.codeIn K cd_law "law" = true) (k_law : PySem.W.keepIn K (.ref f_law) = true)
    (z_all : PySem.W.nsIn K mainGlobals "all" = some none)
    (z_isinstance : PySem.W.nsIn K mainGlobals "isinstance" = some none)
    (z_int : PySem.W.nsIn K mainGlobals "int" = some none)
    (z_bool : PySem.W.nsIn K mainGlobals "bool" = some none)
    (z_tuple : PySem.W.nsIn K mainGlobals "tuple" = some none)
    (z_len : PySem.W.nsIn K mainGlobals "len" = some none)
    (z_abs : PySem.W.nsIn K mainGlobals "abs" = some none)
    (z_list : PySem.W.nsIn K mainGlobals "list" = some none)
    (z_range : PySem.W.nsIn K mainGlobals "range" = some none)
    (z_repr : PySem.W.nsIn K mainGlobals "repr" = some none)
    (z_ValueError : PySem.W.nsIn K mainGlobals "ValueError" = some none)
    (xa_NotAMove : PySem.W.nsIn K mainGlobals "NotAMove" = some (some (.ref C_NotAMove))) (xl_NotAMove : K.lookup C_NotAMove = some (PySem.excClassObj nm_NotAMove q_NotAMove C_NotAMove N_NotAMove bs_NotAMove [.type "ValueError", .type "Exception", .type "BaseException", .type "object"] true sn_NotAMove sub_NotAMove ab_NotAMove col_NotAMove dd_NotAMove k0_NotAMove k1_NotAMove k2_NotAMove k3_NotAMove k5_NotAMove "ValueError.__new__"))
    (xi_NotAMove : PySem.W.findIn K (.ref C_NotAMove) "__init__" = some (some (.ref I_NotAMove))) (xt_NotAMove : PySem.W.typeIn K (.ref I_NotAMove) = some (.type "function")) (xlf_NotAMove : K.lookup I_NotAMove = some ⟨oc_NotAMove, od_NotAMove, .func (PySem.W.fnOf "__init__" "NotAMove.__init__" (defArgs (clsM (topS 1) 0)) (defBody (clsM (topS 1) 0)) (defScope (clsM (topS 1) 0)) .none kV_NotAMove dc_NotAMove pm_NotAMove an_NotAMove cd_NotAMove ct_NotAMove), sl_NotAMove⟩) (xcf_NotAMove : PySem.W.codeIn K cd_NotAMove "NotAMove.__init__" = true) (xkf_NotAMove : PySem.W.keepIn K (.ref I_NotAMove) = true)
    (xsa_NotAMove : PySem.W.findIn K (.ref C_NotAMove) "__setattr__" = some (some (.builtin "object.__setattr__"))) (xex_NotAMove : PySem.W.subIn K (.ref C_NotAMove) (.type "BaseException") = some true) (xty_NotAMove : PySem.W.typeIn K (.ref C_NotAMove) = some (.type "type")) (xk_NotAMove : PySem.W.keepIn K (.ref C_NotAMove) = true)
    (xtk_NotAMove : PySem.W.takerIn K C_NotAMove "value" = some none) (xno_NotAMove : PySem.W.findIn K (.ref C_NotAMove) "value" = some none) (xga_NotAMove : PySem.W.findIn K (.ref C_NotAMove) "__getattribute__" = some (some (.builtin "BaseException.__getattribute__"))) (xgg_NotAMove : PySem.W.findIn K (.ref C_NotAMove) "__getattr__" = some none) (xhd_NotAMove : PySem.W.hasDictIn K C_NotAMove = true)
    (xa_NotAValue : PySem.W.nsIn K mainGlobals "NotAValue" = some (some (.ref C_NotAValue))) (xl_NotAValue : K.lookup C_NotAValue = some (PySem.excClassObj nm_NotAValue q_NotAValue C_NotAValue N_NotAValue bs_NotAValue [.type "ValueError", .type "Exception", .type "BaseException", .type "object"] true sn_NotAValue sub_NotAValue ab_NotAValue col_NotAValue dd_NotAValue k0_NotAValue k1_NotAValue k2_NotAValue k3_NotAValue k5_NotAValue "ValueError.__new__"))
    (xi_NotAValue : PySem.W.findIn K (.ref C_NotAValue) "__init__" = some (some (.ref I_NotAValue))) (xt_NotAValue : PySem.W.typeIn K (.ref I_NotAValue) = some (.type "function")) (xlf_NotAValue : K.lookup I_NotAValue = some ⟨oc_NotAValue, od_NotAValue, .func (PySem.W.fnOf "__init__" "NotAValue.__init__" (defArgs (clsM (topS 2) 0)) (defBody (clsM (topS 2) 0)) (defScope (clsM (topS 2) 0)) .none kV_NotAValue dc_NotAValue pm_NotAValue an_NotAValue cd_NotAValue ct_NotAValue), sl_NotAValue⟩) (xcf_NotAValue : PySem.W.codeIn K cd_NotAValue "NotAValue.__init__" = true) (xkf_NotAValue : PySem.W.keepIn K (.ref I_NotAValue) = true)
    (xsa_NotAValue : PySem.W.findIn K (.ref C_NotAValue) "__setattr__" = some (some (.builtin "object.__setattr__"))) (xex_NotAValue : PySem.W.subIn K (.ref C_NotAValue) (.type "BaseException") = some true) (xty_NotAValue : PySem.W.typeIn K (.ref C_NotAValue) = some (.type "type")) (xk_NotAValue : PySem.W.keepIn K (.ref C_NotAValue) = true)
    (xtk_NotAValue : PySem.W.takerIn K C_NotAValue "value" = some none) (xno_NotAValue : PySem.W.findIn K (.ref C_NotAValue) "value" = some none) (xga_NotAValue : PySem.W.findIn K (.ref C_NotAValue) "__getattribute__" = some (some (.builtin "BaseException.__getattribute__"))) (xgg_NotAValue : PySem.W.findIn K (.ref C_NotAValue) "__getattr__" = some none) (xhd_NotAValue : PySem.W.hasDictIn K C_NotAValue = true)
    (e_NotAMove_NotAValue : PySem.W.subIn K (.ref C_NotAMove) (.ref C_NotAValue) = some false)
    (e_NotAMove_NotAMove : PySem.W.subIn K (.ref C_NotAMove) (.ref C_NotAMove) = some true)
    (e_NotAValue_NotAValue : PySem.W.subIn K (.ref C_NotAValue) (.ref C_NotAValue) = some true)
    (e_NotAValue_NotAMove : PySem.W.subIn K (.ref C_NotAValue) (.ref C_NotAMove) = some false)
    (n_require_move_require_value : f_require_move ≠ f_require_value)
    : Fin K mg := by
  refine ⟨?_, ?_, ?_, ?_, ?_, ?_, ?_, ?_, ?_, ?_, ?_, ?_, ?_, ?_, ?_, ?_, ?_, ?_, ?_, ?_, ?_, ?_, ?_, ?_, ?_, ?_, ?_, ?_, ?_, ?_, ?_, ?_, ?_, ?_, ?_, ?_, ?_, ?_⟩
  · exact df_mk X G a_are_integers l_are_integers c_are_integers k_are_integers (fun us hl => match us, hl with | [_, _], _ => rfl)
  · exact df_mk X G a_with_sign l_with_sign c_with_sign k_with_sign (fun us hl => match us, hl with | [_], _ => rfl)
  · exact df_mk X G a_common_divisor l_common_divisor c_common_divisor k_common_divisor (fun us hl => match us, hl with | [_, _], _ => rfl)
  · exact df_mk X G a_require_move l_require_move c_require_move k_require_move (fun us hl => match us, hl with | [_], _ => rfl)
  · exact df_mk X G a_require_value l_require_value c_require_value k_require_value (fun us hl => match us, hl with | [_], _ => rfl)
  · exact df_mk X G a_law_pen l_law_pen c_law_pen k_law_pen (fun us hl => match us, hl with | [_], _ => rfl)
  · exact df_mk X G a_law_fresh l_law_fresh c_law_fresh k_law_fresh (fun us hl => match us, hl with | [_], _ => rfl)
  · exact df_mk X G a_law_draw l_law_draw c_law_draw k_law_draw (fun us hl => match us, hl with | [_, _], _ => rfl)
  · exact df_mk X G a_law_word l_law_word c_law_word k_law_word (fun us hl => match us, hl with | [_, _], _ => rfl)
  · exact df_mk X G a_law_signed l_law_signed c_law_signed k_law_signed (fun us hl => match us, hl with | [_], _ => rfl)
  · exact df_mk X G a_law_product l_law_product c_law_product k_law_product (fun us hl => match us, hl with | [_, _], _ => rfl)
  · exact df_mk X G a_law_move l_law_move c_law_move k_law_move (fun us hl => match us, hl with | [_], _ => rfl)
  · exact df_mk X G a_law_common l_law_common c_law_common k_law_common (fun us hl => match us, hl with | [_, _], _ => rfl)
  · exact df_mk X G a_law_fraction l_law_fraction c_law_fraction k_law_fraction (fun us hl => match us, hl with | [_], _ => rfl)
  · exact df_mk X G a_law_whole l_law_whole c_law_whole k_law_whole (fun us hl => match us, hl with | [_, _], _ => rfl)
  · exact df_mk X G a_law_due_move l_law_due_move c_law_due_move k_law_due_move (fun us hl => match us, hl with | [_], _ => rfl)
  · exact df_mk X G a_law_due_value l_law_due_value c_law_due_value k_law_due_value (fun us hl => match us, hl with | [_], _ => rfl)
  · exact df_mk X G a_law_raised l_law_raised c_law_raised k_law_raised (fun us hl => match us, hl with | [_, _], _ => rfl)
  · exact df_mk X G a_law_changed l_law_changed c_law_changed k_law_changed (fun us hl => match us, hl with | [_, _], _ => rfl)
  · exact df_mk X G a_law l_law c_law k_law (fun us hl => match us, hl with | [_], _ => rfl)
  · exact PySem.W.mg_none_of X G z_all
  · exact PySem.W.mg_none_of X G z_isinstance
  · exact PySem.W.mg_none_of X G z_int
  · exact PySem.W.mg_none_of X G z_bool
  · exact PySem.W.mg_none_of X G z_tuple
  · exact PySem.W.mg_none_of X G z_len
  · exact PySem.W.mg_none_of X G z_abs
  · exact PySem.W.mg_none_of X G z_list
  · exact PySem.W.mg_none_of X G z_range
  · exact PySem.W.mg_none_of X G z_repr
  · exact PySem.W.mg_none_of X G z_ValueError
  · exact xf_mk baseVE X G xa_NotAMove xl_NotAMove xi_NotAMove xt_NotAMove xlf_NotAMove xcf_NotAMove xkf_NotAMove xsa_NotAMove xex_NotAMove xty_NotAMove xk_NotAMove xtk_NotAMove xno_NotAMove xga_NotAMove xgg_NotAMove xhd_NotAMove (fun us hl => match us, hl with | [_, _], _ => rfl)
  · exact xf_mk baseVE X G xa_NotAValue xl_NotAValue xi_NotAValue xt_NotAValue xlf_NotAValue xcf_NotAValue xkf_NotAValue xsa_NotAValue xex_NotAValue xty_NotAValue xk_NotAValue xtk_NotAValue xno_NotAValue xga_NotAValue xgg_NotAValue xhd_NotAValue (fun us hl => match us, hl with | [_, _], _ => rfl)
  · rw [xi_eq (PySem.W.mg_of X G xa_NotAMove), xi_eq (PySem.W.mg_of X G xa_NotAValue)]; exact exm_mk xl_NotAValue xex_NotAValue xty_NotAValue e_NotAMove_NotAValue
  · rw [xi_eq (PySem.W.mg_of X G xa_NotAMove)]; exact exm_mk xl_NotAMove xex_NotAMove xty_NotAMove e_NotAMove_NotAMove
  · rw [xi_eq (PySem.W.mg_of X G xa_NotAValue)]; exact exm_mk xl_NotAValue xex_NotAValue xty_NotAValue e_NotAValue_NotAValue
  · rw [xi_eq (PySem.W.mg_of X G xa_NotAValue), xi_eq (PySem.W.mg_of X G xa_NotAMove)]; exact exm_mk xl_NotAMove xex_NotAMove xty_NotAMove e_NotAValue_NotAMove
  · rw [xi_eq (PySem.W.mg_of X G a_require_move), xi_eq (PySem.W.mg_of X G a_require_value)]; exact n_require_move_require_value

theorem law_all {P : Program} {w : World} {K : PySem.W.Frag} {mg : Str → Option Value} {fa : Addr} (hfa : mg "law" = some (.ref fa)) (Z : Fin K mg) :
    ∃ fd : FuncData, (∀ (s : Shared) (u : Value), BindsTo s fd ⟨[u], []⟩ [("script", u)]) ∧ ∀ base : Heap, K.In base → base.Ns mainGlobals mg → FnG P w K mg base 5 fa fd ["script"] (spD K 1 sp_law) := by
  obtain ⟨F_are_integers, F_with_sign, F_common_divisor, F_require_move, F_require_value, F_law_pen, F_law_fresh, F_law_draw, F_law_word, F_law_signed, F_law_product, F_law_move, F_law_common, F_law_fraction, F_law_whole, F_law_due_move, F_law_due_value, F_law_raised, F_law_changed, F_law, m_all, m_isinstance, m_int, m_bool, m_tuple, m_len, m_abs, m_list, m_range, m_repr, m_ValueError, X_NotAMove, X_NotAValue, e_NotAMove_NotAValue, e_NotAMove_NotAMove, e_NotAValue_NotAValue, e_NotAValue_NotAMove, n_require_move_require_value⟩ := Z
  obtain ⟨f0, fd, h1, h2, h3⟩ := id F_law
  rw [hfa] at h1
  cases h1
  refine ⟨fd, fun s u => .of_eq (h3 [u] rfl), fun base _ _ => ?_⟩
  have Z_NotAMove : XCls P w K mg base "NotAMove" (xiOf mg "NotAMove") "value" := X_NotAMove.cls baseVE m_ValueError ⟨rfl, rfl, rfl, by decide +kernel, rfl, by decide +kernel, by decide +kernel⟩ rfl (fun _ => ⟨_, rfl⟩) rfl (by decide) (by decide) rfl rfl
  have Z_NotAValue : XCls P w K mg base "NotAValue" (xiOf mg "NotAValue") "value" := X_NotAValue.cls baseVE m_ValueError ⟨rfl, rfl, rfl, by decide +kernel, rfl, by decide +kernel, by decide +kernel⟩ rfl (fun _ => ⟨_, rfl⟩) rfl (by decide) (by decide) rfl rfl
  have G_are_integers : Dn P w K mg base "are_integers" ["value", "count"] 1 (sp_are_integers) := ok_are_integers b_are_integers F_are_integers  m_all m_isinstance m_int m_bool m_tuple m_len
  have G_with_sign : Dn P w K mg base "with_sign" ["numbers"] 1 (sp_with_sign) := ok_with_sign b_with_sign F_with_sign  m_tuple
  have G_common_divisor : Dn P w K mg base "common_divisor" ["one", "other"] 1 (sp_common_divisor) := ok_common_divisor b_common_divisor F_common_divisor  m_abs
  have G_require_move : Dn P w K mg base "require_move" ["value"] 3 (sp_require_move (xiOf mg)) := ok_require_move b_require_move F_require_move G_with_sign G_are_integers  Z_NotAMove
  have G_require_value : Dn P w K mg base "require_value" ["value"] 3 (sp_require_value (xiOf mg)) := ok_require_value b_require_value F_require_value G_common_divisor G_are_integers  Z_NotAValue
  have G_law_pen : Dn P w K mg base "_law_pen" ["script"] 1 (sp_law_pen) := ok_law_pen b_law_pen F_law_pen  m_list
  have G_law_fresh : Dn P w K mg base "_law_fresh" ["pen"] 1 (sp_law_fresh) := ok_law_fresh b_law_fresh F_law_fresh  m_range m_len
  have G_law_draw : Dn P w K mg base "_law_draw" ["pen", "many"] 2 (sp_law_draw) := ok_law_draw b_law_draw F_law_draw G_law_fresh 
  have G_law_word : Dn P w K mg base "_law_word" ["pen", "most"] 3 (sp_law_word) := ok_law_word b_law_word F_law_word G_law_draw m_len
  have G_law_signed : Dn P w K mg base "_law_signed" ["numbers"] 1 (sp_law_signed) := ok_law_signed b_law_signed F_law_signed  m_tuple
  have G_law_product : Dn P w K mg base "_law_product" ["first", "then"] 2 (sp_law_product) := ok_law_product b_law_product F_law_product G_law_signed 
  have G_law_move : Dn P w K mg base "_law_move" ["word"] 3 (sp_law_move) := ok_law_move b_law_move F_law_move G_law_product 
  have G_law_common : Dn P w K mg base "_law_common" ["one", "other"] 1 (sp_law_common) := ok_law_common b_law_common F_law_common  m_abs
  have G_law_fraction : Dn P w K mg base "_law_fraction" ["pen"] 3 (sp_law_fraction) := ok_law_fraction b_law_fraction F_law_fraction G_law_common G_law_draw 
  have G_law_whole : Dn P w K mg base "_law_whole" ["value", "size"] 1 (sp_law_whole) := ok_law_whole b_law_whole F_law_whole  m_isinstance m_int m_bool m_tuple m_len
  have G_law_due_move : Dn P w K mg base "_law_due_move" ["value"] 2 (sp_law_due_move) := ok_law_due_move b_law_due_move F_law_due_move G_law_signed G_law_whole 
  have G_law_due_value : Dn P w K mg base "_law_due_value" ["value"] 2 (sp_law_due_value) := ok_law_due_value b_law_due_value F_law_due_value G_law_whole G_law_common 
  have G_law_raised : Dg P w K mg base "_law_raised" ["asked", "value"] 4 (sp_law_raised (xiOf mg)) := ok_law_raised (b_law_raised ⟨n_require_move_require_value, e_NotAMove_NotAMove, e_NotAValue_NotAMove, e_NotAValue_NotAValue⟩) F_law_raised G_require_move G_require_value m_repr X_NotAValue.at_ X_NotAValue.fld X_NotAMove.at_ X_NotAMove.fld
  have G_law_changed : Dn P w K mg base "_law_changed" ["pen", "value"] 3 (sp_law_changed) := ok_law_changed b_law_changed F_law_changed G_law_draw m_list m_len
  have G_law : Dg P w K mg base "law" ["script"] 5 (sp_law) := ok_law b_law F_law G_law_raised G_law_due_value G_law_due_move G_law_draw G_law_changed G_law_fraction G_law_move G_law_word G_law_pen m_range m_repr m_tuple G_require_value.at_ G_require_move.at_
  exact law_fnG G_law hfa h2
end K01
open PySem PySem.W PyProof.Rows
set_option maxHeartbeats 0 in
theorem PySem.Challenge.cw_fracwalk_k01_moves_and_values_required_holds : PySem.Challenge.rw_fracwalk_k01_moves_and_values_required.Holds := by
  w_on; o_law; k_head; (case hw => w_witness2)
  k_fill
  refine DL.walk_D (l := PySem.Challenge.rw_fracwalk_k01_moves_and_values_required) (n := 63) (k := 5) (x := "script") (sp := K01.sp_law) rfl (by decide) rfl ⟨rfl, by decide, by decide⟩ (fun w h Y => PySem.W.kIn_of Y) ?F (fun ns hl hb => K01.law_true hl hb)
  case F =>
    intro w mg fa h KX G hmg
    refine' K01.law_all (P := PySem.Challenge.rw_fracwalk_k01_moves_and_values_required.prog) (w := w) hmg (K01.fin_mk KX G ?a_are_integers ?l_are_integers ?c_are_integers ?k_are_integers ?a_with_sign ?l_with_sign ?c_with_sign ?k_with_sign ?a_common_divisor ?l_common_divisor ?c_common_divisor ?k_common_divisor ?a_require_move ?l_require_move ?c_require_move ?k_require_move ?a_require_value ?l_require_value ?c_require_value ?k_require_value ?a_law_pen ?l_law_pen ?c_law_pen ?k_law_pen ?a_law_fresh ?l_law_fresh ?c_law_fresh ?k_law_fresh ?a_law_draw ?l_law_draw ?c_law_draw ?k_law_draw ?a_law_word ?l_law_word ?c_law_word ?k_law_word ?a_law_signed ?l_law_signed ?c_law_signed ?k_law_signed ?a_law_product ?l_law_product ?c_law_product ?k_law_product ?a_law_move ?l_law_move ?c_law_move ?k_law_move ?a_law_common ?l_law_common ?c_law_common ?k_law_common ?a_law_fraction ?l_law_fraction ?c_law_fraction ?k_law_fraction ?a_law_whole ?l_law_whole ?c_law_whole ?k_law_whole ?a_law_due_move ?l_law_due_move ?c_law_due_move ?k_law_due_move ?a_law_due_value ?l_law_due_value ?c_law_due_value ?k_law_due_value ?a_law_raised ?l_law_raised ?c_law_raised ?k_law_raised ?a_law_changed ?l_law_changed ?c_law_changed ?k_law_changed ?a_law ?l_law ?c_law ?k_law ?z_all ?z_isinstance ?z_int ?z_bool ?z_tuple ?z_len ?z_abs ?z_list ?z_range ?z_repr ?z_ValueError ?xa_NotAMove ?xl_NotAMove ?xi_NotAMove ?xt_NotAMove ?xlf_NotAMove ?xcf_NotAMove ?xkf_NotAMove ?xsa_NotAMove ?xex_NotAMove ?xty_NotAMove ?xk_NotAMove ?xtk_NotAMove ?xno_NotAMove ?xga_NotAMove ?xgg_NotAMove ?xhd_NotAMove ?xa_NotAValue ?xl_NotAValue ?xi_NotAValue ?xt_NotAValue ?xlf_NotAValue ?xcf_NotAValue ?xkf_NotAValue ?xsa_NotAValue ?xex_NotAValue ?xty_NotAValue ?xk_NotAValue ?xtk_NotAValue ?xno_NotAValue ?xga_NotAValue ?xgg_NotAValue ?xhd_NotAValue ?e_NotAMove_NotAValue ?e_NotAMove_NotAMove ?e_NotAValue_NotAValue ?e_NotAValue_NotAMove ?n_require_move_require_value)
    (case a_are_integers => k_is)
    (case l_are_integers => k_is)
    (case c_are_integers => k_is)
    (case k_are_integers => k_is)
    (case a_with_sign => k_is)
    (case l_with_sign => k_is)
    (case c_with_sign => k_is)
    (case k_with_sign => k_is)
    (case a_common_divisor => k_is)
    (case l_common_divisor => k_is)
    (case c_common_divisor => k_is)
    (case k_common_divisor => k_is)
    (case a_require_move => k_is)
    (case l_require_move => k_is)
    (case c_require_move => k_is)
    (case k_require_move => k_is)
    (case a_require_value => k_is)
    (case l_require_value => k_is)
    (case c_require_value => k_is)
    (case k_require_value => k_is)
    (case a_law_pen => k_is)
    (case l_law_pen => k_is)
    (case c_law_pen => k_is)
    (case k_law_pen => k_is)
    (case a_law_fresh => k_is)
    (case l_law_fresh => k_is)
    (case c_law_fresh => k_is)
    (case k_law_fresh => k_is)
    (case a_law_draw => k_is)
    (case l_law_draw => k_is)
    (case c_law_draw => k_is)
    (case k_law_draw => k_is)
    (case a_law_word => k_is)
    (case l_law_word => k_is)
    (case c_law_word => k_is)
    (case k_law_word => k_is)
    (case a_law_signed => k_is)
    (case l_law_signed => k_is)
    (case c_law_signed => k_is)
    (case k_law_signed => k_is)
    (case a_law_product => k_is)
    (case l_law_product => k_is)
    (case c_law_product => k_is)
    (case k_law_product => k_is)
    (case a_law_move => k_is)
    (case l_law_move => k_is)
    (case c_law_move => k_is)
    (case k_law_move => k_is)
    (case a_law_common => k_is)
    (case l_law_common => k_is)
    (case c_law_common => k_is)
    (case k_law_common => k_is)
    (case a_law_fraction => k_is)
    (case l_law_fraction => k_is)
    (case c_law_fraction => k_is)
    (case k_law_fraction => k_is)
    (case a_law_whole => k_is)
    (case l_law_whole => k_is)
    (case c_law_whole => k_is)
    (case k_law_whole => k_is)
    (case a_law_due_move => k_is)
    (case l_law_due_move => k_is)
    (case c_law_due_move => k_is)
    (case k_law_due_move => k_is)
    (case a_law_due_value => k_is)
    (case l_law_due_value => k_is)
    (case c_law_due_value => k_is)
    (case k_law_due_value => k_is)
    (case a_law_raised => k_is)
    (case l_law_raised => k_is)
    (case c_law_raised => k_is)
    (case k_law_raised => k_is)
    (case a_law_changed => k_is)
    (case l_law_changed => k_is)
    (case c_law_changed => k_is)
    (case k_law_changed => k_is)
    (case a_law => k_is)
    (case l_law => k_is)
    (case c_law => k_is)
    (case k_law => k_is)
    (case z_all => k_is)
    (case z_isinstance => k_is)
    (case z_int => k_is)
    (case z_bool => k_is)
    (case z_tuple => k_is)
    (case z_len => k_is)
    (case z_abs => k_is)
    (case z_list => k_is)
    (case z_range => k_is)
    (case z_repr => k_is)
    (case z_ValueError => k_is)
    (case xa_NotAMove => k_is)
    (case xl_NotAMove => k_is)
    (case xi_NotAMove => k_is)
    (case xt_NotAMove => k_is)
    (case xlf_NotAMove => k_is)
    (case xcf_NotAMove => k_is)
    (case xkf_NotAMove => k_is)
    (case xsa_NotAMove => k_is)
    (case xex_NotAMove => k_is)
    (case xty_NotAMove => k_is)
    (case xk_NotAMove => k_is)
    (case xtk_NotAMove => k_is)
    (case xno_NotAMove => k_is)
    (case xga_NotAMove => k_is)
    (case xgg_NotAMove => k_is)
    (case xhd_NotAMove => k_is)
    (case xa_NotAValue => k_is)
    (case xl_NotAValue => k_is)
    (case xi_NotAValue => k_is)
    (case xt_NotAValue => k_is)
    (case xlf_NotAValue => k_is)
    (case xcf_NotAValue => k_is)
    (case xkf_NotAValue => k_is)
    (case xsa_NotAValue => k_is)
    (case xex_NotAValue => k_is)
    (case xty_NotAValue => k_is)
    (case xk_NotAValue => k_is)
    (case xtk_NotAValue => k_is)
    (case xno_NotAValue => k_is)
    (case xga_NotAValue => k_is)
    (case xgg_NotAValue => k_is)
    (case xhd_NotAValue => k_is)
    (case e_NotAMove_NotAValue => k_is)
    (case e_NotAMove_NotAMove => k_is)
    (case e_NotAValue_NotAValue => k_is)
    (case e_NotAValue_NotAMove => k_is)
    (case n_require_move_require_value => decide)


