import PyProof.Rows.All
import Wide.All
import OpenK.AllK
import Wide.FinOn
import HandS.ForMost
import HandS.ForExc
import HandS.Wide
import HandS.NoneIn
import HandS.Style
import HandS.TupAny
import HandS.WideMore
import HandS.EndBits
import PyProof.ReprReads
import HandS.ExcInit
import HandS.ExcField
import HandS.TryMany
import HandS.WordsExc
import KE.KExcInit
import HandS.IsInst
import HandS.TupMul
import HandS.Text
import HandS.MakeKwOnly
import HandS.Defaults
import HandS.More
import HandS.CallSlots
import PyProof.Rows.StrRev
import PyProof.StrBlock2
import PyProof.StrLawsIn
import KE.KDictDisplayH
import HandS.Zip0
import PyProof.Draws
import PyProof.Rows.CallKwBuiltin
import KE.KStateDown
import HandS.Head0
import HandS.Head1
import HandS.Head2
import HandS.HeadHook3
import HandS.HeadEnd
import HandS.Codes
import PySem.Challenge.RW_fracwalk_k07_words_reduced
set_option Elab.async false
set_option linter.all false
set_option maxRecDepth 100000
set_option maxHeartbeats 4000000
/-! A data layer over the readings: values as trees, lists and instances that change in a data heap. -/
namespace DL
open PySem PySem.Spec L2

inductive D where
  | non | bl (b : Bool) | int (i : Int) | str (x : Str) | ty (n : String) | ref (a : Addr) | tup (ds : List D) | lst (ds : List D) | seq (ds : List D)
  /-- a caught exception at a, its dict at d, its one field -/
  | exc (a d : Addr) (f : Str) (x : D)
  /-- a dict that stands still, its keys whole numbers and texts -/
  | dct (ks : List Key) (ds : List D)
  /-- a dict of texts that stands still, its keys tuples of texts -/
  | dtt (kvs : List (List Str × Str))
/-- what may change: a list, an instance -/
inductive MO where
  | lst (ds : List D) | ins (C : Addr) (fs : List (Str × D)) | dct (ks : List Key) (ds : List D)
abbrev DM := Addr → Option MO
abbrev DR := List (Option D)
def put (M : DM) (a : Addr) (o : MO) : DM := fun b => if b = a then some o else M b
theorem put_same {M : DM} {a : Addr} {o : MO} : put M a o a = some o := if_pos rfl
theorem put_ne {M : DM} {a b : Addr} {o : MO} (h : b ≠ a) : put M a o b = M b := if_neg h
theorem put_put {M : DM} {a : Addr} {o u : MO} : put (put M a o) a u = put M a u := by
  funext b
  unfold put
  split <;> rfl

mutual
/-- no list in it that stands still -/
def noL : D → Bool
  | .lst _ => false
  | .seq _ => false
  | .exc .. => false
  | .dct .. => false
  | .dtt .. => false
  | .tup ds => noLs ds
  | _ => true
def noLs : List D → Bool
  | [] => true
  | d :: ds => noL d && noLs ds
end
section
variable (K : PySem.W.Frag) (H : Hp) (M : DM)
mutual
def R : V → D → Prop
  | v, .non => v = .non
  | v, .bl b => v = .bl b
  | v, .int i => v = .int i
  | v, .str x => v = .str x
  | v, .ty n => v = .ty n
  | v, .ref a => v = .ref a
  | v, .tup ds => ∃ a xs, v = .ref a ∧ SqT K H a xs ∧ RA xs ds
  | v, .lst ds => ∃ a xs, v = .ref a ∧ H a = some (.lst xs) ∧ M a = none ∧ RA xs ds
  | v, .seq ds => ∃ a xs, v = .ref a ∧ ((∃ o, H a = some (.frz o (.lst xs))) ∨ ∀ H', SqL K H' a xs) ∧ RA xs ds
  | v, .exc a d f x => v = .ref a ∧ ∃ y, H d = some (.xd [(f, y)]) ∧ R y x
  | v, .dct ks ds => ∃ a xs, v = .ref a ∧ H a = some (.dK (ks.zip xs)) ∧ M a = none ∧ ks.length = ds.length ∧ RA xs ds
  | v, .dtt kvs => ∃ a, v = .ref a ∧ H a = some (.dT (kvs.map fun q => (q.1.map Sum.inr, V.str q.2))) ∧ M a = none
def RA : List V → List D → Prop
  | xs, [] => xs = []
  | xs, d :: ds => ∃ x r, xs = x :: r ∧ R x d ∧ RA r ds
end
def RF : List (Str × V) → List (Str × D) → Prop
  | gs, [] => gs = []
  | gs, (f, d) :: fs => ∃ x r, gs = (f, x) :: r ∧ R K H M x d ∧ RF r fs
def MAt (a : Addr) : MO → Prop
  | .lst ds => noLs ds = true ∧ ∃ xs, H a = some (.lst xs) ∧ RA K H M xs ds
  | .ins C fs => noLs (fs.map (·.2)) = true ∧ ∃ dx gs, H a = some (.ins C dx gs) ∧ RF K H M gs fs
  | .dct ks ds => noLs ds = true ∧ ks.length = ds.length ∧ ∃ xs, H a = some (.dK (ks.zip xs)) ∧ RA K H M xs ds
def HR : Prop := ∀ a o, M a = some o → MAt K H M a o
def En (σ : St) (ρ : DR) : Prop := σ.length = ρ.length ∧ ∀ (i : Nat) d, ρ[i]? = some (some d) → ∃ v, σ[i]? = some (some v) ∧ R K H M v d
end
/-- lists and dicts -/
def stays : HO → Bool
  | .lst _ => true
  | .dK _ => true
  | .dT _ => true
  | _ => false
/-- nothing that is known is lost -/
structure Stp (K : PySem.W.Frag) (H : Hp) (M : DM) (H' : Hp) (M' : DM) : Prop where
  t : ∀ a xs, SqT K H a xs → SqT K H' a xs
  g : ∀ a o, stays o = true → H a = some o → M a = none → H' a = some o ∧ M' a = none
  x : ∀ a fs, H a = some (.xd fs) → H' a = some (.xd fs)
  f : ∀ a o u, H a = some (.frz o u) → H' a = some (.frz o u)
section
variable {K : PySem.W.Frag} {H H' H2 : Hp} {M M' M2 : DM}
theorem Stp.l (s : Stp K H M H' M') (a : Addr) (xs : List V) (h : H a = some (.lst xs)) (m : M a = Option.none) : H' a = some (.lst xs) ∧ M' a = Option.none := s.g a _ rfl h m
theorem Stp.refl : Stp K H M H M := ⟨fun _ _ h => h, fun _ _ _ h m => ⟨h, m⟩, fun _ _ h => h, fun _ _ _ h => h⟩
theorem Stp.trans (a : Stp K H M H' M') (b : Stp K H' M' H2 M2) : Stp K H M H2 M2 :=
  ⟨fun p xs h => b.t p xs (a.t p xs h), fun p o z h m => let q := a.g p o z h m; b.g p o z q.1 q.2, fun p fs h => b.x p fs (a.x p fs h), fun p o u h => b.f p o u (a.f p o u h)⟩
mutual
theorem R.stp (s : Stp K H M H' M') : ∀ {d : D} {v : V}, R K H M v d → R K H' M' v d
  | .non, _, h => by unfold R at *; exact h
  | .bl _, _, h => by unfold R at *; exact h
  | .int _, _, h => by unfold R at *; exact h
  | .str _, _, h => by unfold R at *; exact h
  | .ty _, _, h => by unfold R at *; exact h
  | .ref _, _, h => by unfold R at *; exact h
  | .tup ds, _, h => by
    unfold R at *
    obtain ⟨a, xs, e, t, r⟩ := h
    exact ⟨a, xs, e, s.t a xs t, RA.stp s r⟩
  | .lst ds, _, h => by
    unfold R at *
    obtain ⟨a, xs, e, t, m, r⟩ := h
    exact ⟨a, xs, e, (s.l a xs t m).1, (s.l a xs t m).2, RA.stp s r⟩
  | .seq ds, _, h => by
    unfold R at *
    obtain ⟨a, xs, e, t, r⟩ := h
    exact ⟨a, xs, e, t.imp (fun ⟨o, z⟩ => ⟨o, s.f a o _ z⟩) id, RA.stp s r⟩
  | .exc a d f x, _, h => by
    unfold R at *
    obtain ⟨e, y, t, r⟩ := h
    exact ⟨e, y, s.x d _ t, R.stp s r⟩
  | .dct ks ds, _, h => by
    unfold R at *
    obtain ⟨a, xs, e, t, m, l, r⟩ := h
    exact ⟨a, xs, e, (s.g a _ rfl t m).1, (s.g a _ rfl t m).2, l, RA.stp s r⟩
  | .dtt kvs, _, h => by
    unfold R at *
    obtain ⟨a, e, t, m⟩ := h
    exact ⟨a, e, (s.g a _ rfl t m).1, (s.g a _ rfl t m).2⟩
theorem RA.stp (s : Stp K H M H' M') : ∀ {ds : List D} {xs : List V}, RA K H M xs ds → RA K H' M' xs ds
  | [], _, h => by unfold RA at *; exact h
  | d :: ds, _, h => by
    unfold RA at *
    obtain ⟨x, r, e, h1, h2⟩ := h
    exact ⟨x, r, e, R.stp s h1, RA.stp s h2⟩
end
theorem RF.stp (s : Stp K H M H' M') : ∀ {fs : List (Str × D)} {gs : List (Str × V)}, RF K H M gs fs → RF K H' M' gs fs
  | [], _, h => h
  | (f, d) :: fs, _, h => by
    obtain ⟨x, r, e, h1, h2⟩ := h
    exact ⟨x, r, e, h1.stp s, RF.stp s h2⟩
theorem En.stp {σ : St} {ρ : DR} (s : Stp K H M H' M') (e : En K H M σ ρ) : En K H' M' σ ρ :=
  ⟨e.1, fun i d h => let ⟨v, h1, h2⟩ := e.2 i d h; ⟨v, h1, h2.stp s⟩⟩
theorem En.set {σ : St} {ρ : DR} {v : V} {d : D} (e : En K H M σ ρ) (i : Nat) (r : R K H M v d) : En K H M (σ.set i (some v)) (ρ.set i (some d)) := by
  refine ⟨by rw [List.length_set, List.length_set]; exact e.1, fun j d' h => ?_⟩
  by_cases hj : i = j
  · subst hj
    by_cases hi : i < ρ.length
    · rw [List.getElem?_set_self hi] at h
      cases h
      exact ⟨v, List.getElem?_set_self (by rw [e.1]; exact hi), r⟩
    · rw [List.getElem?_eq_none (by rw [List.length_set]; omega)] at h
      cases h
  · rw [List.getElem?_set_ne hj] at h
    obtain ⟨u, h1, h2⟩ := e.2 j d' h
    exact ⟨u, by rw [List.getElem?_set_ne hj]; exact h1, h2⟩
theorem En.clr {σ : St} {ρ : DR} (e : En K H M σ ρ) (i : Nat) {o : Option V} : En K H M (σ.set i o) (ρ.set i none) := by
  refine ⟨by rw [List.length_set, List.length_set]; exact e.1, fun j d' h => ?_⟩
  by_cases hj : i = j
  · subst hj
    by_cases hi : i < ρ.length
    · rw [List.getElem?_set_self hi] at h
      cases h
    · rw [List.getElem?_eq_none (by rw [List.length_set]; omega)] at h
      cases h
  · rw [List.getElem?_set_ne hj] at h
    obtain ⟨u, h1, h2⟩ := e.2 j d' h
    exact ⟨u, by rw [List.getElem?_set_ne hj]; exact h1, h2⟩
theorem MAt.stp (s : Stp K H M H' M') {a : Addr} {o : MO} (h : MAt K H M a o) (e : H' a = H a) : MAt K H' M' a o := by
  cases o with
  | lst ds => obtain ⟨z, xs, h1, h2⟩ := h; exact ⟨z, xs, e.trans h1, h2.stp s⟩
  | ins C fs => obtain ⟨z, dx, gs, h1, h2⟩ := h; exact ⟨z, dx, gs, e.trans h1, h2.stp s⟩
  | dct ks ds => obtain ⟨z, l, xs, h1, h2⟩ := h; exact ⟨z, l, xs, e.trans h1, h2.stp s⟩
theorem HR.none (h : HR K H M) {p : Addr} (n : H p = Option.none) : M p = Option.none := by
  cases e : M p with
  | none => rfl
  | some o =>
    have q := h p o e
    cases o with
    | lst ds => obtain ⟨_, xs, h1, _⟩ := q; rw [n] at h1; cases h1
    | ins C fs => obtain ⟨_, dx, gs, h1, _⟩ := q; rw [n] at h1; cases h1
    | dct ks ds => obtain ⟨_, _, xs, h1, _⟩ := q; rw [n] at h1; cases h1
theorem sqT_upd {p : Addr} {o : HO} (h : ∀ xs, ¬ Rd H p (.tup xs)) : ∀ a xs, SqT K H a xs → SqT K (upd H p o) a xs := by
  intro a xs q
  rcases q with q | q
  · have ne : a ≠ p := fun e => h xs (e ▸ q)
    left
    rcases q with q | ⟨u, q⟩
    · exact .inl (by rw [upd_ne ne]; exact q)
    · exact .inr ⟨u, by rw [upd_ne ne]; exact q⟩
  · exact .inr q
theorem rd_none {p : Addr} {u : HO} (n : H p = Option.none) : ¬ Rd H p u := by
  rintro (h | ⟨o, h⟩) <;> (rw [n] at h; cases h)
/-- a new object beside the data heap -/
theorem Stp.new {p : Addr} {o : HO} (n : H p = Option.none) (hr : HR K H M) : Stp K H M (upd H p o) M ∧ HR K (upd H p o) M := by
  have s : Stp K H M (upd H p o) M := ⟨sqT_upd fun _ => rd_none n, fun a xs _ h m => ⟨by rw [upd_ne (ne_of_none h n)]; exact h, m⟩, fun a fs h => by rw [upd_ne (ne_of_none h n)]; exact h, fun a q u h => by rw [upd_ne (ne_of_none h n)]; exact h⟩
  refine ⟨s, fun a q h => (hr a q h).stp s (upd_ne fun e => ?_)⟩
  subst e
  rw [hr.none n] at h
  cases h
/-- a new object of the data heap -/
theorem Stp.newM {p : Addr} {o : HO} {u : MO} (n : H p = Option.none) (hr : HR K H M) (hu : Stp K H M (upd H p o) (put M p u) → MAt K (upd H p o) (put M p u) p u) : Stp K H M (upd H p o) (put M p u) ∧ HR K (upd H p o) (put M p u) := by
  have s : Stp K H M (upd H p o) (put M p u) := ⟨sqT_upd fun _ => rd_none n, fun a xs _ h m => ⟨by rw [upd_ne (ne_of_none h n)]; exact h, by rw [put_ne (ne_of_none h n)]; exact m⟩, fun a fs h => by rw [upd_ne (ne_of_none h n)]; exact h, fun a q u h => by rw [upd_ne (ne_of_none h n)]; exact h⟩
  refine ⟨s, fun a q h => ?_⟩
  by_cases e : a = p
  · subst e
    rw [put_same] at h
    cases h
    exact hu s
  · rw [put_ne e] at h
    exact (hr a q h).stp s (upd_ne e)
/-- an object of the data heap changes -/
theorem Stp.wr {p : Addr} {o o' : HO} {u u' : MO} (hm : M p = some u) (ho : H p = some o) (nt : ∀ xs, o ≠ .tup xs) (nf : ∀ w u, o ≠ .frz w u) (nx : ∀ fs, o ≠ .xd fs) (hr : HR K H M)
    (hu : Stp K H M (upd H p o') (put M p u') → MAt K (upd H p o') (put M p u') p u') : Stp K H M (upd H p o') (put M p u') ∧ HR K (upd H p o') (put M p u') := by
  have s : Stp K H M (upd H p o') (put M p u') := by
    refine ⟨sqT_upd fun xs h => ?_, fun a xs _ h m => ?_, fun a fs h => ?_, fun a q u h => ?_⟩
    · rcases h with h | ⟨w, h⟩
      · rw [ho] at h; exact nt xs (Option.some.inj h)
      · rw [ho] at h; exact nf w _ (Option.some.inj h)
    · have ne : a ≠ p := fun e => by subst e; rw [hm] at m; cases m
      exact ⟨by rw [upd_ne ne]; exact h, by rw [put_ne ne]; exact m⟩
    · have ne : a ≠ p := fun e => by subst e; rw [ho] at h; exact nx fs (Option.some.inj h)
      rw [upd_ne ne]; exact h
    · have ne : a ≠ p := fun e => by subst e; rw [ho] at h; exact nf q u (Option.some.inj h)
      rw [upd_ne ne]; exact h
  refine ⟨s, fun a q h => ?_⟩
  by_cases e : a = p
  · subst e
    rw [put_same] at h
    cases h
    exact hu s
  · rw [put_ne e] at h
    exact (hr a q h).stp s (upd_ne e)
theorem RA.len : ∀ {ds : List D} {xs : List V}, RA K H M xs ds → xs.length = ds.length
  | [], _, h => by unfold RA at h; rw [h] <;> rfl
  | d :: ds, _, h => by
    unfold RA at h
    obtain ⟨x, r, e, _, h2⟩ := h
    rw [e, List.length_cons, List.length_cons, RA.len h2]
theorem RA.nil : RA K H M [] [] := by unfold RA; rfl
theorem RA.cons {x : V} {d : D} {xs : List V} {ds : List D} (h : R K H M x d) (t : RA K H M xs ds) : RA K H M (x :: xs) (d :: ds) := by
  unfold RA
  exact ⟨x, xs, rfl, h, t⟩
theorem RA.snoc : ∀ {ds : List D} {xs : List V} {x : V} {d : D}, RA K H M xs ds → R K H M x d → RA K H M (xs ++ [x]) (ds ++ [d])
  | [], _, x, d, h, r => by
    unfold RA at h
    subst h
    exact RA.cons r RA.nil
  | e :: ds, _, x, d, h, r => by
    unfold RA at h
    obtain ⟨y, q, e', h1, h2⟩ := h
    subst e'
    exact RA.cons h1 (RA.snoc h2 r)
theorem RA.app : ∀ {ds es : List D} {xs ys : List V}, RA K H M xs ds → RA K H M ys es → RA K H M (xs ++ ys) (ds ++ es)
  | [], es, _, ys, h, r => by
    unfold RA at h
    subst h
    exact r
  | e :: ds, es, _, ys, h, r => by
    unfold RA at h
    obtain ⟨y, q, e', h1, h2⟩ := h
    subst e'
    exact RA.cons h1 (RA.app h2 r)
theorem RA.get : ∀ {ds : List D} {xs : List V} {i : Nat} {d : D}, RA K H M xs ds → ds[i]? = some d → ∃ x, xs[i]? = some x ∧ R K H M x d
  | [], _, i, d, _, h => by simp at h
  | e :: ds, _, 0, d, h, hi => by
    unfold RA at h
    obtain ⟨y, q, e', h1, h2⟩ := h
    subst e'
    simp at hi
    subst hi
    exact ⟨y, rfl, h1⟩
  | e :: ds, _, i + 1, d, h, hi => by
    unfold RA at h
    obtain ⟨y, q, e', h1, h2⟩ := h
    subst e'
    obtain ⟨x, a, b⟩ := RA.get (i := i) h2 (by simpa using hi)
    exact ⟨x, by simpa using a, b⟩
theorem RA.getV {ds : List D} {xs : List V} {i : Nat} {x : V} (h : RA K H M xs ds) (hi : xs[i]? = some x) : ∃ d, ds[i]? = some d ∧ R K H M x d := by
  have hl := h.len
  have h1 : i < xs.length := (List.getElem?_eq_some_iff.mp hi).1
  obtain ⟨y, a, b⟩ := h.get (i := i) (List.getElem?_eq_getElem (show i < ds.length by omega))
  rw [hi] at a
  cases a
  exact ⟨_, List.getElem?_eq_getElem (show i < ds.length by omega), b⟩
theorem RA.set : ∀ {ds : List D} {xs : List V} {x : V} {d : D} (i : Nat), RA K H M xs ds → R K H M x d → RA K H M (xs.set i x) (ds.set i d)
  | [], _, x, d, i, h, r => by
    unfold RA at h
    subst h
    exact RA.nil
  | e :: ds, _, x, d, 0, h, r => by
    unfold RA at h
    obtain ⟨y, q, e', h1, h2⟩ := h
    subst e'
    exact RA.cons r h2
  | e :: ds, _, x, d, i + 1, h, r => by
    unfold RA at h
    obtain ⟨y, q, e', h1, h2⟩ := h
    subst e'
    exact RA.cons h1 (RA.set i h2 r)
theorem RA.drop : ∀ {ds : List D} {xs : List V} (n : Nat), RA K H M xs ds → RA K H M (xs.drop n) (ds.drop n)
  | _, _, 0, h => h
  | [], _, n + 1, h => by unfold RA at h; subst h; exact RA.nil
  | e :: ds, _, n + 1, h => by
    unfold RA at h
    obtain ⟨y, q, e', h1, h2⟩ := h
    subst e'
    exact RA.drop n h2
theorem RA.take : ∀ {ds : List D} {xs : List V} (n : Nat), RA K H M xs ds → RA K H M (xs.take n) (ds.take n)
  | _, _, 0, h => by
    rw [List.take_zero, List.take_zero]
    exact RA.nil
  | [], _, n + 1, h => by unfold RA at h; subst h; exact RA.nil
  | e :: ds, _, n + 1, h => by
    unfold RA at h
    obtain ⟨y, q, e', h1, h2⟩ := h
    subst e'
    exact RA.cons h1 (RA.take n h2)
theorem RA.ints : ∀ {ns : List Int}, RA K H M (ns.map V.int) (ns.map D.int)
  | [] => RA.nil
  | n :: ns => RA.cons (by unfold R; rfl) RA.ints
theorem RA.toInts : ∀ {ns : List Int} {xs : List V}, RA K H M xs (ns.map D.int) → xs = ns.map V.int
  | [], _, h => by unfold RA at h; exact h
  | n :: ns, _, h => by
    rw [List.map_cons] at h
    unfold RA at h
    obtain ⟨y, q, e', h1, h2⟩ := h
    unfold R at h1
    rw [e', h1, RA.toInts h2] <;> rfl

mutual
theorem R.flat (t : ∀ a xs, SqT K H a xs → SqT K H' a xs) : ∀ {d : D} {v : V}, noL d = true → R K H M v d → R K H' M' v d
  | .non, _, _, h => by unfold R at *; exact h
  | .bl _, _, _, h => by unfold R at *; exact h
  | .int _, _, _, h => by unfold R at *; exact h
  | .str _, _, _, h => by unfold R at *; exact h
  | .ty _, _, _, h => by unfold R at *; exact h
  | .ref _, _, _, h => by unfold R at *; exact h
  | .tup ds, _, n, h => by
    unfold noL at n
    unfold R at *
    obtain ⟨a, xs, e, q, r⟩ := h
    exact ⟨a, xs, e, t a xs q, RA.flat t n r⟩
  | .lst ds, _, n, _ => by
    unfold noL at n
    cases n
  | .seq ds, _, n, _ => by
    unfold noL at n
    cases n
  | .exc .., _, n, _ => by
    unfold noL at n
    cases n
  | .dct .., _, n, _ => by
    unfold noL at n
    cases n
  | .dtt .., _, n, _ => by
    unfold noL at n
    cases n
theorem RA.flat (t : ∀ a xs, SqT K H a xs → SqT K H' a xs) : ∀ {ds : List D} {xs : List V}, noLs ds = true → RA K H M xs ds → RA K H' M' xs ds
  | [], _, _, h => by unfold RA at *; exact h
  | d :: ds, _, n, h => by
    unfold noLs at n
    rw [Bool.and_eq_true] at n
    unfold RA at *
    obtain ⟨x, r, e, h1, h2⟩ := h
    exact ⟨x, r, e, R.flat t n.1 h1, RA.flat t n.2 h2⟩
end
theorem RF.flat (t : ∀ a xs, SqT K H a xs → SqT K H' a xs) : ∀ {fs : List (Str × D)} {gs : List (Str × V)}, noLs (fs.map (·.2)) = true → RF K H M gs fs → RF K H' M' gs fs
  | [], _, _, h => h
  | (f, d) :: fs, _, n, h => by
    rw [List.map_cons] at n
    unfold noLs at n
    rw [Bool.and_eq_true] at n
    obtain ⟨x, r, e, h1, h2⟩ := h
    exact ⟨x, r, e, h1.flat t n.1, RF.flat t n.2 h2⟩
theorem MAt.flat (t : ∀ a xs, SqT K H a xs → SqT K H' a xs) {a : Addr} {o : MO} (h : MAt K H M a o) (e : H' a = H a) : MAt K H' M' a o := by
  cases o with
  | lst ds => obtain ⟨z, xs, h1, h2⟩ := h; exact ⟨z, xs, e.trans h1, h2.flat t z⟩
  | ins C fs => obtain ⟨z, dx, gs, h1, h2⟩ := h; exact ⟨z, dx, gs, e.trans h1, h2.flat t z⟩
  | dct ks ds => obtain ⟨z, l, xs, h1, h2⟩ := h; exact ⟨z, l, xs, e.trans h1, h2.flat t z⟩
theorem noLs_nil : noLs [] = true := by simp [noLs]
theorem noLs_cons {d : D} {ds : List D} : noLs (d :: ds) = (noL d && noLs ds) := by simp [noLs]
theorem noLs_app : ∀ {a b : List D}, noLs (a ++ b) = (noLs a && noLs b)
  | [], b => by rw [noLs_nil] <;> rfl
  | d :: a, b => by rw [List.cons_append, noLs_cons, noLs_cons, noLs_app, Bool.and_assoc]
theorem noLs_set : ∀ {a : List D} {i : Nat} {d : D}, noLs a = true → noL d = true → noLs (a.set i d) = true
  | [], _, _, h, _ => h
  | e :: a, 0, d, h, hd => by
    unfold noLs at h
    rw [Bool.and_eq_true] at h
    rw [List.set_cons_zero]
    unfold noLs
    rw [hd, h.2] <;> rfl
  | e :: a, i + 1, d, h, hd => by
    unfold noLs at h
    rw [Bool.and_eq_true] at h
    rw [List.set_cons_succ]
    unfold noLs
    rw [h.1, noLs_set h.2 hd] <;> rfl
theorem noLs_ints : ∀ {ns : List Int}, noLs (ns.map D.int) = true
  | [] => by simp [noLs]
  | n :: ns => by
    rw [List.map_cons]
    unfold noLs
    rw [noLs_ints] <;> simp [noL]
end
end DL

set_option Elab.async false
set_option linter.all false
set_option maxRecDepth 100000
set_option maxHeartbeats 4000000
namespace DL
open PySem PySem.Spec L2

/-- an exception: its class, its own fields -/
abbrev Xc := Value × List (Str × D)
abbrev DK := D → DM → Prop
abbrev DX := Xc → DM → Prop
abbrev DE := DR → DM → DK → DX → Prop
abbrev DT := DR → DM → (Bool → DM → Prop) → DX → Prop
abbrev DA := DR → DM → (List D → DM → Prop) → DX → Prop
structure DN where
  nx : DR → DM → Prop
  rt : DK
  bk : DR → DM → Prop := fun _ _ => False
  ct : DR → DM → Prop := fun _ _ => False
  ex : Xc → DR → DM → Prop := fun _ _ _ => False
abbrev DS := DN → DR → DM → Prop

section
variable (K : PySem.W.Frag) (H : Hp) (M : DM)
def XdR (od : Option Addr) (fs : List (Str × D)) : Prop := match od with
  | some d => ∃ gs, H d = some (.xd gs) ∧ RF K H M gs fs
  | none => fs = []
def LdV (Qd : DK) (Q : VK) : Prop := ∀ v H' d M', Stp K H M H' M' → R K H' M' v d → HR K H' M' → Qd d M' → Q v H'
def LdB (Qd : Bool → DM → Prop) (Q : Bool → Hp → Prop) : Prop := ∀ b H' M', Stp K H M H' M' → HR K H' M' → Qd b M' → Q b H'
def LdA (Qd : List D → DM → Prop) (Q : List V → Hp → Prop) : Prop := ∀ vs H' ds M', Stp K H M H' M' → RA K H' M' vs ds → HR K H' M' → Qd ds M' → Q vs H'
def LdS (P : DR → DM → Prop) (Q : L2.St → Hp → Prop) : Prop := ∀ σ' H' ρ' M', Stp K H M H' M' → En K H' M' σ' ρ' → HR K H' M' → P ρ' M' → Q σ' H'
def LdX (Xd : DX) (Q : Value → Option Addr → Hp → Prop) : Prop := ∀ c od fs H' M', Stp K H M H' M' → XdR K H' M' od fs → HR K H' M' → Xd (c, fs) M' → Q c od H'
def LdXS (X : Xc → DR → DM → Prop) (W : WX) : Prop := ∀ c od fs σ' H' ρ' M', Stp K H M H' M' → XdR K H' M' od fs → En K H' M' σ' ρ' → HR K H' M' → X (c, fs) ρ' M' → W c od σ' H'
end
section
variable {K : PySem.W.Frag} {H H1 : Hp} {M M1 : DM}
theorem LdV.stp {Qd : DK} {Q : VK} (h : LdV K H M Qd Q) (s : Stp K H M H1 M1) : LdV K H1 M1 Qd Q := fun v H' d M' s' => h v H' d M' (s.trans s')
theorem LdB.stp {Qd : Bool → DM → Prop} {Q : Bool → Hp → Prop} (h : LdB K H M Qd Q) (s : Stp K H M H1 M1) : LdB K H1 M1 Qd Q := fun v H' M' s' => h v H' M' (s.trans s')
theorem LdA.stp {Qd : List D → DM → Prop} {Q : List V → Hp → Prop} (h : LdA K H M Qd Q) (s : Stp K H M H1 M1) : LdA K H1 M1 Qd Q := fun v H' d M' s' => h v H' d M' (s.trans s')
theorem LdS.stp {P : DR → DM → Prop} {Q : L2.St → Hp → Prop} (h : LdS K H M P Q) (s : Stp K H M H1 M1) : LdS K H1 M1 P Q := fun a b c d s' => h a b c d (s.trans s')
theorem LdX.stp {X : DX} {Q : Value → Option Addr → Hp → Prop} (h : LdX K H M X Q) (s : Stp K H M H1 M1) : LdX K H1 M1 X Q := fun a b c d e s' => h a b c d e (s.trans s')
theorem LdXS.stp {X : Xc → DR → DM → Prop} {W : WX} (h : LdXS K H M X W) (s : Stp K H M H1 M1) : LdXS K H1 M1 X W := fun a b c d e f g s' => h a b c d e f g (s.trans s')
end
section
variable (K : PySem.W.Frag) (W : WX)
def uE (de : DE) : TE := fun σ H Q => ∃ ρ M Qd Xd, En K H M σ ρ ∧ HR K H M ∧ de ρ M Qd Xd ∧ LdV K H M Qd Q ∧ LdX K H M Xd fun c od H' => W c od σ H'
def uT (dt : DT) : TT := fun σ H Q => ∃ ρ M Qd Xd, En K H M σ ρ ∧ HR K H M ∧ dt ρ M Qd Xd ∧ LdB K H M Qd Q ∧ LdX K H M Xd fun c od H' => W c od σ H'
def uA (da : DA) : TA := fun σ H Q => ∃ ρ M Qd Xd, En K H M σ ρ ∧ HR K H M ∧ da ρ M Qd Xd ∧ LdA K H M Qd Q ∧ LdX K H M Xd fun c od H' => W c od σ H'
structure LdN (H : Hp) (M : DM) (N : DN) (E : Ends) : Prop where
  nx : LdS K H M N.nx E.nx
  rt : LdV K H M N.rt E.rt
  bk : LdS K H M N.bk E.bk
  ct : LdS K H M N.ct E.ct
  ex : LdXS K H M N.ex W
def uS (ds : DS) : TS := fun E σ H => ∃ ρ M N, En K H M σ ρ ∧ HR K H M ∧ ds N ρ M ∧ LdN K W H M N E
end
theorem LdN.stp {K : PySem.W.Frag} {W : WX} {H H1 : Hp} {M M1 : DM} {N : DN} {E : Ends} (h : LdN K W H M N E) (s : Stp K H M H1 M1) : LdN K W H1 M1 N E :=
  ⟨h.nx.stp s, h.rt.stp s, h.bk.stp s, h.ct.stp s, h.ex.stp s⟩
theorem LdXS.at {K : PySem.W.Frag} {H : Hp} {M : DM} {X : Xc → DR → DM → Prop} {W : WX} {σ : L2.St} {ρ : DR} (h : LdXS K H M X W) (e : En K H M σ ρ) : LdX K H M (fun x M' => X x ρ M') fun c od H' => W c od σ H' :=
  fun c od fs H' M' s x r q => h c od fs σ H' ρ M' s x (e.stp s) r q
section
variable {X : Cx} {W : WX}
theorem pe_imp {e : Expr} {t t' : TE} (h : PE X e t) (i : ∀ σ H Q, t' σ H Q → t σ H Q) : PE X e t' := ⟨fun pins s σ H Q I q => h.run pins s σ H Q I (i σ H Q q)⟩
theorem pt_imp {e : Expr} {t t' : TT} (h : PT X e t) (i : ∀ σ H Q, t' σ H Q → t σ H Q) : PT X e t' := ⟨fun pins s σ H Q I q => h.run pins s σ H Q I (i σ H Q q)⟩
theorem pw_imp {e : Expr} {t t' : TT} (h : PW X e t) (i : ∀ σ H Q, t' σ H Q → t σ H Q) : PW X e t' := ⟨fun w pins s σ H Q I q => h.run w pins s σ H Q I (i σ H Q q)⟩
theorem pa_imp {e : List Expr} {t t' : TA} (h : PA X e t) (i : ∀ σ H Q, t' σ H Q → t σ H Q) : PA X e t' := ⟨fun pos pins s σ H Q I q => h.run pos pins s σ H Q I (i σ H Q q)⟩
theorem ps_imp {e : Stmt} {t t' : TS} (h : PS X e t) (i : ∀ D σ H, t' D σ H → t D σ H) : PS X e t' := ⟨fun pins s σ H D I q => h.run pins s σ H D I (i D σ H q)⟩
theorem pss_imp {e : List Stmt} {t t' : TS} (h : PSs X e t) (i : ∀ D σ H, t' D σ H → t D σ H) : PSs X e t' := ⟨fun pins s σ H D I q => h.run pins s σ H D I (i D σ H q)⟩

/-! ### expressions -/
def dVar (i : Nat) : DE := fun ρ M Q _ => match ρ[i]? with
  | some (some d) => Q d M
  | _ => False
def dC (d : D) : DE := fun _ M Q _ => Q d M
theorem dd_var (i : Nat) {x : Str} {pos : Pos} (hN : X.N[i]? = some x := by exact rfl) (hv : Vis X.env.scope x := by first | exact Or.inl rfl | exact Or.inr (Or.inl rfl) | exact Or.inr (Or.inr rfl)) (hd : (x == ("__debug__" : Str)) = false := by decide)
    (hcd : (x == ("__classdict__" : Str)) = false := by decide) : PE X (.Name x pos) (uE X.K W (dVar i)) := by
  refine pe_imp (pe_var hN hv hd hcd) fun σ H Q h => ?_
  obtain ⟨ρ, M, Qd, Xd, en, hr, h, q, _⟩ := h
  unfold dVar at h
  cases e : ρ[i]? with
  | none => rw [e] at h; exact h.elim
  | some o =>
    cases o with
    | none => rw [e] at h; exact h.elim
    | some d =>
      rw [e] at h
      obtain ⟨v, h1, h2⟩ := en.2 i d e
      exact ⟨v, h1, q v H d M .refl h2 hr h⟩
theorem dd_c {e : Expr} {v : V} {d : D} (h : PE X e (tC v)) (hd : ∀ H M, R X.K H M v d) : PE X e (uE X.K W (dC d)) := pe_imp h fun σ H Q ⟨_, M, _, _, _, hr, h, q, _⟩ => q v H d M .refl (hd _ _) hr h
theorem dd_int {i j pos} : PE X (.Constant (.int i) j pos) (uE X.K W (dC (.int i))) := dd_c pe_int fun _ _ => by unfold R; rfl
theorem dd_bl {i j pos} : PE X (.Constant (.bool i) j pos) (uE X.K W (dC (.bl i))) := dd_c pe_bl fun _ _ => by unfold R; rfl
theorem dd_non {j pos} : PE X (.Constant .none j pos) (uE X.K W (dC .non)) := dd_c pe_non fun _ _ => by unfold R; rfl
theorem dd_str {i j pos} : PE X (.Constant (.str i) j pos) (uE X.K W (dC (.str i))) := dd_c pe_str fun _ _ => by unfold R; rfl

/-! ### two places -/
abbrev F2 := D → D → DM → DK → Prop
def OpV (K : PySem.W.Frag) (r : R2) (f : F2) : Prop := ∀ H M v w x y Q Qd, HR K H M → R K H M v x → R K H M w y → f x y M Qd → LdV K H M Qd Q → r v w H Q
def dOp (f : F2) (da db : DE) : DE := fun ρ M Q Xd => da ρ M (fun x M1 => db ρ M1 (fun y M2 => f x y M2 Q) Xd) Xd
theorem two {da db : DE} {σ : L2.St} {H : Hp} {Qd : D → D → DM → Prop} {Q : V → V → Hp → Prop} {Xd : DX} {ρ : DR} {M : DM} (en : En X.K H M σ ρ) (hr : HR X.K H M)
    (h : da ρ M (fun x M1 => db ρ M1 (fun y M2 => Qd x y M2) Xd) Xd) (x : LdX X.K H M Xd fun c od H' => W c od σ H')
    (k : ∀ v w x y H' M', Stp X.K H M H' M' → R X.K H' M' v x → R X.K H' M' w y → HR X.K H' M' → Qd x y M' → Q v w H') : uE X.K W da σ H fun v H1 => uE X.K W db σ H1 fun w H2 => Q v w H2 :=
  ⟨ρ, M, _, Xd, en, hr, h, fun v H1 d1 M1 s1 r1 hr1 h1 => ⟨ρ, M1, _, Xd, en.stp s1, hr1, h1, fun w H2 d2 M2 s2 r2 hr2 h2 => k v w d1 d2 H2 M2 (s1.trans s2) (r1.stp s2) r2 hr2 h2, x.stp s1⟩, x⟩
theorem dd_op2 {r : R2} {f : F2} {e : Expr} {da db : DE} (h : PE X e (tOp r (uE X.K W da) (uE X.K W db))) (hv : OpV X.K r f) : PE X e (uE X.K W (dOp f da db)) :=
  pe_imp h fun σ H Q ⟨ρ, M, Qd, Xd, en, hr, h, q, x⟩ => two en hr h x fun v w a b H' M' s r1 r2 hr' h' => hv H' M' v w a b Q Qd hr' r1 r2 h' (q.stp s)
variable {a b : Expr} {da db : DE} {pos : Pos}
theorem dd_bin {op : Operator} {r : R2} {f : F2} (ho : OpR X (binaryOp op) r) (hv : OpV X.K r f) (ha : PE X a (uE X.K W da)) (hb : PE X b (uE X.K W db)) : PE X (.BinOp a op b pos) (uE X.K W (dOp f da db)) := dd_op2 (pe_op ho ha hb) hv
theorem dd_cmp {op : CmpOp} {r : R2} {f : F2} (ho : OpR X (compareOp op) r) (hv : OpV X.K r f) (ha : PE X a (uE X.K W da)) (hb : PE X b (uE X.K W db)) (hm : behindInMarks op b = false) : PE X (.Compare a [op] [b] pos) (uE X.K W (dOp f da db)) := dd_op2 (pe_cmpR ho ha hb hm) hv
theorem dd_ix {r : R2} {f : F2} (ho : IxR X r) (hv : OpV X.K r f) (ha : PE X a (uE X.K W da)) (hb : PE X b (uE X.K W db)) (hs : PlainIx b) : PE X (.Subscript a b pos) (uE X.K W (dOp f da db)) := dd_op2 (pe_ix ho ha hb hs) hv
/-- the answer is a bool -/
def onB (d : D) (k : Bool → Prop) : Prop := match d with
  | .bl b => k b
  | _ => False
def dTest (de : DE) : DT := fun ρ M Q Xd => de ρ M (fun d M1 => onB d fun b => Q b M1) Xd
theorem isBl {K : PySem.W.Frag} {H : Hp} {M : DM} {v : V} {d : D} {k : Bool → Prop} (r : R K H M v d) (h : onB d k) : ∃ b, d = .bl b ∧ v = .bl b ∧ k b := by
  cases d with
  | bl b => unfold R at r; exact ⟨b, rfl, r, h⟩
  | _ => exact h.elim
theorem dt_cmp {op : CmpOp} {r : R2} {f : F2} (ho : OpR X (compareOp op) r) (hv : OpV X.K r f) (ha : PE X a (uE X.K W da)) (hb : PE X b (uE X.K W db)) (hm : behindInMarks op b = false) : PT X (.Compare a [op] [b] pos) (uT X.K W (dTest (dOp f da db))) :=
  pt_imp (pt_cmpR ho ha hb hm) fun σ H Q ⟨ρ, M, Qd, Xd, en, hr, h, q, x⟩ => two en hr h x fun v w a b H' M' s r1 r2 hr' h' => hv H' M' v w a b _ _ hr' r1 r2 h' fun v2 H2 d2 M2 s2 rr hr2 hq => by
    obtain ⟨k, _, e2, q2⟩ := isBl rr hq
    exact ⟨k, e2, q k H2 M2 (s.trans s2) hr2 q2⟩
/-- any expression whose value is a bool -/
theorem dt_val {e : Expr} {de : DE} (h : PE X e (uE X.K W de)) (he : ∀ whole, isTrue e X.env whole = (do let v ← whole; standAt e.pos; holding [v] (truthy v)) := by intro _; exact rfl) : PT X e (uT X.K W (dTest de)) :=
  pt_imp (pt_val h he) fun σ H Q ⟨ρ, M, Qd, Xd, en, hr, h, q, x⟩ => ⟨ρ, M, _, Xd, en, hr, h, fun v H1 d1 M1 s1 r1 hr1 h1 => by
    obtain ⟨k, _, e2, q2⟩ := isBl r1 h1
    exact ⟨k, e2, q k H1 M1 s1 hr1 q2⟩, x⟩
def dUn (f : D → DM → DK → Prop) (da : DE) : DE := fun ρ M Q Xd => da ρ M (fun x M1 => f x M1 Q) Xd
def UnV (K : PySem.W.Frag) (r : V → Hp → VK → Prop) (f : D → DM → DK → Prop) : Prop := ∀ H M v x Q Qd, HR K H M → R K H M v x → f x M Qd → LdV K H M Qd Q → r v H Q
theorem dd_un {op : UnaryOp} {r : V → Hp → VK → Prop} {f : D → DM → DK → Prop} (ho : UnR X (unaryOp op) r) (hv : UnV X.K r f) (ha : PE X a (uE X.K W da)) : PE X (.UnaryOp op a pos) (uE X.K W (dUn f da)) :=
  pe_imp (pe_un ho ha) fun σ H Q ⟨ρ, M, Qd, Xd, en, hr, h, q, x⟩ => ⟨ρ, M, _, Xd, en, hr, h, fun v H1 d1 M1 s1 r1 hr1 h1 => hv H1 M1 v d1 Q Qd hr1 r1 h1 (q.stp s1), x⟩

/-! ### and, or, not -/
variable {ta tb : DT} {rest : List Expr}
def dAnd (t u : DT) : DT := fun ρ M Q Xd => t ρ M (fun c M1 => if c = true then u ρ M1 Q Xd else Q false M1) Xd
def dOr (t u : DT) : DT := fun ρ M Q Xd => t ρ M (fun c M1 => if c = true then Q true M1 else u ρ M1 Q Xd) Xd
def dNot (t : DT) : DT := fun ρ M Q Xd => t ρ M (fun c M1 => Q (!c) M1) Xd
theorem dw_and1 (ha : PT X a (uT X.K W ta)) : PW X (.BoolOp .And [a] pos) (uT X.K W ta) := pw_and1 ha
theorem dw_or1 (ha : PT X a (uT X.K W ta)) : PW X (.BoolOp .Or [a] pos) (uT X.K W ta) := pw_or1 ha
theorem dw_and (ha : PT X a (uT X.K W ta)) (hb : PW X (.BoolOp .And (b :: rest) pos) (uT X.K W tb)) : PW X (.BoolOp .And (a :: b :: rest) pos) (uT X.K W (dAnd ta tb)) :=
  pw_imp (pw_and ha hb) fun σ H Q ⟨ρ, M, Qd, Xd, en, hr, h, q, x⟩ => ⟨ρ, M, _, Xd, en, hr, h, fun c H1 M1 s1 hr1 h1 => by
    cases c with
    | true => exact ⟨ρ, M1, Qd, Xd, en.stp s1, hr1, h1, q.stp s1, x.stp s1⟩
    | false => exact q false H1 M1 s1 hr1 h1, x⟩
theorem dw_or (ha : PT X a (uT X.K W ta)) (hb : PW X (.BoolOp .Or (b :: rest) pos) (uT X.K W tb)) : PW X (.BoolOp .Or (a :: b :: rest) pos) (uT X.K W (dOr ta tb)) :=
  pw_imp (pw_or ha hb) fun σ H Q ⟨ρ, M, Qd, Xd, en, hr, h, q, x⟩ => ⟨ρ, M, _, Xd, en, hr, h, fun c H1 M1 s1 hr1 h1 => by
    cases c with
    | false => exact ⟨ρ, M1, Qd, Xd, en.stp s1, hr1, h1, q.stp s1, x.stp s1⟩
    | true => exact q true H1 M1 s1 hr1 h1, x⟩
theorem dt_not (ha : PT X a (uT X.K W ta)) : PT X (.UnaryOp .Not a pos) (uT X.K W (dNot ta)) :=
  pt_imp (pt_not ha) fun σ H Q ⟨ρ, M, Qd, Xd, en, hr, h, q, x⟩ => ⟨ρ, M, _, Xd, en, hr, h, fun c H1 M1 s1 hr1 h1 => q _ H1 M1 s1 hr1 h1, x⟩
/-- .. as values, bools -/
def dAndV (t u : DE) : DE := fun ρ M Q Xd => t ρ M (fun c M1 => onB c fun c => if c = true then u ρ M1 Q Xd else Q (.bl false) M1) Xd
def dOrV (t u : DE) : DE := fun ρ M Q Xd => t ρ M (fun c M1 => onB c fun c => if c = true then Q (.bl true) M1 else u ρ M1 Q Xd) Xd
def dNotV (t : DE) : DE := fun ρ M Q Xd => t ρ M (fun c M1 => onB c fun c => Q (.bl (!c)) M1) Xd
theorem R.blI {K : PySem.W.Frag} {H : Hp} {M : DM} {b : Bool} : R K H M (.bl b) (.bl b) := by unfold R; rfl
theorem R.intI {K : PySem.W.Frag} {H : Hp} {M : DM} {b : Int} : R K H M (.int b) (.int b) := by unfold R; rfl
theorem R.strI {K : PySem.W.Frag} {H : Hp} {M : DM} {b : Str} : R K H M (.str b) (.str b) := by unfold R; rfl
theorem R.nonI {K : PySem.W.Frag} {H : Hp} {M : DM} : R K H M .non .non := by unfold R; rfl
theorem R.refI {K : PySem.W.Frag} {H : Hp} {M : DM} {b : Addr} : R K H M (.ref b) (.ref b) := by unfold R; rfl
theorem dd_and1 (ha : PE X a (uE X.K W da)) {op} : PE X (.BoolOp op [a] pos) (uE X.K W da) := pe_one ha
theorem dd_and (ha : PE X a (uE X.K W da)) (hb : PE X (.BoolOp .And (b :: rest) pos) (uE X.K W db)) : PE X (.BoolOp .And (a :: b :: rest) pos) (uE X.K W (dAndV da db)) :=
  pe_imp (pe_and ha hb) fun σ H Q ⟨ρ, M, Qd, Xd, en, hr, h, q, x⟩ => ⟨ρ, M, _, Xd, en, hr, h, fun c H1 d1 M1 s1 r1 hr1 h1 => by
    cases d1 with
    | bl c =>
      unfold R at r1
      refine ⟨c, r1, ?_⟩
      cases c with
      | true => exact ⟨ρ, M1, Qd, Xd, en.stp s1, hr1, h1, q.stp s1, x.stp s1⟩
      | false => exact q _ H1 _ M1 s1 R.blI hr1 h1
    | _ => exact h1.elim, x⟩
theorem dd_or (ha : PE X a (uE X.K W da)) (hb : PE X (.BoolOp .Or (b :: rest) pos) (uE X.K W db)) : PE X (.BoolOp .Or (a :: b :: rest) pos) (uE X.K W (dOrV da db)) :=
  pe_imp (pe_or ha hb) fun σ H Q ⟨ρ, M, Qd, Xd, en, hr, h, q, x⟩ => ⟨ρ, M, _, Xd, en, hr, h, fun c H1 d1 M1 s1 r1 hr1 h1 => by
    cases d1 with
    | bl c =>
      unfold R at r1
      refine ⟨c, r1, ?_⟩
      cases c with
      | false => exact ⟨ρ, M1, Qd, Xd, en.stp s1, hr1, h1, q.stp s1, x.stp s1⟩
      | true => exact q _ H1 _ M1 s1 R.blI hr1 h1
    | _ => exact h1.elim, x⟩
theorem dd_not (ha : PE X a (uE X.K W da)) : PE X (.UnaryOp .Not a pos) (uE X.K W (dNotV da)) :=
  pe_imp (pe_not ha) fun σ H Q ⟨ρ, M, Qd, Xd, en, hr, h, q, x⟩ => ⟨ρ, M, _, Xd, en, hr, h, fun c H1 d1 M1 s1 r1 hr1 h1 => by
    cases d1 with
    | bl c =>
      unfold R at r1
      exact ⟨c, r1, q _ H1 _ M1 s1 R.blI hr1 h1⟩
    | _ => exact h1.elim, x⟩
def dIf (t : DT) (u w : DE) : DE := fun ρ M Q Xd => t ρ M (fun c M1 => if c = true then u ρ M1 Q Xd else w ρ M1 Q Xd) Xd
theorem dd_if {c : Expr} (hc : PT X c (uT X.K W ta)) (ha : PE X a (uE X.K W da)) (hb : PE X b (uE X.K W db)) : PE X (.IfExp c a b pos) (uE X.K W (dIf ta da db)) :=
  pe_imp (pe_ifExp hc ha hb) fun σ H Q ⟨ρ, M, Qd, Xd, en, hr, h, q, x⟩ => ⟨ρ, M, _, Xd, en, hr, h, fun c H1 M1 s1 hr1 h1 => by
    cases c with
    | true => exact ⟨ρ, M1, Qd, Xd, en.stp s1, hr1, h1, q.stp s1, x.stp s1⟩
    | false => exact ⟨ρ, M1, Qd, Xd, en.stp s1, hr1, h1, q.stp s1, x.stp s1⟩, x⟩

/-! ### several -/
def dNil : DA := fun _ M Q _ => Q [] M
def dCons (de : DE) (dr : DA) : DA := fun ρ M Q Xd => de ρ M (fun d M1 => dr ρ M1 (fun ds M2 => Q (d :: ds) M2) Xd) Xd
variable {e : Expr} {es : List Expr} {de : DE} {dr : DA}
theorem dx_nil : PA X [] (uA X.K W dNil) := pa_imp pa_nil fun σ H Q ⟨ρ, M, Qd, Xd, en, hr, h, q, x⟩ => q [] H [] M .refl .nil hr h
theorem dx_cons (ha : PE X e (uE X.K W de)) (hr : PA X es (uA X.K W dr)) (hs : starEach (e :: es) X.env = (false, eval e X.env) :: starEach es X.env := by exact rfl) : PA X (e :: es) (uA X.K W (dCons de dr)) :=
  pa_imp (pa_cons ha hr hs) fun σ H Q ⟨ρ, M, Qd, Xd, en, hr, h, q, x⟩ => ⟨ρ, M, _, Xd, en, hr, h, fun v H1 d1 M1 s1 r1 hr1 h1 =>
    ⟨ρ, M1, _, Xd, en.stp s1, hr1, h1, fun vs H2 ds M2 s2 r2 hr2 h2 => q _ H2 _ M2 (s1.trans s2) (RA.cons (r1.stp s2) r2) hr2 h2, x.stp s1⟩, x⟩
def dTup (da : DA) : DE := fun ρ M Q Xd => da ρ M (fun ds M1 => ds.length ≤ sizeLine ∧ Q (.tup ds) M1) Xd
def dLst (da : DA) : DE := fun ρ M Q Xd => da ρ M (fun ds M1 => ds.length ≤ sizeLine ∧ Q (.lst ds) M1) Xd
/-- a list that is to change -/
def dLstM (da : DA) : DE := fun ρ M Q Xd => da ρ M (fun ds M1 => ds.length ≤ sizeLine ∧ noLs ds = true ∧ ∀ p, M1 p = none → Q (.ref p) (put M1 p (.lst ds))) Xd
theorem newTup {K : PySem.W.Frag} {H : Hp} {M : DM} {p : Addr} {xs : List V} {ds : List D} (hr : HR K H M) (n : H p = none) (r : RA K H M xs ds) :
    Stp K H M (upd H p (.tup xs)) M ∧ R K (upd H p (.tup xs)) M (.ref p) (.tup ds) ∧ HR K (upd H p (.tup xs)) M := by
  obtain ⟨s, h⟩ := Stp.new (o := .tup xs) n hr
  refine ⟨s, ?_, h⟩
  unfold R
  exact ⟨p, xs, rfl, SqT.of upd_same, r.stp s⟩
theorem newLst {K : PySem.W.Frag} {H : Hp} {M : DM} {p : Addr} {xs : List V} {ds : List D} (hr : HR K H M) (n : H p = none) (r : RA K H M xs ds) :
    Stp K H M (upd H p (.lst xs)) M ∧ R K (upd H p (.lst xs)) M (.ref p) (.lst ds) ∧ HR K (upd H p (.lst xs)) M := by
  obtain ⟨s, h⟩ := Stp.new (o := .lst xs) n hr
  refine ⟨s, ?_, h⟩
  unfold R
  exact ⟨p, xs, rfl, upd_same, hr.none n, r.stp s⟩
theorem newLstM {K : PySem.W.Frag} {H : Hp} {M : DM} {p : Addr} {xs : List V} {ds : List D} (hr : HR K H M) (n : H p = none) (r : RA K H M xs ds) (z : noLs ds = true) :
    Stp K H M (upd H p (.lst xs)) (put M p (.lst ds)) ∧ HR K (upd H p (.lst xs)) (put M p (.lst ds)) :=
  Stp.newM n hr fun s => ⟨z, xs, upd_same, r.stp s⟩
variable {dag : DA}
theorem dd_tup {x1} (h : PA X es (uA X.K W dag)) : PE X (.Tuple es x1 pos) (uE X.K W (dTup dag)) :=
  pe_imp (pe_tup h) fun σ H Q ⟨ρ, M, Qd, Xd, en, hr, h, q, x⟩ => ⟨ρ, M, _, Xd, en, hr, h, fun vs H1 ds M1 s1 r1 hr1 h1 => ⟨by rw [r1.len]; exact h1.1, fun p n => by
    obtain ⟨s2, r2, hr2⟩ := newTup hr1 n r1
    exact q _ _ _ M1 (s1.trans s2) r2 hr2 h1.2⟩, x⟩
theorem dd_lst (h : PA X es (uA X.K W dag)) : PE X (.List es pos) (uE X.K W (dLst dag)) :=
  pe_imp (pe_lst h) fun σ H Q ⟨ρ, M, Qd, Xd, en, hr, h, q, x⟩ => ⟨ρ, M, _, Xd, en, hr, h, fun vs H1 ds M1 s1 r1 hr1 h1 => ⟨by rw [r1.len]; exact h1.1, fun p n => by
    obtain ⟨s2, r2, hr2⟩ := newLst hr1 n r1
    exact q _ _ _ M1 (s1.trans s2) r2 hr2 h1.2⟩, x⟩
theorem dd_lstM (h : PA X es (uA X.K W dag)) : PE X (.List es pos) (uE X.K W (dLstM dag)) :=
  pe_imp (pe_lst h) fun σ H Q ⟨ρ, M, Qd, Xd, en, hr, h, q, x⟩ => ⟨ρ, M, _, Xd, en, hr, h, fun vs H1 ds M1 s1 r1 hr1 h1 => ⟨by rw [r1.len]; exact h1.1, fun p n => by
    obtain ⟨s2, hr2⟩ := newLstM hr1 n r1 h1.2.1
    exact q _ _ _ _ (s1.trans s2) R.refI hr2 (h1.2.2 p (hr1.none n))⟩, x⟩

/-! ### calls of what is built in -/
def CaV (K : PySem.W.Frag) (r : List V → Hp → VK → Prop) (f : List D → DM → DK → Prop) : Prop := ∀ H M vs ds Q Qd, HR K H M → RA K H M vs ds → f ds M Qd → LdV K H M Qd Q → r vs H Q
def dCall (f : List D → DM → DK → Prop) (da : DA) : DE := fun ρ M Q Xd => da ρ M (fun ds M1 => f ds M1 Q) Xd
theorem dd_call {r : List V → Hp → VK → Prop} {f : List D → DM → DK → Prop} (h : PE X e (tCB r (uA X.K W dag))) (hv : CaV X.K r f) : PE X e (uE X.K W (dCall f dag)) :=
  pe_imp h fun σ H Q ⟨ρ, M, Qd, Xd, en, hr, h, q, x⟩ => ⟨ρ, M, _, Xd, en, hr, h, fun vs H1 ds M1 s1 r1 hr1 h1 => hv H1 M1 vs ds Q Qd hr1 r1 h1 (q.stp s1), x⟩

/-! ### calls of defs -/
abbrev DSp := List D → DM → DK → DX → Prop
/-- a data promise as a promise -/
def spD (K : PySem.W.Frag) (n : Nat) (sp : DSp) : Sp := fun vs H Q E => ∃ ds M Qd Xd, ds.length = n ∧ RA K H M vs ds ∧ HR K H M ∧ sp ds M Qd Xd ∧ LdV K H M Qd Q ∧ LdX K H M Xd E
def dFn (sp : DSp) (n : Nat) (da : DA) : DE := fun ρ M Q Xd => da ρ M (fun ds M1 => ds.length = n ∧ sp ds M1 Q Xd) Xd
theorem dd_fn {x : Str} {p : Pos} {f : Addr} {k n : Nat} {fd : FuncData} {ps : List Str} {sp : DSp} (F : FnOk X.prog X.w X.K X.mg X.base (L2.CX X.prog X.w) k f fd ps (spD X.K n sp)) (hr : Room k X.A) (hg : Gl X x) (hm : X.mg x = some (.ref f))
    (hk : PySem.W.keepIn X.K (.ref f) = true) (hb : Binds X.K fd ps []) (tk : Takes X W) (ha : PA X (e :: es) (uA X.K W dag)) (hd : (x == ("__debug__" : Str)) = false := by decide)
    (he : starEach (e :: es) X.env = (false, eval e X.env) :: starEach es X.env := by exact rfl) (hpl : (backTo pos (starEach es X.env)).any (·.1) = false := by exact rfl) :
    PE X (.Call (.Name x p) (e :: es) [] pos) (uE X.K W (dFn sp n dag)) :=
  pe_imp (pe_callS F hr hg hm hk hb (fun σ => passAt tk σ) ha hd he hpl) fun σ H Q ⟨ρ, M, Qd, Xd, en, hr, h, q, x⟩ => ⟨ρ, M, _, Xd, en, hr, h, fun vs H1 ds M1 s1 r1 hr1 h1 => ⟨ds, M1, Qd, Xd, h1.1, r1, hr1, h1.2, q.stp s1, fun c od fs H' M' s2 xr hr2 h2 => x c od fs H' M' (s1.trans s2) xr hr2 h2⟩, x⟩
end
end DL

set_option Elab.async false
set_option linter.all false
set_option maxRecDepth 100000
set_option maxHeartbeats 4000000
namespace DL
open PySem PySem.Spec L2
section
variable {X : Cx} {W : WX} {st : Stmt} {rest : List Stmt} {e : Expr} {de : DE} {pos : Pos} {da db ds : DS} {ta : DT}

/-! ### statements -/
def dNext : DS := fun N ρ M => N.nx ρ M
def dSeq (a b : DS) : DS := fun N ρ M => a { N with nx := fun ρ M => b N ρ M } ρ M
def dBreak : DS := fun N ρ M => N.bk ρ M
def dCont : DS := fun N ρ M => N.ct ρ M
def dRetN : DS := fun N _ M => N.rt .non M
def dRet (de : DE) : DS := fun N ρ M => de ρ M N.rt fun x M1 => N.ex x ρ M1
def dDrop (de : DE) : DS := fun N ρ M => de ρ M (fun _ M1 => N.nx ρ M1) fun x M1 => N.ex x ρ M1
def dIfS (t : DT) (a b : DS) : DS := fun N ρ M => t ρ M (fun c M1 => if c = true then a N ρ M1 else b N ρ M1) fun x M1 => N.ex x ρ M1
def dNever : DS := fun _ _ _ => False
theorem dz_nil : PSs X [] (uS X.K W dNext) := pss_imp pss_nil fun D σ H ⟨ρ, M, N, en, hr, h, l⟩ => l.nx σ H ρ M .refl en hr h
theorem dz_pass : PS X (.Pass pos) (uS X.K W dNext) := ps_imp ps_pass fun D σ H ⟨ρ, M, N, en, hr, h, l⟩ => l.nx σ H ρ M .refl en hr h
theorem dz_break : PS X (.Break pos) (uS X.K W dBreak) := ps_imp ps_break fun D σ H ⟨ρ, M, N, en, hr, h, l⟩ => l.bk σ H ρ M .refl en hr h
theorem dz_cont : PS X (.Continue pos) (uS X.K W dCont) := ps_imp ps_continue fun D σ H ⟨ρ, M, N, en, hr, h, l⟩ => l.ct σ H ρ M .refl en hr h
theorem dz_retN : PS X (.Return none pos) (uS X.K W dRetN) := ps_imp ps_retN fun D σ H ⟨ρ, M, N, en, hr, h, l⟩ => l.rt .non H .non M .refl R.nonI hr h
theorem dz_never : PS X st (uS X.K W dNever) := ps_imp ps_never fun D σ H ⟨ρ, M, N, en, hr, h, l⟩ => h
theorem dz_neverS {sts : List Stmt} : PSs X sts (uS X.K W dNever) := pss_imp pss_never fun D σ H ⟨ρ, M, N, en, hr, h, l⟩ => h
theorem dz_doc {x j pos pos'} : PS X (.Expr (.Constant (.str x) j pos) pos') (uS X.K W dNext) := ps_imp ps_doc fun D σ H ⟨ρ, M, N, en, hr, h, l⟩ => l.nx σ H ρ M .refl en hr h
theorem dz_cons (h1 : PS X st (uS X.K W da)) (h2 : PSs X rest (uS X.K W db)) : PSs X (st :: rest) (uS X.K W (dSeq da db)) :=
  pss_imp (pss_cons h1 h2) fun D σ H ⟨ρ, M, N, en, hr, h, l⟩ => ⟨ρ, M, _, en, hr, h, ⟨fun σ' H' ρ' M' s en' hr' h' => ⟨ρ', M', N, en', hr', h', l.stp s⟩, l.rt, l.bk, l.ct, l.ex⟩⟩
theorem dz_one (h1 : PS X st (uS X.K W da)) : PSs X [st] (uS X.K W da) := pss_one h1
theorem dz_ret (he : PE X e (uE X.K W de)) : PS X (.Return (some e) pos) (uS X.K W (dRet de)) :=
  ps_imp (ps_ret he) fun D σ H ⟨ρ, M, N, en, hr, h, l⟩ => ⟨ρ, M, _, _, en, hr, h, l.rt, l.ex.at en⟩
theorem dz_expr (he : PE X e (uE X.K W de)) (hs : swapsWith e none pos.line X.env = pure false := by exact rfl) : PS X (.Expr e pos) (uS X.K W (dDrop de)) :=
  ps_imp (ps_expr he hs) fun D σ H ⟨ρ, M, N, en, hr, h, l⟩ => ⟨ρ, M, _, _, en, hr, h, fun v H' d M' s r hr' q => l.nx σ H' ρ M' s (en.stp s) hr' q, l.ex.at en⟩
theorem dz_if {c : Expr} {a b : List Stmt} (hc : PT X c (uT X.K W ta)) (ha : PSs X a (uS X.K W da)) (hb : PSs X b (uS X.K W db)) : PS X (.If c a b pos) (uS X.K W (dIfS ta da db)) :=
  ps_imp (ps_if hc ha hb) fun D σ H ⟨ρ, M, N, en, hr, h, l⟩ => ⟨ρ, M, _, _, en, hr, h, fun c H' M' s hr' q => by
    cases c with
    | true => exact ⟨ρ, M', N, en.stp s, hr', q, l.stp s⟩
    | false => exact ⟨ρ, M', N, en.stp s, hr', q, l.stp s⟩, l.ex.at en⟩

/-! ### targets -/
abbrev DG := D → DR → DM → (DR → DM → Prop) → (Xc → DR → DM → Prop) → Prop
abbrev DGs := List D → DR → DM → (DR → DM → Prop) → (Xc → DR → DM → Prop) → Prop
def uG (K : PySem.W.Frag) (W : WX) (dg : DG) : TG := fun v σ H Q => ∃ ρ M d Qd Xd, En K H M σ ρ ∧ HR K H M ∧ R K H M v d ∧ dg d ρ M Qd Xd ∧ LdS K H M Qd Q ∧ LdXS K H M Xd W
def uGs (K : PySem.W.Frag) (W : WX) (dg : DGs) : TGs := fun v σ H Q => ∃ ρ M d Qd Xd, En K H M σ ρ ∧ HR K H M ∧ RA K H M v d ∧ dg d ρ M Qd Xd ∧ LdS K H M Qd Q ∧ LdXS K H M Xd W
def hName (i : Nat) : DG := fun d ρ M Q _ => Q (ρ.set i (some d)) M
def hNil : DGs := fun ds ρ M Q _ => match ds with
  | [] => Q ρ M
  | _ => False
def hCons (g : DG) (gs : DGs) : DGs := fun ds ρ M Q Xd => match ds with
  | d :: r => g d ρ M (fun ρ1 M1 => gs r ρ1 M1 Q Xd) Xd
  | _ => False
def hTup (n : Nat) (gs : DGs) : DG := fun d ρ M Q Xd => match d with
  | .tup ds => ds.length = n ∧ gs ds ρ M Q Xd
  | _ => False
theorem pg_imp {tg : Expr} {t t' : TG} (h : PG X tg t) (i : ∀ v σ H Q, t' v σ H Q → t v σ H Q) : PG X tg t' := ⟨fun pins s σ H x v Q I r q => h.run pins s σ H x v Q I r (i x σ H Q q)⟩
theorem pgs_imp {tg : List Expr} {t t' : TGs} (h : PGs X tg t) (i : ∀ v σ H Q, t' v σ H Q → t v σ H Q) : PGs X tg t' := ⟨fun pins s σ H x v Q I r q => h.run pins s σ H x v Q I r (i x σ H Q q)⟩
theorem dg_name {i : Nat} {x : Str} (hN : X.N.Nodup) (hi : X.N[i]? = some x) (hx : Loc X.env.scope x) (hf : X.fn x = true ∨ X.env.scope.names.lookup x = some .local := by first | exact .inl rfl | exact .inr rfl | assumption) :
    PG X (.Name x pos) (uG X.K W (hName i)) := pg_imp (pg_name hN hi hx hf) fun v σ H Q ⟨ρ, M, d, Qd, Xd, en, hr, r, h, l, x⟩ => l _ H _ M .refl (en.set i r) hr h

theorem dg_nil : PGs X [] (uGs X.K W hNil) := pgs_imp pgs_nil fun v σ H Q ⟨ρ, M, d, Qd, Xd, en, hr, r, h, l, x⟩ => by
  cases d with
  | nil =>
    unfold RA at r
    exact ⟨r, l _ H _ M .refl en hr h⟩
  | cons d ds => exact h.elim
theorem dg_cons {g : DG} {gs : DGs} {e : Expr} {es : List Expr} (h1 : PG X e (uG X.K W g)) (h2 : PGs X es (uGs X.K W gs))
    (hs : (assignEach (e :: es) X.env).map (·.2) = assign e X.env :: (assignEach es X.env).map (·.2) := by exact rfl) : PGs X (e :: es) (uGs X.K W (hCons g gs)) :=
  pgs_imp (pgs_cons h1 h2 hs) fun v σ H Q ⟨ρ, M, d, Qd, Xd, en, hr, r, h, l, x⟩ => by
    cases d with
    | nil => exact h.elim
    | cons d ds =>
      unfold RA at r
      obtain ⟨v1, vr, e1, r1, r2⟩ := r
      exact ⟨v1, vr, e1, ρ, M, d, _, Xd, en, hr, r1, h, fun σ1 H1 ρ1 M1 s1 en1 hr1 h1 => ⟨ρ1, M1, ds, Qd, Xd, en1, hr1, r2.stp s1, h1, l.stp s1, x.stp s1⟩, x⟩
theorem pg_or {tg : Expr} {t u : TG} (h : PG X tg t) (h' : PG X tg u) : PG X tg (fun v σ H Q => t v σ H Q ∨ u v σ H Q) := ⟨fun pins s σ H v w Q I r q => q.elim (h.run pins s σ H v w Q I r) (h'.run pins s σ H v w Q I r)⟩
/-- (a, b, ..) = a tuple, or a list -/
def seqD (M : DM) (d : D) : Option (List D) := match d with
  | .tup ds => some ds
  | .lst ds => some ds
  | .seq ds => some ds
  | .ref a => match M a with
    | some (.lst ds) => some ds
    | _ => none
  | _ => none
theorem seqD_of {K : PySem.W.Frag} {H : Hp} {M : DM} {v : V} {d : D} {ds : List D} (hr : HR K H M) (r : R K H M v d) (h : seqD M d = some ds) : ∃ a xs, v = .ref a ∧ (SqL K H a xs ∨ SqT K H a xs) ∧ RA K H M xs ds := by
  cases d with
  | tup es =>
    unfold R at r
    obtain ⟨a, xs, e, t, q⟩ := r
    cases h
    exact ⟨a, xs, e, .inr t, q⟩
  | lst es =>
    unfold R at r
    obtain ⟨a, xs, e, t, _, q⟩ := r
    cases h
    exact ⟨a, xs, e, .inl (SqL.of t), q⟩
  | seq es =>
    unfold R at r
    obtain ⟨a, xs, e, t, q⟩ := r
    cases h
    exact ⟨a, xs, e, .inl (t.elim (fun ⟨o, z⟩ => .inl (.inr ⟨o, z⟩)) fun z => z H), q⟩
  | ref a =>
    unfold R at r
    unfold seqD at h
    cases e : M a with
    | none => simp [e] at h
    | some o =>
      have ho := hr a o e
      cases o with
      | lst es =>
        simp [e] at h
        subst h
        obtain ⟨_, xs, h1, h2⟩ := ho
        exact ⟨a, xs, r, .inl (SqL.of h1), h2⟩
      | ins C fs => simp [e] at h
      | dct ks kvs => simp [e] at h
  | _ => cases h
def onSeq (M : DM) (d : D) (k : List D → Prop) : Prop := match seqD M d with
  | some ds => k ds
  | none => False
theorem onSeq_of {K : PySem.W.Frag} {H : Hp} {M : DM} {v : V} {d : D} {k : List D → Prop} (hr : HR K H M) (r : R K H M v d) (h : onSeq M d k) : ∃ a xs ds, v = .ref a ∧ (SqL K H a xs ∨ SqT K H a xs) ∧ RA K H M xs ds ∧ k ds := by
  unfold onSeq at h
  cases e : seqD M d with
  | none => rw [e] at h; exact h.elim
  | some ds =>
    rw [e] at h
    obtain ⟨a, xs, h1, h2, h3⟩ := seqD_of hr r e
    exact ⟨a, xs, ds, h1, h2, h3, h⟩
def hSeq (n : Nat) (gs : DGs) : DG := fun d ρ M Q Xd => onSeq M d fun ds => ds.length = n ∧ gs ds ρ M Q Xd
theorem dg_tup {es : List Expr} {k : Nat} {gs : DGs} {n : Nat} (hc : X.calm = true) (h : PGs X es (uGs X.K W gs))
    (hn : (assignEach es X.env).length = n := by exact rfl) (hst : (assignEach es X.env).findIdx? (·.1) = none := by exact rfl) : PG X (.Tuple es k pos) (uG X.K W (hSeq n gs)) :=
  pg_imp (pg_or (pg_tup hc h hn hst) (L2.pg_unl hc h hn hst)) fun v σ H Q ⟨ρ, M, d, Qd, Xd, en, hr, r, h, l, x⟩ => by
    obtain ⟨a, xs, ds, e, sq, ra, hl, hg⟩ := onSeq_of hr r h
    have body : xs.length = n ∧ uGs X.K W gs xs σ H Q := ⟨ra.len.trans hl, ρ, M, ds, Qd, Xd, en, hr, ra, hg, l, x⟩
    rcases sq with sq | sq
    · exact .inr ⟨a, xs, e, sq, body⟩
    · exact .inl ⟨a, xs, e, sq, body⟩

/-- o[i] = v -/
def SeV (K : PySem.W.Frag) (r : TSet) (f : D → D → D → DM → (DM → Prop) → Prop) : Prop := ∀ H M o i v x y z (Q : Hp → Prop) Qd, HR K H M → R K H M o x → R K H M i y → R K H M v z → f x y z M Qd → (∀ H' M', Stp K H M H' M' → HR K H' M' → Qd M' → Q H') → r o i v H Q
def hSub (do_ di : DE) (f : D → D → D → DM → (DM → Prop) → Prop) : DG := fun d ρ M Q Xd => do_ ρ M (fun o M1 => di ρ M1 (fun i M2 => f o i d M2 fun M3 => Q ρ M3) fun x M' => Xd x ρ M') fun x M' => Xd x ρ M'
theorem dg_sub {o i : Expr} {do_ di : DE} {r : TSet} {f : D → D → D → DM → (DM → Prop) → Prop} (h : PG X (.Subscript o i pos) (gSub (uE X.K W do_) (uE X.K W di) r)) (hv : SeV X.K r f) : PG X (.Subscript o i pos) (uG X.K W (hSub do_ di f)) :=
  pg_imp h fun v σ H Q ⟨ρ, M, d, Qd, Xd, en, hr, rv, h, l, x⟩ => by
    refine ⟨ρ, M, _, _, en, hr, h, fun v1 H1 d1 M1 s1 r1 hr1 h1 => ?_, x.at en⟩
    refine ⟨ρ, M1, _, _, en.stp s1, hr1, h1, fun v2 H2 d2 M2 s2 r2 hr2 h2 => ?_, (x.stp s1).at (en.stp s1)⟩
    exact hv H2 M2 v1 v2 v d1 d2 d _ _ hr2 (r1.stp s2) r2 (rv.stp (s1.trans s2)) h2 fun H3 M3 s3 hr3 h3 => l σ H3 ρ M3 ((s1.trans s2).trans s3) (en.stp ((s1.trans s2).trans s3)) hr3 h3
def dAsg (de : DE) (g : DG) : DS := fun N ρ M => de ρ M (fun d M1 => g d ρ M1 N.nx N.ex) fun x M1 => N.ex x ρ M1
theorem asg_in {de : DE} {g : DG} (D : Ends) (σ : L2.St) (H : Hp) : uS X.K W (dAsg de g) D σ H → tAsg (uE X.K W de) (uG X.K W g) D σ H := fun ⟨ρ, M, N, en, hr, h, l⟩ =>
  ⟨ρ, M, _, _, en, hr, h, fun v H1 d M1 s1 r1 hr1 h1 => ⟨ρ, M1, d, N.nx, N.ex, en.stp s1, hr1, r1, h1, l.nx.stp s1, l.ex.stp s1⟩, l.ex.at en⟩
theorem dz_asg {tg : Expr} {g : DG} (he : PE X e (uE X.K W de)) (hg : PG X tg (uG X.K W g)) (hs : swapsWithSole [tg] e pos.line X.env = pure false := by exact rfl) (hw : swappedStores [tg] e X.env = pure none := by exact rfl)
    (h1 : (assignEach [tg] X.env).map (·.2) = [assign tg X.env] := by exact rfl) : PS X (.Assign [tg] e pos) (uS X.K W (dAsg de g)) := ps_imp (ps_asg he hg hs hw h1) asg_in
def dSet (de : DE) (i : Nat) : DS := fun N ρ M => de ρ M (fun d M1 => N.nx (ρ.set i (some d)) M1) fun x M1 => N.ex x ρ M1
theorem set_in {de : DE} {i : Nat} (D : Ends) (σ : L2.St) (H : Hp) : uS X.K W (dSet de i) D σ H → tAsg (uE X.K W de) (gName i) D σ H := fun ⟨ρ, M, N, en, hr, h, l⟩ =>
  ⟨ρ, M, _, _, en, hr, h, fun v H1 d M1 s1 r1 hr1 h1 => l.nx _ H1 _ M1 s1 ((en.stp s1).set i r1) hr1 h1, l.ex.at en⟩
theorem dz_set {i : Nat} {x : Str} {pos' : Pos} (hN : X.N.Nodup) (hi : X.N[i]? = some x) (hx : Loc X.env.scope x) (he : PE X e (uE X.K W de)) (hs : swapsWith e (some (.Name x pos')) pos.line X.env = pure false := by exact rfl) (hf : X.fn x = true ∨ X.env.scope.names.lookup x = some .local := by first | exact .inl rfl | exact .inr rfl | assumption) :
    PS X (.Assign [.Name x pos'] e pos) (uS X.K W (dSet de i)) := ps_imp (ps_set hN hi hx he hs hf) set_in
def dPar (i j : Nat) (dag : DA) : DS := fun N ρ M => dag ρ M (fun ds M1 => match ds with
  | [d, e] => N.nx ((ρ.set i (some d)).set j (some e)) M1
  | _ => False) fun x M1 => N.ex x ρ M1
theorem RA.two {K : PySem.W.Frag} {H : Hp} {M : DM} {vs : List V} {d e : D} (r : RA K H M vs [d, e]) : ∃ v w, vs = [v, w] ∧ R K H M v d ∧ R K H M w e := by
  unfold RA at r
  obtain ⟨v, r, e1, h1, h2⟩ := r
  unfold RA at h2
  obtain ⟨w, r, e2, h3, h4⟩ := h2
  unfold RA at h4
  subst e1 e2 h4
  exact ⟨v, w, rfl, h1, h3⟩
theorem dz_par {i j : Nat} {x y : Str} {a b : Expr} {dag : DA} {px py pt : Pos} {kt k2 pt2} (hc : X.calm = true) (hN : X.N.Nodup) (hi : X.N[i]? = some x) (hj : X.N[j]? = some y) (hij : i ≠ j)
    (hx : X.env.scope.names.lookup x = some .local) (hy : X.env.scope.names.lookup y = some .local) (ha : PA X [a, b] (uA X.K W dag))
    (hw : swappedStores [.Tuple [.Name x px, .Name y py] kt pt] (.Tuple [a, b] k2 pt2) X.env = pure (some [x, y]))
    (hs : swapsWithSole [.Tuple [.Name x px, .Name y py] kt pt] (.Tuple [a, b] k2 pt2) pos.line X.env = pure false := by exact rfl) :
    PS X (.Assign [.Tuple [.Name x px, .Name y py] kt pt] (.Tuple [a, b] k2 pt2) pos) (uS X.K W (dPar i j dag)) :=
  ps_imp (ps_par hc hN hi hj hij hx hy ha hw hs) fun D σ H ⟨ρ, M, N, en, hr, h, l⟩ => ⟨ρ, M, _, _, en, hr, h, fun vs H1 ds M1 s1 r1 hr1 h1 => by
    match ds, r1, h1 with
    | [d, e], r1, h1 =>
      obtain ⟨v, w, e1, r2, r3⟩ := r1.two
      exact ⟨v, w, e1, l.nx _ H1 _ M1 s1 (((en.stp s1).set i r2).set j r3) hr1 h1⟩
    | [], _, h1 => exact h1.elim
    | [_], _, h1 => exact h1.elim
    | _ :: _ :: _ :: _, _, h1 => exact h1.elim, l.ex.at en⟩
/-- x op= e -/
def dAug (i : Nat) (de : DE) (f : F2) : DS := fun N ρ M => match ρ[i]? with
  | some (some x) => de ρ M (fun y M1 => f x y M1 fun z M2 => N.nx (ρ.set i (some z)) M2) fun x M1 => N.ex x ρ M1
  | _ => False
theorem dz_aug {i : Nat} {x : Str} {op : Operator} {ti : TIp} {f : F2} {pos' : Pos} (hN : X.N.Nodup) (hi : X.N[i]? = some x) (hx : Loc X.env.scope x) (he : PE X e (uE X.K W de)) (ho : PIp X op ti) (hv : OpV X.K ti f) (hf : X.fn x = true ∨ X.env.scope.names.lookup x = some .local := by first | exact .inl rfl | exact .inr rfl | assumption) :
    PS X (.AugAssign (.Name x pos') op e pos) (uS X.K W (dAug i de f)) :=
  ps_imp (ps_aug hN hi hx he ho hf) fun D σ H ⟨ρ, M, N, en, hr, h, l⟩ => by
    unfold dAug at h
    cases q : ρ[i]? with
    | none => rw [q] at h; exact h.elim
    | some o =>
      cases o with
      | none => rw [q] at h; exact h.elim
      | some d =>
        rw [q] at h
        obtain ⟨v, h1, h2⟩ := en.2 i d q
        exact ⟨v, h1, ρ, M, _, _, en, hr, h, fun w H1 d1 M1 s1 r1 hr1 h1 => hv H1 M1 v w d d1 _ _ hr1 (h2.stp s1) r1 h1 fun z H2 d2 M2 s2 r2 hr2 h2 => l.nx _ H2 _ M2 (s1.trans s2) ((en.stp (s1.trans s2)).set i r2) hr2 h2, l.ex.at en⟩

/-! ### while -/
def dWhile (t : DT) (b : DS) : DS := fun N ρ M => ∃ P : Nat → DR → DM → Prop, (∃ m, P m ρ M) ∧ ∀ m ρ M, P m ρ M →
  t ρ M (fun c M1 => if c = true then b { N with nx := fun ρ' M' => ∃ m', m' < m ∧ P m' ρ' M', ct := fun ρ' M' => ∃ m', m' < m ∧ P m' ρ' M', bk := N.nx } ρ M1 else N.nx ρ M1) fun x M1 => N.ex x ρ M1
theorem dz_while {c : Expr} {body : List Stmt} (hp : PassesOwn (model X.prog X.w) X.A X.env X.xe) (hc : PT X c (uT X.K W ta)) (hb : PSs X body (uS X.K W db)) : PS X (.While c body [] pos) (uS X.K W (dWhile ta db)) :=
  ps_imp (ps_while hp hc hb) fun E σ H ⟨ρ, M, N, en, hr, ⟨P, ⟨m, hm⟩, turn⟩, l⟩ => by
    refine ⟨fun m σ' H' => ∃ ρ' M', Stp X.K H M H' M' ∧ En X.K H' M' σ' ρ' ∧ HR X.K H' M' ∧ P m ρ' M', ⟨m, ρ, M, .refl, en, hr, hm⟩, ?_⟩
    rintro m σ' H' ⟨ρ', M', s, en', hr', hP⟩
    refine ⟨ρ', M', _, _, en', hr', turn m ρ' M' hP, fun c H2 M2 s2 hr2 q => ?_, (l.ex.stp s).at en'⟩
    have s3 := s.trans s2
    cases c with
    | false => exact l.nx _ _ _ _ s3 (en'.stp s2) hr2 q
    | true =>
      refine ⟨fun σ3 H3 => ∃ m', m' < m ∧ ∃ ρ3 M3, Stp X.K H M H3 M3 ∧ En X.K H3 M3 σ3 ρ3 ∧ HR X.K H3 M3 ∧ P m' ρ3 M3, fun _ _ z => z, ρ', M2, _, en'.stp s2, hr2, q, ?_⟩
      have lk : LdS X.K H2 M2 (fun ρ' M' => ∃ m', m' < m ∧ P m' ρ' M') fun σ3 H3 => ∃ m', m' < m ∧ ∃ ρ3 M3, Stp X.K H M H3 M3 ∧ En X.K H3 M3 σ3 ρ3 ∧ HR X.K H3 M3 ∧ P m' ρ3 M3 :=
        fun σ4 H4 ρ4 M4 s4 en4 hr4 ⟨m', lt, p⟩ => ⟨m', lt, ρ4, M4, s3.trans s4, en4, hr4, p⟩
      exact ⟨lk, l.rt.stp s3, l.nx.stp s3, lk, l.ex.stp s3⟩

/-! ### for -/
/-- what is walked: its items, and what must stay true of the data heap meanwhile -/
abbrev DI := DR → DM → (List D → (DM → Prop) → DM → Prop) → DX → Prop
def ItOk (K : PySem.W.Frag) (J : It) (H0 : Hp) (M0 : DM) (ds : List D) (chk : DM → Prop) : Prop := ∀ i H M, Stp K H0 M0 H M → HR K H M → chk M →
  (ds.length = i → J.stop i H) ∧ ∀ d, ds[i]? = some d → J.go i H ∧ ∀ x H', J.yld i H x H' → Stp K H M H' M ∧ HR K H' M ∧ R K H' M x d
def uI (K : PySem.W.Frag) (W : WX) (di : DI) : TI := fun σ H Rr => ∃ ρ M Qd Xd, En K H M σ ρ ∧ HR K H M ∧ di ρ M Qd Xd ∧ (∀ H' M' ds chk J, Stp K H M H' M' → HR K H' M' → ItOk K J H' M' ds chk → Qd ds chk M' → Rr J H') ∧ LdX K H M Xd fun c od H' => W c od σ H'
def dLoop (g : DG) (b : DS) (chk : DM → Prop) (N : DN) : List D → DR → DM → Prop
  | [], ρ, M => chk M ∧ N.nx ρ M
  | d :: ds, ρ, M => chk M ∧ g d ρ M (fun ρ1 M1 => b { N with nx := dLoop g b chk N ds, ct := dLoop g b chk N ds, bk := N.nx } ρ1 M1) N.ex
def dFor (di : DI) (g : DG) (b : DS) : DS := fun N ρ M => di ρ M (fun ds chk M1 => dLoop g b chk N ds ρ M1) fun x M1 => N.ex x ρ M1
theorem dLoop_chk {g : DG} {b : DS} {chk : DM → Prop} {N : DN} {ds : List D} {ρ : DR} {M : DM} (h : dLoop g b chk N ds ρ M) : chk M := by
  cases ds with
  | nil => exact h.1
  | cons d ds => exact h.1
theorem drop_of {α : Type} : ∀ {l : List α} {i : Nat} {d : α}, l[i]? = some d → l.drop i = d :: l.drop (i + 1)
  | [], _, _, h => by simp at h
  | a :: l, 0, d, h => by simp at h; subst h; rfl
  | a :: l, i + 1, d, h => by
    rw [List.drop_succ_cons, List.drop_succ_cons]
    exact drop_of (by simpa using h)
theorem dz_for {tg iter : Expr} {body : List Stmt} {di : DI} {g : DG} (hp : PassesOwn (model X.prog X.w) X.A X.env X.xe) (hc : X.calm = true) (hi : PI X tg iter (uI X.K W di)) (hg : PG X tg (uG X.K W g)) (hb : PSs X body (uS X.K W db))
    (hs : ∀ x, foldedSetIterable iter X.env x = pure x := by intro _; exact rfl) : PS X (.For tg iter body [] pos) (uS X.K W (dFor di g db)) :=
  ps_imp (ps_for hp hc hi hg hb hs) fun E σ H ⟨ρ, M, N, en, hr, h, l⟩ => by
    refine ⟨ρ, M, _, _, en, hr, h, fun H1 M1 ds chk J s1 hr1 ok h1 => ?_, l.ex.at en⟩
    refine ⟨fun i m σ' H' => ∃ ρ' M', m + i = ds.length ∧ Stp X.K H1 M1 H' M' ∧ En X.K H' M' σ' ρ' ∧ HR X.K H' M' ∧ dLoop g db chk N (ds.drop i) ρ' M', ⟨ds.length, ρ, M1, rfl, .refl, en.stp s1, hr1, h1⟩, ?_⟩
    rintro i m σ' H' ⟨ρ', M', em, s', en', hr', h'⟩
    obtain ⟨stop, go⟩ := ok i H' M' s' hr' (dLoop_chk h')
    have s3 := s1.trans s'
    cases m with
    | zero =>
      refine .inl ⟨stop (by omega), ?_⟩
      rw [List.drop_of_length_le (by omega)] at h'
      exact l.nx _ _ _ _ s3 en' hr' h'.2
    | succ m =>
      have lt : i < ds.length := by omega
      have hd := List.getElem?_eq_getElem lt
      obtain ⟨g1, g2⟩ := go _ hd
      rw [drop_of hd] at h'
      refine .inr ⟨g1, fun σ4 H4 => ∃ ρ4 M4, Stp X.K H1 M1 H4 M4 ∧ En X.K H4 M4 σ4 ρ4 ∧ HR X.K H4 M4 ∧ dLoop g db chk N (ds.drop (i + 1)) ρ4 M4, fun σ4 H4 ⟨ρ4, M4, s4, en4, hr4, h4⟩ => ⟨m, Nat.lt_succ_self m, ρ4, M4, by omega, s4, en4, hr4, h4⟩, fun x H2 hy => ?_⟩
      obtain ⟨s2, hr2, rx⟩ := g2 x H2 hy
      have s5 := s3.trans s2
      refine ⟨ρ', M', _, _, N.ex, en'.stp s2, hr2, rx, h'.2, fun σ6 H6 ρ6 M6 s6 en6 hr6 h6 => ?_, l.ex.stp s5⟩
      have lk : LdS X.K H6 M6 (dLoop g db chk N (ds.drop (i + 1))) fun σ4 H4 => ∃ ρ4 M4, Stp X.K H1 M1 H4 M4 ∧ En X.K H4 M4 σ4 ρ4 ∧ HR X.K H4 M4 ∧ dLoop g db chk N (ds.drop (i + 1)) ρ4 M4 :=
        fun σ7 H7 ρ7 M7 s7 en7 hr7 h7 => ⟨ρ7, M7, ((s'.trans s2).trans s6).trans s7, en7, hr7, h7⟩
      exact ⟨ρ6, M6, _, en6, hr6, h6, lk, l.rt.stp (s5.trans s6), l.nx.stp (s5.trans s6), lk, l.ex.stp (s5.trans s6)⟩
end
end DL

set_option Elab.async false
set_option linter.all false
set_option maxRecDepth 100000
set_option maxHeartbeats 4000000
namespace DL
open PySem PySem.Spec L2
section
variable {X : Cx} {W : WX} {e : Expr} {de : DE} {dag : DA} {pos : Pos} {tg : Expr}
theorem pi_imp {iter : Expr} {t t' : TI} (h : PI X tg iter t) (i : ∀ σ H R, t' σ H R → t σ H R) : PI X tg iter t' := ⟨fun pins s σ H R I q => h.run pins s σ H R I (i σ H R q)⟩
/-- a list, a tuple, a text -/
def iSq (K : PySem.W.Frag) (te : TE) : TI := fun σ H Rr => te σ H fun v H1 => (∃ a xs, v = .ref a ∧ SqL K H1 a xs ∧ Rr (Itl K a) H1) ∨ (∃ a xs, v = .ref a ∧ SqT K H1 a xs ∧ Rr (Itt K a) H1) ∨ ∃ z, v = .str z ∧ Rr (Its z) H1
theorem pi_sq {te : TE} (he : PE X e te) : PI X tg e (iSq X.K te) := by
  constructor
  intro pins s σ H Rr I h
  refine thn (he.run pins s σ H _ I h) ?_
  rintro v s1 ⟨y, H1, I1, r1, q⟩
  rcases q with ⟨a, xs, rfl, sq, q⟩ | ⟨a, xs, rfl, sq, q⟩ | ⟨z, rfl, q⟩
  · cases r1
    obtain ⟨its, _, p, _⟩ := I1.list sq
    exact wpAny_pyIter_list p.isList (pi_one (tk := s1.toks) I1 _ (turn_list a _) ⟨_, Heap.get?_push_size _ rfl, rfl, rfl⟩ q)
  · cases r1
    obtain ⟨its, _, p, _⟩ := I1.tuple sq
    exact wpAny_pyIter_tuple (show s1.heap.IsTuple a its.toArray from p) (pi_one (tk := s1.toks) I1 _ (turn_tuple a _) ⟨_, Heap.get?_push_size _ rfl, rfl, rfl⟩ q)
  · obtain ⟨t, rfl⟩ := r1
    cases hz : z.cps.all (· < 128) with
    | false => exact wpAny_pyIter_wide hz (pi_one (tk := s1.toks) I1 _ (turn_str _ z t _ (.inr rfl)) ⟨_, Heap.get?_push_size _ rfl, rfl, rfl⟩ q)
    | true => exact wpAny_pyIter_ascii hz (pi_one (tk := s1.toks) I1 _ (turn_str _ z t _ (.inl rfl)) ⟨_, Heap.get?_push_size _ rfl, rfl, rfl⟩ q)
def chars (x : Str) : List D := x.cps.toList.map fun c => D.str ⟨#[c]⟩
def items (M : DM) (d : D) (k : List D → (DM → Prop) → Prop) : Prop := match d with
  | .str x => k (chars x) fun _ => True
  | .tup ds => k ds fun _ => True
  | .lst ds => k ds fun _ => True
  | .seq ds => k ds fun _ => True
  | .ref a => match M a with
    | some (.lst ds) => k ds fun M' => M' a = some (.lst ds)
    | _ => False
  | _ => False
theorem itL {K : PySem.W.Frag} {H0 : Hp} {M0 : DM} {a : Addr} {ds : List D} {chk : DM → Prop} (h : ∀ H M, Stp K H0 M0 H M → HR K H M → chk M → ∃ xs, SqL K H a xs ∧ RA K H M xs ds) : ItOk K (Itl K a) H0 M0 ds chk := by
  intro i H M s hr hc
  obtain ⟨xs, sq, ra⟩ := h H M s hr hc
  refine ⟨fun e => ⟨xs, sq, by rw [ra.len]; omega⟩, fun d hd => ?_⟩
  obtain ⟨x, hx, rx⟩ := ra.get hd
  refine ⟨⟨xs, x, sq, hx⟩, fun y H' ⟨e1, e2⟩ => ?_⟩
  have e3 := e2 xs sq
  rw [hx] at e3
  cases e3
  subst e1
  exact ⟨.refl, hr, rx⟩
theorem itT {K : PySem.W.Frag} {H0 : Hp} {M0 : DM} {a : Addr} {xs : List V} {ds : List D} (sq : SqT K H0 a xs) (ra : RA K H0 M0 xs ds) : ItOk K (Itt K a) H0 M0 ds fun _ => True := by
  intro i H M s hr _
  refine ⟨fun e => ⟨xs, s.t a xs sq, by rw [ra.len]; omega⟩, fun d hd => ?_⟩
  obtain ⟨x, hx, rx⟩ := (ra.stp s).get hd
  refine ⟨⟨xs, x, s.t a xs sq, hx⟩, fun y H' ⟨e1, e2⟩ => ?_⟩
  have e3 := e2 xs (s.t a xs sq)
  rw [hx] at e3
  cases e3
  subst e1
  exact ⟨.refl, hr, rx⟩
theorem itS {K : PySem.W.Frag} {H0 : Hp} {M0 : DM} {z : Str} : ItOk K (Its z) H0 M0 (chars z) fun _ => True := by
  intro i H M s hr _
  refine ⟨fun e => ?_, fun d hd => ?_⟩
  · unfold chars at e
    rw [List.length_map, Array.length_toList] at e
    exact Nat.le_of_eq e
  · unfold chars at hd
    rw [List.getElem?_map] at hd
    cases q : z.cps.toList[i]? with
    | none => rw [q] at hd; cases hd
    | some c =>
      rw [q] at hd
      cases hd
      have q2 : z.cps[i]? = some c := by simpa using q
      refine ⟨?_, fun y H' ⟨e1, c', e2, e3⟩ => ?_⟩
      · show i < z.cps.size
        obtain ⟨l, _⟩ := Array.getElem?_eq_some_iff.mp q2
        exact l
      · rw [q2] at e2
        cases e2
        subst e1 e3
        exact ⟨.refl, hr, R.strI⟩
def diSq (de : DE) : DI := fun ρ M Q Xd => de ρ M (fun d M1 => items M1 d fun ds chk => Q ds chk M1) Xd
theorem di_sq (he : PE X e (uE X.K W de)) : PI X tg e (uI X.K W (diSq de)) := pi_imp (pi_sq he) fun σ H Rr ⟨ρ, M, Qd, Xd, en, hr, h, q, x⟩ => ⟨ρ, M, _, Xd, en, hr, h, fun v H1 d M1 s1 r1 hr1 h1 => by
  cases d with
  | str z =>
    unfold R at r1
    exact .inr (.inr ⟨z, r1, q H1 M1 _ _ _ s1 hr1 itS h1⟩)
  | tup ds =>
    unfold R at r1
    obtain ⟨a, xs, e, sq, ra⟩ := r1
    exact .inr (.inl ⟨a, xs, e, sq, q H1 M1 _ _ _ s1 hr1 (itT sq ra) h1⟩)
  | lst ds =>
    unfold R at r1
    obtain ⟨a, xs, e, sq, m, ra⟩ := r1
    exact .inl ⟨a, xs, e, SqL.of sq, q H1 M1 _ (fun _ => True) _ s1 hr1 (itL fun H' M' s' hr' _ => ⟨xs, SqL.of (s'.l a xs sq m).1, ra.stp s'⟩) h1⟩
  | seq ds =>
    unfold R at r1
    obtain ⟨a, xs, e, sq, ra⟩ := r1
    refine .inl ⟨a, xs, e, sq.elim (fun ⟨o, z⟩ => .inl (.inr ⟨o, z⟩)) fun z => z H1, q H1 M1 _ (fun _ => True) _ s1 hr1 (itL fun H' M' s' hr' _ => ⟨xs, ?_, ra.stp s'⟩) h1⟩
    exact sq.elim (fun ⟨o, z⟩ => .inl (.inr ⟨o, s'.f a o _ z⟩)) fun z => z H'
  | ref a =>
    unfold R at r1
    unfold items at h1
    cases e : M1 a with
    | none => simp [e] at h1
    | some o =>
      cases o with
      | lst ds =>
        simp only [e] at h1
        obtain ⟨_, xs, h2, h3⟩ := hr1 a _ e
        exact .inl ⟨a, xs, r1, SqL.of h2, q H1 M1 _ _ _ s1 hr1 (itL (chk := fun M' => M' a = some (.lst ds)) fun H' M' s' hr' hc => let ⟨_, ys, h4, h5⟩ := hr' a _ hc; ⟨ys, SqL.of h4, h5⟩) h1⟩
      | ins C fs => simp [e] at h1
      | dct ks kvs => simp [e] at h1
  | _ => exact h1.elim, x⟩

/-- range(n), range(a, b) -/
def rangeD (lo : Int) (n : Nat) : List D := (List.range n).map fun (i : Nat) => D.int (lo + i)
theorem itR {K : PySem.W.Frag} {H0 : Hp} {M0 : DM} {lo : Int} {n : Nat} : ItOk K (Itr lo n) H0 M0 (rangeD lo n) fun _ => True := by
  intro i H M s hr _
  refine ⟨fun e => ?_, fun d hd => ?_⟩
  · unfold rangeD at e
    rw [List.length_map, List.length_range] at e
    exact Nat.le_of_eq e
  · unfold rangeD at hd
    rw [List.getElem?_map] at hd
    by_cases hi : i < n
    · rw [List.getElem?_range hi] at hd
      cases hd
      refine ⟨hi, fun y H' ⟨e1, e2⟩ => ?_⟩
      subst e1 e2
      exact ⟨.refl, hr, R.intI⟩
    · rw [List.getElem?_eq_none (by rw [List.length_range]; omega)] at hd
      cases hd
def onI1 (ds : List D) (k : Int → Prop) : Prop := match ds with
  | [.int i] => k i
  | _ => False
def onI2 (ds : List D) (k : Int → Int → Prop) : Prop := match ds with
  | [.int i, .int j] => k i j
  | _ => False
theorem onI1_of {K : PySem.W.Frag} {H : Hp} {M : DM} {vs : List V} {ds : List D} {k : Int → Prop} (r : RA K H M vs ds) (h : onI1 ds k) : ∃ i, vs = [.int i] ∧ k i := by
  unfold onI1 at h
  split at h
  · rename_i i
    unfold RA at r
    obtain ⟨v, w, e, r1, r2⟩ := r
    unfold R at r1
    unfold RA at r2
    subst r1 r2
    exact ⟨i, e, h⟩
  · exact h.elim
theorem onI2_of {K : PySem.W.Frag} {H : Hp} {M : DM} {vs : List V} {ds : List D} {k : Int → Int → Prop} (r : RA K H M vs ds) (h : onI2 ds k) : ∃ i j, vs = [.int i, .int j] ∧ k i j := by
  unfold onI2 at h
  split at h
  · rename_i i j
    obtain ⟨v, w, e, r1, r2⟩ := r.two
    unfold R at r1 r2
    subst r1 r2
    exact ⟨i, j, e, h⟩
  · exact h.elim
def diR1 (dag : DA) : DI := fun ρ M Q Xd => dag ρ M (fun ds M1 => onI1 ds fun j => -(2 ^ 62) ≤ j ∧ j < 2 ^ 62 ∧ Q (rangeD 0 j.toNat) (fun _ => True) M1) Xd
def diR2 (dag : DA) : DI := fun ρ M Q Xd => dag ρ M (fun ds M1 => onI2 ds fun i j => (-(2 ^ 62) ≤ i ∧ i < 2 ^ 62 ∧ -(2 ^ 62) ≤ j ∧ j < 2 ^ 62) ∧ Q (rangeD i (j - i).toNat) (fun _ => True) M1) Xd
theorem di_r1 {a : Expr} {p pos : Pos} (hg : Gl X "range") (hm : X.mg "range" = none) (ha : PA X [a] (uA X.K W dag)) (hs : starEach [a] X.env = [(false, eval a X.env)] := by exact rfl) : PI X tg (.Call (.Name "range" p) [a] [] pos) (uI X.K W (diR1 dag)) :=
  pi_imp (pi_range1 hg hm ha hs) fun σ H Rr ⟨ρ, M, Qd, Xd, en, hr, h, q, x⟩ => ⟨ρ, M, _, Xd, en, hr, h, fun vs H1 ds M1 s1 r1 hr1 h1 => by
    obtain ⟨i, e, h2, h3, h4⟩ := onI1_of r1 h1
    exact ⟨i, e, h2, h3, q H1 M1 _ _ _ s1 hr1 itR h4⟩, x⟩
theorem di_r2 {a b : Expr} {p pos : Pos} (hg : Gl X "range") (hm : X.mg "range" = none) (ha : PA X [a, b] (uA X.K W dag)) (hs : starEach [a, b] X.env = [(false, eval a X.env), (false, eval b X.env)] := by exact rfl) (hs2 : starEach [b] X.env = [(false, eval b X.env)] := by exact rfl) :
    PI X tg (.Call (.Name "range" p) [a, b] [] pos) (uI X.K W (diR2 dag)) :=
  pi_imp (pi_range2 hg hm ha hs hs2) fun σ H Rr ⟨ρ, M, Qd, Xd, en, hr, h, q, x⟩ => ⟨ρ, M, _, Xd, en, hr, h, fun vs H1 ds M1 s1 r1 hr1 h1 => by
    obtain ⟨i, j, e, h2, h3⟩ := onI2_of r1 h1
    exact ⟨i, j, e, h2, q H1 M1 _ _ _ s1 hr1 itR h3⟩, x⟩

/-! ### list comprehensions -/
def wipeD (ρ : DR) : List Nat → DR
  | [] => ρ
  | v :: vs => (wipeD ρ vs).set v none
theorem En.wipe {K : PySem.W.Frag} {H : Hp} {M : DM} {σ : L2.St} {ρ : DR} (e : En K H M σ ρ) : ∀ vs, En K H M (wipe σ vs) (wipeD ρ vs)
  | [] => e
  | v :: vs => by
    unfold L2.wipe wipeD
    exact (En.wipe e vs).clr v
theorem wipe_at {σ : L2.St} : ∀ {vs : List Nat} {i : Nat}, (wipe σ vs)[i]? = if i ∈ vs ∧ i < σ.length then some none else σ[i]?
  | [], i => by simp [L2.wipe]
  | v :: vs, i => by
    unfold L2.wipe
    by_cases hv : v = i
    · subst hv
      by_cases hl : v < σ.length
      · rw [List.getElem?_set_self (by rw [wipe_length]; exact hl), if_pos ⟨by simp, hl⟩]
      · rw [List.getElem?_eq_none (by rw [List.length_set, wipe_length]; omega), if_neg (fun z => hl z.2), List.getElem?_eq_none (by omega)]
    · rw [List.getElem?_set_ne hv, wipe_at]
      have : (i ∈ vs ∧ i < σ.length) ↔ (i ∈ v :: vs ∧ i < σ.length) := by
        rw [List.mem_cons]
        constructor
        · exact fun z => ⟨.inr z.1, z.2⟩
        · rintro ⟨z | z, l⟩
          · exact absurd z.symm hv
          · exact ⟨z, l⟩
      by_cases c : i ∈ vs ∧ i < σ.length
      · rw [if_pos c, if_pos (this.mp c)]
      · rw [if_neg c, if_neg fun z => c (this.mpr z)]
theorem wipe_eq {σ σ' : L2.St} {vs : List Nat} (hl : σ'.length = σ.length) (h : ∀ i, i ∉ vs → σ'[i]? = σ[i]?) : wipe σ' vs = wipe σ vs := by
  apply List.ext_getElem?
  intro i
  rw [wipe_at, wipe_at, hl]
  by_cases c : i ∈ vs ∧ i < σ.length
  · rw [if_pos c, if_pos c]
  · rw [if_neg c, if_neg c]
    by_cases hi : i ∈ vs
    · have : ¬ i < σ.length := fun z => c ⟨hi, z⟩
      rw [List.getElem?_eq_none (by omega), List.getElem?_eq_none (by omega)]
    · exact h i hi
theorem wipe_idem {σ : L2.St} {vs : List Nat} : wipe (wipe σ vs) vs = wipe σ vs := wipe_eq (wipe_length _ _) fun i hi => by
  rw [wipe_at, if_neg fun z => hi z.1]
/-- a target whose names are the block's own -/
structure BG (K : PySem.W.Frag) (vs : List Nat) (g : TG) (bind : D → DR → DM → (DR → Prop) → Prop) : Prop where
  run : ∀ x σ H ρ M d k (Q : L2.St → Hp → Prop), En K H M σ ρ → HR K H M → R K H M x d → bind d ρ M k → (∀ σ2 ρ2, σ2.length = σ.length → (∀ i, i ∉ vs → σ2[i]? = σ[i]?) → En K H M σ2 ρ2 → k ρ2 → Q σ2 H) → g x σ H Q
def bName (j : Nat) : D → DR → DM → (DR → Prop) → Prop := fun d ρ _ k => k (ρ.set j (some d))
theorem bg_name {K : PySem.W.Frag} {vs : List Nat} {j : Nat} (h : vs.contains j = true) : BG K vs (gName j) (bName j) := ⟨fun x σ H ρ M d k Q en hr r hb hq => by
  refine hq _ _ (List.length_set) (fun i hi => List.getElem?_set_ne fun z => hi ?_) (en.set j r) hb
  rw [← z]
  simpa using h⟩
def bNames : List Nat → List D → DR → (DR → Prop) → Prop
  | [], [], ρ, k => k ρ
  | j :: js, d :: ds, ρ, k => bNames js ds (ρ.set j (some d)) k
  | _, _, _, _ => False
def bSeq (js : List Nat) : D → DR → DM → (DR → Prop) → Prop := fun d ρ M k => onSeq M d fun ds => bNames js ds ρ k
def gNames : List Nat → TGs
  | [] => gNil
  | j :: js => gCons (gName j) (gNames js)
theorem bNames_len : ∀ {js : List Nat} {ds : List D} {ρ : DR} {k : DR → Prop}, bNames js ds ρ k → ds.length = js.length
  | [], [], _, _, _ => rfl
  | j :: js, d :: ds, ρ, k, h => by
    rw [List.length_cons, List.length_cons, bNames_len (js := js) h]
theorem gNames_ok {K : PySem.W.Frag} {vs : List Nat} {H : Hp} {M : DM} {k : DR → Prop} {Q : L2.St → Hp → Prop} : ∀ {js : List Nat} {ds : List D} {xs : List V} {σ : L2.St} {ρ : DR}, (∀ j ∈ js, j ∈ vs) → En K H M σ ρ → RA K H M xs ds → bNames js ds ρ k →
    (∀ σ2 ρ2, σ2.length = σ.length → (∀ i, i ∉ vs → σ2[i]? = σ[i]?) → En K H M σ2 ρ2 → k ρ2 → Q σ2 H) → gNames js xs σ H Q
  | [], [], xs, σ, ρ, _, en, r, hb, hq => by
    unfold RA at r
    exact ⟨r, hq σ ρ rfl (fun _ _ => rfl) en hb⟩
  | j :: js, d :: ds, xs, σ, ρ, hj, en, r, hb, hq => by
    unfold RA at r
    obtain ⟨v, xr, e, r1, r2⟩ := r
    refine ⟨v, xr, e, ?_⟩
    refine gNames_ok (fun i hi => hj i (List.mem_cons_of_mem _ hi)) (en.set j r1) r2 hb fun σ2 ρ2 hl ho en2 hk => hq σ2 ρ2 (hl.trans List.length_set) (fun i hi => (ho i hi).trans (List.getElem?_set_ne fun z => hi (by rw [← z]; exact hj j List.mem_cons_self))) en2 hk
theorem bg_seq {K : PySem.W.Frag} {vs js : List Nat} {n : Nat} (h : js.all (fun j => vs.contains j) = true) (hn : js.length = n) : BG K vs (fun v σ H Q => gTup K n (gNames js) v σ H Q ∨ gUnl K n (gNames js) v σ H Q) (bSeq js) := ⟨fun x σ H ρ M d k Q en hr r hb hq => by
  obtain ⟨a, xs, ds, e, sq, ra, hb⟩ := onSeq_of hr r hb
  have hj : ∀ j ∈ js, j ∈ vs := fun j hj => by simpa using List.all_eq_true.mp h j hj
  have q := gNames_ok (Q := Q) hj en ra hb hq
  have hl : xs.length = n := by rw [ra.len, bNames_len hb]; exact hn
  rcases sq with sq | sq
  · exact .inr ⟨a, xs, e, sq, hl, q⟩
  · exact .inl ⟨a, xs, e, sq, hl, q⟩⟩
def X0 : DX := fun _ _ => False
abbrev W0 : WX := fun _ _ _ _ => False
def dCL (bind : D → DR → DM → (DR → Prop) → Prop) (t : DT) (de : DE) (chk : DM → Prop) (ρw : DR) : List D → List D → DM → DK → Prop
  | [], acc, M, Q => chk M ∧ Q (.lst acc) M
  | d :: ds, acc, M, Q => chk M ∧ bind d ρw M fun ρ1 => t ρ1 M (fun b M2 => if b = true then de ρ1 M2 (fun y M3 => noL y = true ∧ dCL bind t de chk ρw ds (acc ++ [y]) M3 Q) X0 else dCL bind t de chk ρw ds acc M2 Q) X0
def dComp (di : DI) (bind : D → DR → DM → (DR → Prop) → Prop) (t : DT) (de : DE) (vs : List Nat) : DE := fun ρ M Q Xd => di ρ M (fun ds chk M1 => ds.length ≤ sizeLine ∧ dCL bind t de chk (wipeD ρ vs) ds [] M1 Q) Xd
theorem dCL_chk {bind : D → DR → DM → (DR → Prop) → Prop} {t : DT} {de : DE} {chk : DM → Prop} {ρw : DR} {ds acc : List D} {M : DM} {Q : DK} (h : dCL bind t de chk ρw ds acc M Q) : chk M := by
  cases ds with
  | nil => exact h.1
  | cons d ds => exact h.1
theorem comp_in {bind : D → DR → DM → (DR → Prop) → Prop} {t : DT} {de : DE} {vs : List Nat} {di : DI} {g : TG} (hb : BG X.K vs g bind) (σ : L2.St) (H : Hp) (Q : VK) : uE X.K W (dComp di bind t de vs) σ H Q → tLc (uI X.K W di) g (uT X.K W0 t) (uE X.K W0 de) vs σ H Q := by
  rintro ⟨ρ, M, Qd, Xd, en, hr, h, q, x⟩
  refine ⟨ρ, M, _, Xd, en, hr, h, fun H1 M1 ds chk J s1 hr1 ok ⟨hz, h1⟩ => ?_, x⟩
  intro L hL
  have hML : M1 L = none := hr1.none hL
  have enw := (en.stp s1).wipe vs
  have s2 := Stp.new (o := .lst []) hL hr1
  refine ⟨fun i m H' => ∃ acc da M', m + i = ds.length ∧ acc.length ≤ i ∧ Stp X.K H1 M1 H' M' ∧ H' L = some (.lst acc) ∧ M' L = none ∧ noLs da = true ∧ RA X.K H' M' acc da ∧ HR X.K H' M' ∧ dCL bind t de chk (wipeD ρ vs) (ds.drop i) da M' Qd, ⟨ds.length, [], [], M1, rfl, Nat.le_refl _, s2.1, upd_same, hML, noLs_nil, RA.nil, s2.2, h1⟩, ?_⟩
  rintro i m H' ⟨acc, da, M', em, hlen, s', hL', hM', nl, ra, hr', h'⟩
  obtain ⟨stop, go⟩ := ok i H' M' s' hr' (dCL_chk h')
  cases m with
  | zero =>
    refine .inl ⟨stop (by omega), ?_⟩
    rw [List.drop_of_length_le (by omega)] at h'
    refine q (.ref L) H' (.lst da) M' (s1.trans s') ?_ hr' h'.2
    unfold R
    exact ⟨L, acc, rfl, hL', hM', ra⟩
  | succ m =>
    have lt : i < ds.length := by omega
    have hd := List.getElem?_eq_getElem lt
    obtain ⟨g1, g2⟩ := go _ hd
    rw [drop_of hd] at h'
    refine .inr ⟨g1, fun H4 => ∃ acc da M4, acc.length ≤ i + 1 ∧ Stp X.K H1 M1 H4 M4 ∧ H4 L = some (.lst acc) ∧ M4 L = none ∧ noLs da = true ∧ RA X.K H4 M4 acc da ∧ HR X.K H4 M4 ∧ dCL bind t de chk (wipeD ρ vs) (ds.drop (i + 1)) da M4 Qd,
      fun H4 ⟨acc, da, M4, a1, a2, a3, a4, a5, a6, a7, a8⟩ => ⟨m, Nat.lt_succ_self m, acc, da, M4, by omega, a1, a2, a3, a4, a5, a6, a7, a8⟩, fun y H2 hy => ?_⟩
    obtain ⟨s3, hr3, ry⟩ := g2 y H2 hy
    have s4 := s'.trans s3
    refine hb.run y _ H2 _ M' _ _ _ (enw.stp s4) hr3 ry h'.2 fun σ2 ρ2 hl ho en2 hk => ⟨?_, ?_⟩
    · exact (wipe_eq hl ho).trans wipe_idem
    · refine ⟨ρ2, M', _, X0, en2, hr3, hk, fun b H5 M5 s5 hr5 h5 => ?_, fun _ _ _ _ _ _ _ _ z => z⟩
      have hL5 := (s3.trans s5).l L acc hL' hM'
      cases b with
      | false => exact ⟨acc, da, M5, by omega, s4.trans s5, hL5.1, hL5.2, nl, ra.stp (s3.trans s5), hr5, h5⟩
      | true =>
        refine ⟨ρ2, M5, _, X0, en2.stp s5, hr5, h5, fun v H6 dv M6 s6 rv hr6 ⟨nv, h6⟩ => ?_, fun _ _ _ _ _ _ _ _ z => z⟩
        have s7 := (s3.trans s5).trans s6
        have hL6 := s7.l L acc hL' hM'
        have tt : ∀ a xs, SqT X.K H6 a xs → SqT X.K (upd H6 L (.lst (acc ++ [v]))) a xs := sqT_upd fun xs z => by
          rcases z with z | ⟨o, z⟩ <;> (rw [hL6.1] at z; cases z)
        have s8 : Stp X.K H1 M1 H6 M6 := s'.trans s7
        have ne : ∀ {a o}, H1 a = some o → a ≠ L := fun ha => ne_of_none ha hL
        refine ⟨acc, hL6.1, Nat.lt_of_le_of_lt hlen (Nat.lt_of_lt_of_le lt hz), acc ++ [v], da ++ [dv], M6, by rw [List.length_append]; simp; omega, ⟨fun a xs z => tt a xs (s8.t a xs z), fun a xs z0 z z2 => ?_, fun a fs z => ?_, fun a o u z => ?_⟩, upd_same, hL6.2, ?_, ?_, fun a o z => ?_, h6⟩
        · have z3 := s8.g a xs z0 z z2
          exact ⟨by rw [upd_ne (ne z)]; exact z3.1, z3.2⟩
        · rw [upd_ne (ne z)]
          exact s8.x a fs z
        · rw [upd_ne (ne z)]
          exact s8.f a o u z
        · rw [noLs_app, nl, noLs_cons, nv, noLs_nil] <;> rfl
        · exact ((ra.stp s7).flat tt nl).snoc (rv.flat tt nv)
        · refine (hr6 a o z).flat tt (upd_ne fun z2 => ?_)
          rw [z2, hL6.2] at z
          cases z
/-- one test, or none -/
def dYes : DT := fun _ M Q _ => Q true M
theorem dt_nil {Xb : Cx} : PTs Xb [] (uT Xb.K W0 dYes) := ⟨fun pins s σ H Q I ⟨ρ, M, Qd, Xd, en, hr, h, q, x⟩ => pts_nil.run pins s σ H Q I (q true H M .refl hr h)⟩
variable {elt iter : Expr} {ifs : List Expr} {scope : Scope} {own : List (Str × Nat)} {bind : D → DR → DM → (DR → Prop) → Prop} {t : DT} {di : DI} {g : TG} {vs : List Nat}
theorem dd_lc (hc : X.calm = true) (hN : X.N.Nodup) (hi : PI X tg iter (uI X.K W di)) (ok : BlkOk X.N X.env.scope scope own) (hv : own.map (·.2) = vs) (hb : BG X.K vs g bind)
    (hg : ∀ (s : Shared) (H : Hp) (C : Addr) (cl : List (Str × Addr)) (fp : List Addr), PG (X.blk s H scope (compEnvC scope cl C X.env) fp) tg g) (ht : ∀ (s : Shared) (H : Hp) (C : Addr) (cl : List (Str × Addr)) (fp : List Addr), PTs (X.blk s H scope (compEnvC scope cl C X.env) fp) ifs (uT X.K W0 t))
    (he : ∀ (s : Shared) (H : Hp) (C : Addr) (cl : List (Str × Addr)) (fp : List Addr), PE (X.blk s H scope (compEnvC scope cl C X.env) fp) elt (uE X.K W0 de)) (hs : ∀ x, foldedSetIterable iter X.env x = pure x := by intro _; exact rfl) :
    PE X (.ListComp elt [⟨tg, iter, ifs, 0⟩] scope pos) (uE X.K W (dComp di bind t de vs)) := by
  subst hv
  exact pe_imp (pe_lc hc hN hi ok hg ht he hs) (comp_in hb)
theorem dz_setLc {i : Nat} {y : Str} {py pos spos : Pos} (hc : X.calm = true) (hN : X.N.Nodup) (hy : X.N[i]? = some y) (hyl : X.env.scope.names.lookup y = some .local)
    (hsw : swapsWith (.ListComp elt [⟨tg, iter, ifs, 0⟩] scope pos) (some (.Name y py)) spos.line X.env = pure true) (hi : PI X tg iter (uI X.K W di)) (ok : BlkOk X.N X.env.scope scope own) (hv : own.map (·.2) = vs) (hb : BG X.K vs g bind)
    (hg : ∀ (s : Shared) (H : Hp) (C : Addr) (cl : List (Str × Addr)) (fp : List Addr), PG (X.blk s H scope (compEnvC scope cl C X.env) fp) tg g) (ht : ∀ (s : Shared) (H : Hp) (C : Addr) (cl : List (Str × Addr)) (fp : List Addr), PTs (X.blk s H scope (compEnvC scope cl C X.env) fp) ifs (uT X.K W0 t))
    (he : ∀ (s : Shared) (H : Hp) (C : Addr) (cl : List (Str × Addr)) (fp : List Addr), PE (X.blk s H scope (compEnvC scope cl C X.env) fp) elt (uE X.K W0 de)) (hs : ∀ x, foldedSetIterable iter X.env x = pure x := by intro _; exact rfl) :
    PS X (.Assign [.Name y py] (.ListComp elt [⟨tg, iter, ifs, 0⟩] scope pos) spos) (uS X.K W (dSet (dComp di bind t de vs) i)) := by
  subst hv
  exact ps_imp (ps_setLc hc hN hy hyl hsw hi ok hg ht he hs) fun D σ H ⟨ρ, M, N, en, hr, h, l⟩ =>
    comp_in hb σ H _ ⟨ρ, M, _, _, en, hr, h, fun v H1 d M1 s1 r1 hr1 h1 => l.nx _ H1 _ M1 s1 ((en.stp s1).set i r1) hr1 h1, l.ex.at en⟩
end
end DL

set_option Elab.async false
set_option linter.all false
set_option maxRecDepth 100000
set_option maxHeartbeats 4000000
namespace DL
open PySem PySem.Spec L2
section
variable {K : PySem.W.Frag} {H : Hp} {M : DM} {v w : V} {x y : D} {X : Cx} {W : WX}
theorem R.int_v {i : Int} (r : R K H M v (.int i)) : v = .int i := by unfold R at r; exact r
theorem R.str_v {i : Str} (r : R K H M v (.str i)) : v = .str i := by unfold R at r; exact r
theorem R.bl_v {i : Bool} (r : R K H M v (.bl i)) : v = .bl i := by unfold R at r; exact r
theorem R.ref_v {i : Addr} (r : R K H M v (.ref i)) : v = .ref i := by unfold R at r; exact r
theorem R.tup_v {ds : List D} (r : R K H M v (.tup ds)) : ∃ a xs, v = .ref a ∧ SqT K H a xs ∧ RA K H M xs ds := by unfold R at r; exact r
theorem R.lst_v {ds : List D} (r : R K H M v (.lst ds)) : ∃ a xs, v = .ref a ∧ H a = some (.lst xs) ∧ M a = none ∧ RA K H M xs ds := by unfold R at r; exact r
theorem R.seq_v {ds : List D} (r : R K H M v (.seq ds)) : ∃ a xs, v = .ref a ∧ SqL K H a xs ∧ RA K H M xs ds := by
  unfold R at r
  obtain ⟨a, xs, e, t, q⟩ := r
  exact ⟨a, xs, e, t.elim (fun ⟨o, z⟩ => .inl (.inr ⟨o, z⟩)) fun z => z H, q⟩
theorem R.tupI {a : Addr} {xs : List V} {ds : List D} (h : SqT K H a xs) (r : RA K H M xs ds) : R K H M (.ref a) (.tup ds) := by unfold R; exact ⟨a, xs, rfl, h, r⟩

/-! ### ints -/
def iF (C : Int → Int → Prop) (g : Int → Int → D) : F2 := fun x y M Q => match x, y with
  | .int i, .int j => C i j ∧ Q (g i j) M
  | _, _ => False
theorem ov_int {C : Int → Int → Prop} {g : Int → Int → V} {gd : Int → Int → D} (h : ∀ i j H M, R K H M (g i j) (gd i j)) : OpV K (rI C g) (iF C gd) := by
  intro H M v w x y Q Qd hr rx ry h1 q
  unfold iF at h1
  split at h1
  · exact ⟨_, _, rx.int_v, ry.int_v, h1.1, q _ H _ M .refl (h _ _ _ _) hr h1.2⟩
  · exact h1.elim
def CT : Int → Int → Prop := fun _ _ => True
theorem ov_int0 {g : Int → Int → V} {gd : Int → Int → D} (h : ∀ i j H M, R K H M (g i j) (gd i j)) : OpV K (rI0 g) (iF CT gd) := by
  intro H M v w x y Q Qd hr rx ry h1 q
  unfold iF at h1
  split at h1
  · exact ⟨_, _, rx.int_v, ry.int_v, q _ H _ M .refl (h _ _ _ _) hr h1.2⟩
  · exact h1.elim
abbrev subF : F2 := iF CT fun i j => .int (i - j)
abbrev fdivF : F2 := iF CDivW fun i j => .int (i / j)
abbrev modF : F2 := iF (fun _ j => 0 < j) fun i j => .int (i % j)
abbrev powF : F2 := iF CPow fun i j => .int (i ^ j.toNat)
abbrev ltF : F2 := iF CT fun i j => .bl (decide (i < j))
abbrev leF : F2 := iF CT fun i j => .bl (decide (i ≤ j))
abbrev gtF : F2 := iF CT fun i j => .bl (decide (j < i))
abbrev geF : F2 := iF CT fun i j => .bl (decide (j ≤ i))
theorem ov_sub : OpV K (rI0 fun i j => .int (i - j)) subF := ov_int0 fun _ _ _ _ => R.intI
theorem ov_fdiv : OpV K (rI CDivW fun i j => .int (i / j)) fdivF := ov_int fun _ _ _ _ => R.intI
theorem ov_mod : OpV K (rI (fun _ j => 0 < j) fun i j => .int (i % j)) modF := ov_int fun _ _ _ _ => R.intI
theorem ov_pow : OpV K (rI CPow fun i j => .int (i ^ j.toNat)) powF := ov_int fun _ _ _ _ => R.intI
theorem ov_lt : OpV K (rI0 fun i j => .bl (decide (i < j))) ltF := ov_int0 fun _ _ _ _ => R.blI
theorem ov_le : OpV K (rI0 fun i j => .bl (decide (i ≤ j))) leF := ov_int0 fun _ _ _ _ => R.blI
theorem ov_gt : OpV K (rI0 fun i j => .bl (decide (j < i))) gtF := ov_int0 fun _ _ _ _ => R.blI
theorem ov_ge : OpV K (rI0 fun i j => .bl (decide (j ≤ i))) geF := ov_int0 fun _ _ _ _ => R.blI
def negF : D → DM → DK → Prop := fun x M Q => match x with
  | .int i => Q (.int (-i)) M
  | _ => False
theorem uv_neg : UnV K (rU fun i => .int (-i)) negF := by
  intro H M v x Q Qd hr rx h1 q
  unfold negF at h1
  split at h1
  · exact ⟨_, rx.int_v, q _ H _ M .refl R.intI hr h1⟩
  · exact h1.elim

/-! ### + and * of more -/
def lstM (M : DM) (d : D) : Option (List D) := match d with
  | .lst ds => some ds
  | .ref a => match M a with
    | some (.lst ds) => some ds
    | _ => none
  | _ => none
theorem lstM_of {ds : List D} (hr : HR K H M) (r : R K H M v x) (h : lstM M x = some ds) : ∃ a xs, v = .ref a ∧ H a = some (.lst xs) ∧ RA K H M xs ds := by
  unfold lstM at h
  split at h
  · cases h
    obtain ⟨a, xs, e, h1, _, h2⟩ := r.lst_v
    exact ⟨a, xs, e, h1, h2⟩
  · rename_i a
    split at h
    · rename_i es e
      cases h
      obtain ⟨_, xs, h1, h2⟩ := hr a _ e
      exact ⟨a, xs, r.ref_v, h1, h2⟩
    · cases h
  · cases h
def on2 (a b : Option (List D)) (k : List D → List D → Prop) : Prop := match a, b with
  | some x, some y => k x y
  | _, _ => False
def addF : F2 := fun x y M Q => match x, y with
  | .int i, .int j => Q (.int (i + j)) M
  | .str a, .str b => a.length + b.length ≤ sizeLine ∧ Q (.str (a ++ b)) M
  | .tup a, .tup b => a.length + b.length ≤ sizeLine ∧ Q (.tup (a ++ b)) M
  | x, y => on2 (lstM M x) (lstM M y) fun a b => a.length + b.length ≤ sizeLine ∧ Q (.lst (a ++ b)) M
def rAddS : R2 := fun x y H Q => ∃ i j, x = .str i ∧ y = .str j ∧ i.length + j.length ≤ sizeLine ∧ Q (.str (i ++ j)) H
def rAddU (K : PySem.W.Frag) : R2 := fun x y H Q => rI0 (fun i j => .int (i + j)) x y H Q ∨ DL.rAddS x y H Q ∨ rCatA K x y H Q ∨ rCat x y H Q
theorem op_addU : OpR X (binaryOp .Add) (rAddU X.K) := op_add.or (OpR.or (r := DL.rAddS) op_add_str (op_catA.or op_cat))
theorem ov_add : OpV K (rAddU K) addF := by
  intro H M v w x y Q Qd hr rx ry h1 q
  unfold addF at h1
  split at h1
  · exact .inl ⟨_, _, rx.int_v, ry.int_v, q _ H _ M .refl R.intI hr h1⟩
  · exact .inr (.inl ⟨_, _, rx.str_v, ry.str_v, h1.1, q _ H _ M .refl R.strI hr h1.2⟩)
  · obtain ⟨a, xs, e1, h2, h3⟩ := rx.tup_v
    obtain ⟨b, ys, e2, h4, h5⟩ := ry.tup_v
    refine .inr (.inr (.inl ⟨a, b, xs, ys, e1, e2, h2, h4, by rw [h3.len, h5.len]; exact h1.1, fun z => ?_, fun z z2 => ?_, fun z z2 p hp => ?_⟩))
    · have r3 := h3.app h5
      rw [z] at r3
      exact q _ H _ M .refl (R.tupI h4 r3) hr h1.2
    · have r3 := h3.app h5
      rw [z2, List.append_nil] at r3
      exact q _ H _ M .refl (R.tupI h2 r3) hr h1.2
    · obtain ⟨s, r, hr2⟩ := newTup hr hp (h3.app h5)
      exact q _ _ _ M s r hr2 h1.2
  · unfold on2 at h1
    split at h1
    · rename_i e1 e2
      obtain ⟨a, xs, e3, h2, h3⟩ := lstM_of hr rx e1
      obtain ⟨b, ys, e4, h4, h5⟩ := lstM_of hr ry e2
      refine .inr (.inr (.inr ⟨a, b, xs, ys, e3, e4, h2, h4, by rw [h3.len, h5.len]; exact h1.1, fun p hp => ?_⟩))
      obtain ⟨s, r, hr2⟩ := newLst hr hp (h3.app h5)
      exact q _ _ _ M s r hr2 h1.2
    · exact h1.elim
/-- when a product is taken -/
def MulC (i j : Int) : Prop := CMul i j ∨ CMulW i j
def mulF : F2 := fun x y M Q => match x, y with
  | .int i, .int j => MulC i j ∧ Q (.int (i * j)) M
  | x, .int k => on2 (lstM M x) (some []) fun a _ => (-(2 ^ 63) ≤ k ∧ k < 2 ^ 63) ∧ a.length * k.toNat ≤ sizeLine ∧ Q (.lst (List.replicate k.toNat a).flatten) M
  | _, _ => False
theorem op_mulC : OpR X (binaryOp .Mult) (rI MulC fun i j => .int (i * j)) := opI fun _ _ _ _ _ _ _ hc q => PyProof.Rows.mul_int q (hc.elim CMul.ok CMulW.ok)
def rMulU : R2 := fun x y H Q => rI MulC (fun i j => .int (i * j)) x y H Q ∨ rRep x y H Q
theorem op_mulU : OpR X (binaryOp .Mult) rMulU := op_mulC.or op_rep
theorem RA.rep {xs : List V} {ds : List D} (r : RA K H M xs ds) : ∀ n : Nat, RA K H M (List.replicate n xs).flatten (List.replicate n ds).flatten
  | 0 => RA.nil
  | n + 1 => by
    rw [List.replicate_succ, List.replicate_succ, List.flatten_cons, List.flatten_cons]
    exact r.app (RA.rep r n)
theorem ov_mul : OpV K rMulU mulF := by
  intro H M v w x y Q Qd hr rx ry h1 q
  unfold mulF at h1
  split at h1
  · exact .inl ⟨_, _, rx.int_v, ry.int_v, h1.1, q _ H _ M .refl R.intI hr h1.2⟩
  · unfold on2 at h1
    split at h1
    · rename_i e1 e2
      obtain ⟨a, xs, e3, h2, h3⟩ := lstM_of hr rx e1
      refine .inr ⟨a, _, xs, e3, ry.int_v, h2, h1.1.1, h1.1.2, by rw [h3.len]; exact h1.2.1, fun p hp => ?_⟩
      obtain ⟨s, r, hr2⟩ := newLst hr hp (h3.rep _)
      exact q _ _ _ M s r hr2 h1.2.2
    · exact h1.elim
  · exact h1.elim

/-! ### == of data -/
mutual
def pyOf : D → Option PyData
  | .non => some .none
  | .bl b => some (.bool b)
  | .int i => some (.int i)
  | .str x => some (.str x)
  | .tup ds => (pyOfs ds).map .tuple
  | .lst ds => (pyOfs ds).map .list
  | .seq ds => (pyOfs ds).map .list
  | _ => none
def pyOfs : List D → Option (List PyData)
  | [] => some []
  | d :: ds => match pyOf d, pyOfs ds with
    | some p, some ps => some (p :: ps)
    | _, _ => none
end
mutual
theorem dp_of : ∀ {d : D} {v : V} {p : PyData}, R K H M v d → pyOf d = some p → Dp K H v p
  | .non, v, p, r, h => by
    unfold R at r
    unfold pyOf at h
    cases h
    subst r
    exact .non
  | .bl b, v, p, r, h => by
    unfold pyOf at h
    cases h
    rw [r.bl_v]
    exact .bl b
  | .int b, v, p, r, h => by
    unfold pyOf at h
    cases h
    rw [r.int_v]
    exact .int b
  | .str b, v, p, r, h => by
    unfold pyOf at h
    cases h
    rw [r.str_v]
    exact .str b
  | .tup ds, v, p, r, h => by
    unfold pyOf at h
    obtain ⟨a, xs, e, h1, h2⟩ := r.tup_v
    rw [e]
    cases q : pyOfs ds with
    | none => rw [q] at h; cases h
    | some ps =>
      rw [q] at h
      cases h
      exact .tup h1 (dps_of h2 q)
  | .lst ds, v, p, r, h => by
    unfold pyOf at h
    obtain ⟨a, xs, e, h1, _, h2⟩ := r.lst_v
    rw [e]
    cases q : pyOfs ds with
    | none => rw [q] at h; cases h
    | some ps =>
      rw [q] at h
      cases h
      exact .lst (SqL.of h1) (dps_of h2 q)
  | .seq ds, v, p, r, h => by
    unfold pyOf at h
    obtain ⟨a, xs, e, h1, h2⟩ := r.seq_v
    rw [e]
    cases q : pyOfs ds with
    | none => rw [q] at h; cases h
    | some ps =>
      rw [q] at h
      cases h
      exact .lst h1 (dps_of h2 q)
  | .ref a, v, p, r, h => by
    unfold pyOf at h
    cases h
  | .ty n, v, p, r, h => by
    unfold pyOf at h
    cases h
  | .exc .., v, p, r, h => by
    unfold pyOf at h
    cases h
  | .dct .., v, p, r, h => by
    unfold pyOf at h
    cases h
  | .dtt .., v, p, r, h => by
    unfold pyOf at h
    cases h
theorem dps_of : ∀ {ds : List D} {vs : List V} {ps : List PyData}, RA K H M vs ds → pyOfs ds = some ps → DpAll K H vs ps
  | [], vs, ps, r, h => by
    unfold RA at r
    unfold pyOfs at h
    cases h
    subst r
    exact .nil
  | d :: ds, vs, ps, r, h => by
    unfold RA at r
    obtain ⟨x, xs, e, h1, h2⟩ := r
    subst e
    unfold pyOfs at h
    cases q : pyOf d with
    | none => simp [q] at h
    | some p =>
      cases q2 : pyOfs ds with
      | none => simp [q, q2] at h
      | some pr =>
        simp only [q, q2] at h
        cases h
        exact .cons (dp_of h1 q) (dps_of h2 q2)
end
def pyM (M : DM) (d : D) : Option PyData := match d with
  | .ref a => match M a with
    | some (.lst ds) => (pyOfs ds).map .list
    | _ => none
  | d => pyOf d
theorem pyM_of {p : PyData} (hr : HR K H M) (r : R K H M v x) (h : pyM M x = some p) : Dp K H v p := by
  unfold pyM at h
  split at h
  · rename_i a
    have e := r.ref_v
    split at h
    · rename_i ds e1
      obtain ⟨_, xs, h1, h2⟩ := hr a _ e1
      cases q : pyOfs ds with
      | none => rw [q] at h; cases h
      | some ps =>
        rw [q] at h
        cases h
        rw [e]
        exact .lst (SqL.of h1) (dps_of h2 q)
    · cases h
  · exact dp_of r h
def onP (a b : Option PyData) (k : PyData → PyData → Prop) : Prop := match a, b with
  | some x, some y => k x y
  | _, _ => False
/-- what == gives -/
def cmpF (f : Bool → Bool) : F2 := fun x y M Q => match x, y with
  | .int i, .int j => Q (.bl (f (decide (i = j)))) M
  | .str i, .str j => Q (.bl (f (decide (i = j)))) M
  | x, y => onP (pyM M x) (pyM M y) fun a b => SeqAt.shaped a = true ∧ SeqAt.shaped b = true ∧ Q (.bl (f (PyData.eqv a b))) M
abbrev eqF : F2 := cmpF id
abbrev neF : F2 := cmpF not
def rEqU (K : PySem.W.Frag) : R2 := fun x y H Q => rEq x y H Q ∨ rEqD K x y H Q
def rNeU (K : PySem.W.Frag) : R2 := fun x y H Q => rNe x y H Q ∨ rNeD K x y H Q
theorem op_eqU (hu : X.A.units + 64 < cLine) : OpR X (compareOp .Eq) (rEqU X.K) := op_eq.or (op_eqD hu)
theorem op_neU (hu : X.A.units + 64 < cLine) : OpR X (compareOp .NotEq) (rNeU X.K) := op_ne.or (op_neD hu)
theorem ov_eq : OpV K (rEqU K) eqF := by
  intro H M v w x y Q Qd hr rx ry h1 q
  unfold eqF cmpF at h1
  split at h1
  · rename_i i j
    rw [rx.int_v, ry.int_v]
    refine .inl ⟨rfl, ?_⟩
    rw [show decide (V.int i = V.int j) = decide (i = j) by simp]
    exact q _ H _ M .refl R.blI hr h1
  · rename_i i j
    rw [rx.str_v, ry.str_v]
    refine .inl ⟨rfl, ?_⟩
    rw [show decide (V.str i = V.str j) = decide (i = j) by simp]
    exact q _ H _ M .refl R.blI hr h1
  · unfold onP at h1
    split at h1
    · rename_i e1 e2
      exact .inr ⟨_, _, pyM_of hr rx e1, pyM_of hr ry e2, h1.1, h1.2.1, q _ H _ M .refl R.blI hr h1.2.2⟩
    · exact h1.elim
theorem ov_ne : OpV K (rNeU K) neF := by
  intro H M v w x y Q Qd hr rx ry h1 q
  unfold neF cmpF at h1
  split at h1
  · rename_i i j
    rw [rx.int_v, ry.int_v]
    refine .inl ⟨rfl, ?_⟩
    rw [show decide (V.int i = V.int j) = decide (i = j) by simp]
    exact q _ H _ M .refl R.blI hr h1
  · rename_i i j
    rw [rx.str_v, ry.str_v]
    refine .inl ⟨rfl, ?_⟩
    rw [show decide (V.str i = V.str j) = decide (i = j) by simp]
    exact q _ H _ M .refl R.blI hr h1
  · unfold onP at h1
    split at h1
    · rename_i e1 e2
      exact .inr ⟨_, _, pyM_of hr rx e1, pyM_of hr ry e2, h1.1, h1.2.1, q _ H _ M .refl R.blI hr h1.2.2⟩
    · exact h1.elim

/-! ### items, slices -/
def onO {α : Type} (o : Option α) (k : α → Prop) : Prop := match o with
  | some a => k a
  | none => False
theorem onO_of {α : Type} {o : Option α} {k : α → Prop} (h : onO o k) : ∃ a, o = some a ∧ k a := by
  cases o with
  | none => exact h.elim
  | some a => exact ⟨a, rfl, h⟩
def ixF : F2 := fun x y M Q => match x, y with
  | .str z, .int i => z.length ≤ sizeLine ∧ onO (atI z.cps.toList i) fun c => Q (.str ⟨#[c]⟩) M
  | x, .int i => onSeq M x fun ds => onO (atI ds i) fun d => Q d M
  | _, _ => False
theorem RA.at {xs : List V} {ds : List D} {i : Int} {d : D} (r : RA K H M xs ds) (h : atI ds i = some d) : ∃ x, atI xs i = some x ∧ R K H M x d := by
  unfold atI at *
  rw [r.len]
  cases q : ixN ds.length i with
  | none => rw [q] at h; cases h
  | some j =>
    rw [q] at h
    exact r.get h
theorem ov_ix : OpV K (rIx K) ixF := by
  intro H M v w x y Q Qd hr rx ry h1 q
  unfold ixF at h1
  split at h1
  · obtain ⟨c, hc, h2⟩ := onO_of h1.2
    exact .inr (.inr ⟨_, _, c, rx.str_v, ry.int_v, h1.1, hc, q _ H _ M .refl R.strI hr h2⟩)
  · obtain ⟨a, xs, ds, e, sq, ra, h2⟩ := onSeq_of hr rx h1
    obtain ⟨d, hd, h3⟩ := onO_of h2
    obtain ⟨z, hz, rz⟩ := ra.at hd
    rcases sq with sq | sq
    · exact .inl ⟨a, xs, _, z, e, ry.int_v, sq, hz, q _ H _ M .refl rz hr h3⟩
    · exact .inr (.inl ⟨a, xs, _, z, e, ry.int_v, sq, hz, q _ H _ M .refl rz hr h3⟩)
  · exact h1.elim
abbrev DO := DR → DM → (Option Int → DM → Prop) → DX → Prop
def uO (K : PySem.W.Frag) (W : WX) (d : DO) : TO := fun σ H Q => ∃ ρ M Qd Xd, En K H M σ ρ ∧ HR K H M ∧ d ρ M Qd Xd ∧ (∀ o H' M', Stp K H M H' M' → HR K H' M' → Qd o M' → Q o H') ∧ LdX K H M Xd fun c od H' => W c od σ H'
theorem po_imp {e : Option Expr} {t t' : TO} (h : PO X e t) (i : ∀ σ H Q, t' σ H Q → t σ H Q) : PO X e t' := ⟨fun pins s σ H Q I q => h.run pins s σ H Q I (i σ H Q q)⟩
def doNo : DO := fun _ M Q _ => Q none M
def onI (d : D) (k : Int → Prop) : Prop := match d with
  | .int i => k i
  | _ => False
theorem onI_of {k : Int → Prop} (r : R K H M v x) (h : onI x k) : ∃ i, v = .int i ∧ k i := by
  unfold onI at h
  split at h
  · exact ⟨_, r.int_v, h⟩
  · exact h.elim
def doAt (de : DE) : DO := fun ρ M Q Xd => de ρ M (fun d M1 => onI d fun i => Q (some i) M1) Xd
theorem do_no : PO X none (uO X.K W doNo) := po_imp po_none fun σ H Q ⟨ρ, M, Qd, Xd, en, hr, h, q, x⟩ => q none H M .refl hr h
theorem do_at {e : Expr} {de : DE} (he : PE X e (uE X.K W de)) : PO X (some e) (uO X.K W (doAt de)) := po_imp (po_some he) fun σ H Q ⟨ρ, M, Qd, Xd, en, hr, h, q, x⟩ => ⟨ρ, M, _, Xd, en, hr, h, fun v H1 d M1 s1 r1 hr1 h1 => by
  obtain ⟨i, e, h2⟩ := onI_of r1 h1
  exact ⟨i, e, q _ H1 M1 s1 hr1 h2⟩, x⟩
/-- a list, read -/
def lstV (M : DM) (d : D) : Option (List D) := match d with
  | .lst ds => some ds
  | .seq ds => some ds
  | .ref a => match M a with
    | some (.lst ds) => some ds
    | _ => none
  | _ => none
theorem lstV_of {ds : List D} (hr : HR K H M) (r : R K H M v x) (h : lstV M x = some ds) : ∃ a xs, v = .ref a ∧ SqL K H a xs ∧ RA K H M xs ds := by
  unfold lstV at h
  split at h
  · cases h
    obtain ⟨a, xs, e, h1, _, h2⟩ := r.lst_v
    exact ⟨a, xs, e, SqL.of h1, h2⟩
  · cases h
    exact r.seq_v
  · rename_i a
    split at h
    · rename_i es e
      cases h
      obtain ⟨_, xs, h1, h2⟩ := hr a _ e
      exact ⟨a, xs, r.ref_v, SqL.of h1, h2⟩
    · cases h
  · cases h
def cutD (ds : List D) (lo hi : Option Int) : List D := (ds.drop (HT.sIx ds.length 0 lo)).take (HT.sIx ds.length ds.length hi - HT.sIx ds.length 0 lo)
theorem RA.cut {xs : List V} {ds : List D} (r : RA K H M xs ds) (lo hi : Option Int) : RA K H M (cutV xs lo hi) (cutD ds lo hi) := by
  unfold cutV cutD
  rw [r.len]
  exact (r.drop _).take _
def slF (x : D) (lo hi : Option Int) (M : DM) (Q : DK) : Prop := match x with
  | .str z => z.length ≤ sizeLine ∧ Q (.str (cutS z lo hi)) M
  | .tup ds => Q (.tup (cutD ds lo hi)) M
  | x => onO (lstV M x) fun ds => Q (.lst (cutD ds lo hi)) M
def dSl (de : DE) (dl dh : DO) : DE := fun ρ M Q Xd => de ρ M (fun x M1 => dl ρ M1 (fun l M2 => dh ρ M2 (fun h M3 => slF x l h M3 Q) Xd) Xd) Xd
def rSlU (K : PySem.W.Frag) : V → Option Int → Option Int → Hp → VK → Prop := fun x lo hi H Q => rSlS x lo hi H Q ∨ rSlA K x lo hi H Q ∨ rSlL K x lo hi H Q
theorem sl_U : SlR X (rSlU X.K) := sl_str.or (sl_tupA.or sl_list)
theorem dd_sl {e : Expr} {lo hi : Option Expr} {p2 pos : Pos} {de : DE} {dl dh : DO} (he : PE X e (uE X.K W de)) (hl : PO X lo (uO X.K W dl)) (hh : PO X hi (uO X.K W dh)) : PE X (.Subscript e (.Slice lo hi none p2) pos) (uE X.K W (dSl de dl dh)) :=
  pe_imp (pe_slice sl_U he hl hh) fun σ H Q ⟨ρ, M, Qd, Xd, en, hr, h, q, x⟩ => by
    refine ⟨ρ, M, _, Xd, en, hr, h, fun v H1 d M1 s1 r1 hr1 h1 => ?_, x⟩
    refine ⟨ρ, M1, _, Xd, en.stp s1, hr1, h1, fun l H2 M2 s2 hr2 h2 => ?_, x.stp s1⟩
    refine ⟨ρ, M2, _, Xd, en.stp (s1.trans s2), hr2, h2, fun u H3 M3 s3 hr3 h3 => ?_, x.stp (s1.trans s2)⟩
    have s := (s1.trans s2).trans s3
    have r3 := (r1.stp s2).stp s3
    unfold slF at h3
    split at h3
    · exact .inl ⟨_, r3.str_v, h3.1, q _ H3 _ M3 s R.strI hr3 h3.2⟩
    · obtain ⟨a, xs, e, h4, h5⟩ := r3.tup_v
      refine .inr (.inl ⟨a, xs, e, h4, fun z => ?_, fun _ p hp => ?_⟩)
      · have r6 := h5.cut l u
        unfold cutV at r6
        rw [z.1, z.2, List.drop_zero, Nat.sub_zero, List.take_length] at r6
        exact q _ H3 _ M3 s (R.tupI h4 r6) hr3 h3
      · obtain ⟨s4, r4, hr4⟩ := newTup hr3 hp (h5.cut l u)
        exact q _ _ _ M3 (s.trans s4) r4 hr4 h3
    · obtain ⟨ds, e1, h4⟩ := onO_of h3
      obtain ⟨a, xs, e, sq, ra⟩ := lstV_of hr3 r3 e1
      refine .inr (.inr ⟨a, xs, e, sq, fun p hp => ?_⟩)
      obtain ⟨s4, r4, hr4⟩ := newLst hr3 hp (ra.cut l u)
      exact q _ _ _ M3 (s.trans s4) r4 hr4 h4

/-! ### a[i] = v -/
def setF (o i v : D) (M : DM) (Q : DM → Prop) : Prop := match o, i with
  | .ref a, .int k => match M a with
    | some (.lst ds) => noL v = true ∧ onO (ixN ds.length k) fun j => Q (put M a (.lst (ds.set j v)))
    | _ => False
  | _, _ => False
theorem sv_list : SeV K rSetL setF := by
  intro H M o i v x y z Q Qd hr ro ri rv h1 q
  unfold setF at h1
  split at h1
  · rename_i a k
    split at h1
    · rename_i ds e
      obtain ⟨nv, h2⟩ := h1
      obtain ⟨j, hj, h3⟩ := onO_of h2
      obtain ⟨nl, xs, h4, h5⟩ := hr a _ e
      have w := Stp.wr (o' := .lst (xs.set j v)) (u' := .lst (ds.set j z)) e h4 (fun _ z => nomatch z) (fun _ _ z => nomatch z) (fun _ z => nomatch z) hr fun s => ⟨noLs_set nl nv, _, upd_same, (h5.stp s).set j (rv.stp s)⟩
      exact ⟨a, xs, k, j, ro.ref_v, ri.int_v, h4, by rw [h5.len]; exact hj, q _ _ w.1 w.2 h3⟩
    · exact h1.elim
  · exact h1.elim

/-! ### built-in calls -/
def on1 (ds : List D) (k : D → Prop) : Prop := match ds with
  | [d] => k d
  | _ => False
theorem on1_of {vs : List V} {ds : List D} {k : D → Prop} (r : RA K H M vs ds) (h : on1 ds k) : ∃ v d, vs = [v] ∧ R K H M v d ∧ k d := by
  unfold on1 at h
  split at h
  · unfold RA at r
    obtain ⟨v, w, e, r1, r2⟩ := r
    unfold RA at r2
    subst r2
    exact ⟨v, _, e, r1, h⟩
  · exact h.elim
def rLenU (K : PySem.W.Frag) : List V → Hp → VK → Prop := fun xs H Q => (∃ p ys, xs = [.ref p] ∧ (SqL K H p ys ∨ SqT K H p ys) ∧ Q (.int ys.length) H) ∨ ∃ z, xs = [.str z] ∧ z.length ≤ sizeLine ∧ Q (.int z.length) H
theorem call_lenU : CallR X (.builtin "len") (rLenU X.K) := call_len_seq.or call_len_str
def lenF (ds : List D) (M : DM) (Q : DK) : Prop := on1 ds fun d => match d with
  | .str z => z.length ≤ sizeLine ∧ Q (.int z.length) M
  | d => onSeq M d fun es => Q (.int es.length) M
theorem cv_len : CaV K (rLenU K) lenF := by
  intro H M vs ds Q Qd hr ra h1 q
  obtain ⟨v, d, e, r, h2⟩ := on1_of ra h1
  split at h2
  · exact .inr ⟨_, by rw [e, r.str_v], h2.1, q _ H _ M .refl R.intI hr h2.2⟩
  · obtain ⟨a, xs, es, e1, sq, re, h3⟩ := onSeq_of hr r h2
    refine .inl ⟨a, xs, by rw [e, e1], sq, ?_⟩
    rw [re.len]
    exact q _ H _ M .refl R.intI hr h3
def absF (ds : List D) (M : DM) (Q : DK) : Prop := onI1 ds fun i => Q (.int (if i < 0 then -i else i)) M
theorem cv_abs : CaV K (fun xs H Q => ∃ i, xs = [.int i] ∧ Q (.int (if i < 0 then -i else i)) H) absF := by
  intro H M vs ds Q Qd hr ra h1 q
  obtain ⟨i, e, h2⟩ := onI1_of ra h1
  exact ⟨i, e, q _ H _ M .refl R.intI hr h2⟩
def maxF (ds : List D) (M : DM) (Q : DK) : Prop := onI2 ds fun i j => Q (.int (if j > i then j else i)) M
def minF (ds : List D) (M : DM) (Q : DK) : Prop := onI2 ds fun i j => Q (.int (if j < i then j else i)) M
theorem cv_max : CaV K (fun xs H Q => ∃ i j, xs = [.int i, .int j] ∧ Q (.int (if j > i then j else i)) H) maxF := by
  intro H M vs ds Q Qd hr ra h1 q
  obtain ⟨i, j, e, h2⟩ := onI2_of ra h1
  exact ⟨i, j, e, q _ H _ M .refl R.intI hr h2⟩
theorem cv_min : CaV K (fun xs H Q => ∃ i j, xs = [.int i, .int j] ∧ Q (.int (if j < i then j else i)) H) minF := by
  intro H M vs ds Q Qd hr ra h1 q
  obtain ⟨i, j, e, h2⟩ := onI2_of ra h1
  exact ⟨i, j, e, q _ H _ M .refl R.intI hr h2⟩
def tupleF (ds : List D) (M : DM) (Q : DK) : Prop := on1 ds fun d => onSeq M d fun es => Q (.tup es) M
theorem cv_tuple : CaV K (fun xs H Q => ∃ p ys, xs = [.ref p] ∧ ((SqL K H p ys ∧ ∀ l, H l = none → Q (.ref l) (upd H l (.tup ys))) ∨ (SqT K H p ys ∧ Q (.ref p) H))) tupleF := by
  intro H M vs ds Q Qd hr ra h1 q
  obtain ⟨v, d, e, r, h2⟩ := on1_of ra h1
  obtain ⟨a, xs, es, e1, sq, re, h3⟩ := onSeq_of hr r h2
  refine ⟨a, xs, by rw [e, e1], ?_⟩
  rcases sq with sq | sq
  · refine .inl ⟨sq, fun l hl => ?_⟩
    obtain ⟨s, r2, hr2⟩ := newTup hr hl re
    exact q _ _ _ M s r2 hr2 h3
  · exact .inr ⟨sq, q _ H _ M .refl (R.tupI sq re) hr h3⟩
def listF (ds : List D) (M : DM) (Q : DK) : Prop := on1 ds fun d => onSeq M d fun es => Q (.lst es) M
/-- a new list that is to change -/
def listFM (ds : List D) (M : DM) (Q : DK) : Prop := on1 ds fun d => onSeq M d fun es => noLs es = true ∧ ∀ p, M p = none → Q (.ref p) (put M p (.lst es))
theorem cv_list : CaV K (fun xs H Q => ∃ p ys, xs = [.ref p] ∧ (SqL K H p ys ∨ SqT K H p ys) ∧ ∀ l, H l = none → Q (.ref l) (upd H l (.lst ys))) listF := by
  intro H M vs ds Q Qd hr ra h1 q
  obtain ⟨v, d, e, r, h2⟩ := on1_of ra h1
  obtain ⟨a, xs, es, e1, sq, re, h3⟩ := onSeq_of hr r h2
  refine ⟨a, xs, by rw [e, e1], sq, fun l hl => ?_⟩
  obtain ⟨s, r2, hr2⟩ := newLst hr hl re
  exact q _ _ _ M s r2 hr2 h3
theorem cv_listM : CaV K (fun xs H Q => ∃ p ys, xs = [.ref p] ∧ (SqL K H p ys ∨ SqT K H p ys) ∧ ∀ l, H l = none → Q (.ref l) (upd H l (.lst ys))) listFM := by
  intro H M vs ds Q Qd hr ra h1 q
  obtain ⟨v, d, e, r, h2⟩ := on1_of ra h1
  obtain ⟨a, xs, es, e1, sq, re, h3⟩ := onSeq_of hr r h2
  refine ⟨a, xs, by rw [e, e1], sq, fun l hl => ?_⟩
  obtain ⟨s, hr2⟩ := newLstM hr hl re h3.1
  exact q _ _ _ _ s R.refI hr2 (h3.2 l (hr.none hl))
end

/-! ### a def by its body -/
/-- what is given back may be told with less of the data heap, lists that no one else has standing still -/
inductive Fz (M M' : DM) : D → D → Prop
  | same (d : D) : Fz M M' d d
  | fr {a : Addr} {ds : List D} : M a = some (.lst ds) → M' a = none → Fz M M' (.ref a) (.lst ds)
  | fd {a : Addr} {ks : List Key} {ds : List D} : M a = some (.dct ks ds) → M' a = none → Fz M M' (.ref a) (.dct ks ds)
def Sub (M' M : DM) : Prop := ∀ a o, M' a = some o → M a = some o
def rtD (Qd : DK) : DK := fun d M => ∃ d' M', Sub M' M ∧ Fz M M' d d' ∧ Qd d' M'
theorem rtD.of {Qd : DK} {d : D} {M : DM} (h : Qd d M) : rtD Qd d M := ⟨d, M, fun _ _ z => z, .same d, h⟩
theorem Stp.sub {K : PySem.W.Frag} {H H' : Hp} {M M' M2 : DM} (s : Stp K H M H' M') (h : Sub M2 M') : Stp K H M H' M2 :=
  ⟨s.t, fun a xs z0 z z2 => ⟨(s.g a xs z0 z z2).1, by
    cases e : M2 a with
    | none => rfl
    | some o =>
      have e2 := h a o e
      rw [(s.g a xs z0 z z2).2] at e2
      cases e2⟩, s.x, s.f⟩
theorem R.sub {K : PySem.W.Frag} {H : Hp} {M M2 : DM} {v : V} {d : D} (h : Sub M2 M) (r : R K H M v d) : R K H M2 v d := r.stp ((Stp.refl (K := K) (H := H) (M := M)).sub h)
theorem HR.sub {K : PySem.W.Frag} {H : Hp} {M M2 : DM} (h : Sub M2 M) (r : HR K H M) : HR K H M2 := fun a o e => (r a o (h a o e)).stp ((Stp.refl (K := K) (H := H) (M := M)).sub h) rfl
theorem rtD.ld {K : PySem.W.Frag} {H : Hp} {M : DM} {Qd : DK} {Q : VK} (l : LdV K H M Qd Q) : LdV K H M (rtD Qd) Q := by
  rintro v H' d M' s r hr ⟨d', M2, hs, hf, hq⟩
  refine l v H' d' M2 (s.sub hs) ?_ (hr.sub hs) hq
  cases hf with
  | same => exact r.sub hs
  | fr h1 h2 =>
    obtain ⟨_, xs, h3, h4⟩ := hr _ _ h1
    rw [r.ref_v]
    unfold R
    exact ⟨_, xs, rfl, h3, h2, h4.stp ((Stp.refl (K := K) (H := H') (M := M')).sub hs)⟩
  | fd h1 h2 =>
    obtain ⟨_, z, xs, h3, h4⟩ := hr _ _ h1
    rw [r.ref_v]
    unfold R
    exact ⟨_, xs, rfl, h3, h2, z, h4.stp ((Stp.refl (K := K) (H := H') (M := M')).sub hs)⟩
def startD (n : Nat) (ds : List D) : DR := ds.map some ++ List.replicate (n - ds.length) none
theorem en_start {K : PySem.W.Frag} {H : Hp} {M : DM} {N : List Str} {vs : List V} {ds : List D} (hl : ds.length ≤ N.length) (r : RA K H M vs ds) : En K H M (L2.start N vs) (startD N.length ds) := by
  have e := r.len
  refine ⟨?_, fun i d h => ?_⟩
  · unfold L2.start startD
    rw [List.length_append, List.length_append, List.length_map, List.length_map, List.length_replicate, List.length_replicate, e]
  · unfold startD at h
    by_cases hi : i < ds.length
    · rw [List.getElem?_append_left (by rw [List.length_map]; exact hi), List.getElem?_map] at h
      cases q : ds[i]? with
      | none => rw [q] at h; cases h
      | some d' =>
        rw [q] at h
        cases h
        obtain ⟨x, h1, h2⟩ := r.get q
        refine ⟨x, ?_, h2⟩
        unfold L2.start
        rw [List.getElem?_append_left (by rw [List.length_map]; omega), List.getElem?_map, h1]
        rfl
    · rw [List.getElem?_append_right (by rw [List.length_map]; omega)] at h
      by_cases hj : i - (ds.map some).length < N.length - ds.length
      · rw [List.getElem?_replicate_of_lt hj] at h
        cases h
      · rw [List.getElem?_eq_none (by rw [List.length_replicate]; omega)] at h
        cases h
/-- what a body is to reach -/
def endsD (Qd : DK) (Xd : DX) : DN := { nx := fun _ M => rtD Qd .non M, rt := rtD Qd, ex := fun x _ M => Xd x M }
section
variable {P : Program} {w : World} {K : PySem.W.Frag} {mg : Str → Option Value} {base : Heap}
theorem okD {x qual : Str} {st : Stmt} {f : Addr} {fd : FuncData} {N ps : List Str} {k : Nat} {sp : DSp} (F : Fun K x qual st f fd) (S : FnScope N ps (defScope st)) (hps : ps.length ≤ N.length)
    (hbody : ∀ (cdv : Value) (A : Around) (outer : List Env) (s : Shared) (H : Hp) (E : XK), Room k (A.deeper (PyProof.Rows.envOfC qual (defScope st) s.heap.objs.size f cdv)) →
      ∃ ds : DS, PSs (cxOf (L2.CX P w) P w K mg base N qual (defScope st) f cdv A outer s H E) (defBody st) (uS K (fun cls d _ H => E cls d H) ds) ∧ ∀ as M Qd Xd, as.length = ps.length → sp as M Qd Xd → ds (endsD Qd Xd) (startD N.length as) M) :
    FnOk P w K mg base (L2.CX P w) (k + 1) f fd ps (spD K ps.length sp) := by
  refine F.okX S (fun vs H Q E h => ?_) (fun cdv A outer s H vs Q E hr h => ?_)
  · obtain ⟨ds, M, Qd, Xd, hl, ra, _⟩ := h
    exact ra.len.trans hl
  · obtain ⟨as, M, Qd, Xd, hl, ra, hr2, hsp, l, x⟩ := h
    obtain ⟨ds, h1, h2⟩ := hbody cdv A outer s H E hr
    refine ⟨_, h1, startD N.length as, M, endsD Qd Xd, en_start (by omega) ra, hr2, h2 as M Qd Xd hl hsp, ?_⟩
    exact ⟨fun σ' H' ρ' M' s' en' hr' q => rtD.ld l .non H' .non M' s' R.nonI hr' q, rtD.ld l, fun _ _ _ _ _ _ _ z => z.elim, fun _ _ _ _ _ _ _ z => z.elim, fun c od fs σ' H' ρ' M' s' xr en' hr' q => x c od fs H' M' s' xr hr' q⟩
theorem takesD {cdv : Value} {A : Around} {outer : List Env} {s : Shared} {H : Hp} {E : XK} {N : List Str} {qual : Str} {st : Stmt} {f : Addr} : Takes (cxOf (L2.CX P w) P w K mg base N qual (defScope st) f cdv A outer s H E) (fun cls d _ H => E cls d H) := takes_of rfl rfl rfl rfl
end

section
variable {X : Cx} {W : WX} {K : PySem.W.Frag} {H : Hp} {M : DM}
/-- {'a': x, ..}[k], the dict dropped at once -/
def dPairs : List (Str × DE) → DR → DM → (List (Str × D) → DM → Prop) → DX → Prop
  | [], _, M, Q, _ => Q [] M
  | (k, de) :: r, ρ, M, Q, Xd => de ρ M (fun d M1 => dPairs r ρ M1 (fun ps M2 => Q ((k, d) :: ps) M2) Xd) Xd
def upairs (K : PySem.W.Frag) (W : WX) (ps : List (Str × DE)) : List (TE × TE) := ps.map fun p => (uE K W (dC (.str p.1)), uE K W p.2)
inductive KVR (K : PySem.W.Frag) (H : Hp) (M : DM) : List (V × V) → List (Str × D) → Prop
  | nil : KVR K H M [] []
  | cons {v : V} {d : D} {x : Str} {ps : List (V × V)} {kvs : List (Str × D)} : R K H M v d → KVR K H M ps kvs → KVR K H M ((.str x, v) :: ps) ((x, d) :: kvs)
theorem KVR.stp {H' : Hp} {M' : DM} (s : Stp K H M H' M') {ps : List (V × V)} {kvs : List (Str × D)} (r : KVR K H M ps kvs) : KVR K H' M' ps kvs := by
  induction r with
  | nil => exact .nil
  | cons r _ ih => exact .cons (r.stp s) ih
theorem pairs_in : ∀ {ps : List (Str × DE)} {σ : L2.St} {H : Hp} {ρ : DR} {M : DM} {Qd : List (Str × D) → DM → Prop} {Xd : DX} {Q : List (V × V) → Hp → Prop}, En K H M σ ρ → HR K H M → dPairs ps ρ M Qd Xd → LdX K H M Xd (fun c od H' => W c od σ H') →
    (∀ vs H' kvs M', Stp K H M H' M' → HR K H' M' → KVR K H' M' vs kvs → Qd kvs M' → Q vs H') → tPairs (upairs K W ps) σ H Q
  | [], σ, H, ρ, M, Qd, Xd, Q, en, hr, h, x, q => q [] H [] M .refl hr .nil h
  | (k, de) :: r, σ, H, ρ, M, Qd, Xd, Q, en, hr, h, x, q => by
    refine ⟨ρ, M, fun d M1 => M1 = M ∧ d = .str k, X0, en, hr, ⟨rfl, rfl⟩, fun v H1 d M1 s1 r1 hr1 ⟨e1, e2⟩ => ?_, fun _ _ _ _ _ _ _ _ z => z.elim⟩
    subst e1 e2
    have ev := r1.str_v
    subst ev
    refine ⟨ρ, M1, _, Xd, en.stp s1, hr1, h, fun w H2 d2 M2 s2 r2 hr2 h2 => ?_, x.stp s1⟩
    refine pairs_in (ps := r) (en.stp (s1.trans s2)) hr2 h2 (x.stp (s1.trans s2)) fun vs H3 kvs M3 s3 hr3 rk h3 => ?_
    exact q _ H3 _ M3 ((s1.trans s2).trans s3) hr3 (.cons (r2.stp s3) rk) h3
/-- the last of a name's values -/
def lastD : List (Str × D) → Str → Option D
  | [], _ => none
  | (k, d) :: r, x => (lastD r x).or (if k = x then some d else none)
theorem KVR.split {ps : List (V × V)} {kvs : List (Str × D)} (r : KVR K H M ps kvs) : ∃ gs : List (Key × V), ps = gs.map (fun kv => (kV kv.1, kv.2)) ∧ gs.length = kvs.length ∧
    ∀ (acc : List (Key × V)) x d, lastD kvs x = some d → ∃ v, valV (mergeK acc gs) (Sum.inr x) = some v ∧ R K H M v d := by
  induction r with
  | nil => exact ⟨[], rfl, rfl, fun _ x d h => by cases h⟩
  | @cons v d x ps kvs r _ ih =>
    obtain ⟨gs, e, el, f⟩ := ih
    refine ⟨(Sum.inr x, v) :: gs, by rw [List.map_cons, ← e] <;> rfl, by simp [el], fun acc y d' h => ?_⟩
    unfold lastD at h
    show ∃ v', valV (mergeK (putK acc (Sum.inr x) v) gs) (Sum.inr y) = some v' ∧ R K H M v' d'
    cases q : lastD kvs y with
    | some z =>
      rw [q] at h
      cases h
      exact f _ y _ q
    | none =>
      rw [q] at h
      by_cases c : x = y
      · rw [if_pos c] at h
        cases h
        subst c
        have keep : ∀ (gs : List (Key × V)) (kvs : List (Str × D)) (ps : List (V × V)) (acc : List (Key × V)), KVR K H M ps kvs → ps = gs.map (fun kv => (kV kv.1, kv.2)) → lastD kvs x = none → valV (mergeK acc gs) (Sum.inr x) = valV acc (Sum.inr x) := by
          intro gs
          induction gs with
          | nil => intros; rfl
          | cons g gs ih2 =>
            intro kvs ps acc kr pe ln
            cases kr with
            | nil => rw [List.map_cons] at pe; cases pe
            | @cons v2 d2 x2 ps2 kvs2 r2 kr2 =>
              rw [List.map_cons] at pe
              injection pe with p1 p2
              unfold lastD at ln
              have n1 : lastD kvs2 x = none := by
                cases q3 : lastD kvs2 x with
                | none => rfl
                | some z => rw [q3] at ln; cases ln
              have n2 : ¬ x2 = x := fun z => by rw [n1, if_pos z] at ln; cases ln
              show valV (mergeK (putK acc g.1 g.2) gs) (Sum.inr x) = _
              rw [ih2 kvs2 ps2 _ kr2 p2 n1, valV_put, if_neg]
              intro z
              have p3 : V.str x2 = kV g.1 := congrArg Prod.fst p1
              rw [← z] at p3
              exact n2 (V.str.inj p3)
        refine ⟨v, ?_, r⟩
        rw [keep gs kvs ps _ (by assumption) e q, valV_put, if_pos rfl]
      · rw [if_neg c] at h
        cases h
def onS (d : D) (k : Str → Prop) : Prop := match d with
  | .str x => k x
  | _ => False
theorem onS_of {v : V} {d : D} {k : Str → Prop} (r : R K H M v d) (h : onS d k) : ∃ x, v = .str x ∧ k x := by
  unfold onS at h
  split at h
  · exact ⟨_, r.str_v, h⟩
  · exact h.elim
def dDictIx (ps : List (Str × DE)) (dk : DE) : DE := fun ρ M Q Xd => dPairs ps ρ M (fun kvs M1 => kvs.length ≤ 15 ∧ dk ρ M1 (fun k M2 => onS k fun x => onO (lastD kvs x) fun d => noL d = true ∧ Q d M2) Xd) Xd
theorem dd_dictIx {i : Expr} {p1 pos : Pos} {keys : List (Option Expr)} {values : List Expr} {ps : List (Str × DE)} {dk : DE} (hu : X.A.units + 1 < cLine) (h : PPs X p1 keys values (upairs X.K W ps)) (hk : PE X i (uE X.K W dk)) (hall : keys.all (·.isSome) = true) (hl : keys.length = values.length) (h0 : keys ≠ [])
    (h15 : keys.length ≤ 15) (hs : NoSl i) : PE X (.Subscript (.Dict keys values p1) i pos) (uE X.K W (dDictIx ps dk)) :=
  pe_imp (pe_dget hu (pe_disp h hall hl h0 h15) hk hs) fun σ H Q ⟨ρ, M, Qd, Xd, en, hr, h, q, x⟩ => by
    intro p hp
    obtain ⟨s0, hr1⟩ := Stp.new (o := .dK []) hp hr
    have hMp := hr.none hp
    refine pairs_in (en.stp s0) hr1 h (x.stp s0) fun vs H2 kvs M2 s2 hr2 kr ⟨h15, hq⟩ => ?_
    obtain ⟨e2, m2⟩ := s2.g p _ rfl upd_same hMp
    obtain ⟨gs, ge, gl, gf⟩ := kr.split
    refine ⟨e2, gs, ge, by rw [gl]; exact h15, ?_⟩
    have s02 := s0.trans s2
    have tt : ∀ a xs, SqT X.K H2 a xs → SqT X.K (upd H2 p (.dK (mergeK [] gs))) a xs := sqT_upd fun xs z => by
      rcases z with z | ⟨o, z⟩ <;> (rw [e2] at z; cases z)
    have s3 : Stp X.K H M (upd H2 p (.dK (mergeK [] gs))) M2 := ⟨fun a xs z => tt a xs (s02.t a xs z), fun a o z0 z z2 => by
      have z3 := s02.g a o z0 z z2
      exact ⟨by rw [upd_ne (ne_of_none z hp)]; exact z3.1, z3.2⟩, fun a fs z => by
      rw [upd_ne (ne_of_none z hp)]
      exact s02.x a fs z, fun a o u z => by
      rw [upd_ne (ne_of_none z hp)]
      exact s02.f a o u z⟩
    have hr3 : HR X.K (upd H2 p (.dK (mergeK [] gs))) M2 := fun a o z => (hr2 a o z).flat tt (upd_ne fun z2 => by
      rw [z2, m2] at z
      cases z)
    refine ⟨ρ, M2, _, Xd, en.stp s3, hr3, hq, fun y H4 k M4 s4 r4 hr4 hk => ?_, x.stp s3⟩
    obtain ⟨z, ez, hk2⟩ := onS_of r4 hk
    obtain ⟨d, ed, hk3⟩ := onO_of hk2
    obtain ⟨v, ev, rv⟩ := gf [] z d ed
    obtain ⟨e4, _⟩ := s4.g p _ rfl upd_same m2
    refine ⟨p, v, rfl, ?_, q v H4 d M4 (s3.trans s4) ((rv.flat tt hk3.1).stp s4) hr4 hk3.2⟩
    rw [ez, ← ev]
    exact DGet.k (k := Sum.inr z) e4
theorem du_nil {pos : Pos} : PPs X pos [] [] (upairs X.K W []) := pps_nil
theorem du_cons {pos : Pos} {x : Str} {p1 : Pos} {j : Nat} {v : Expr} {ks : List (Option Expr)} {vs : List Expr} {dv : DE} {ps : List (Str × DE)} (hv : PE X v (uE X.K W dv)) (hr : PPs X pos ks vs (upairs X.K W ps)) :
    PPs X pos (some (.Constant (.str x) j p1) :: ks) (v :: vs) (upairs X.K W ((x, dv) :: ps)) := pps_cons dd_str hv hr
end
end DL

set_option Elab.async false
set_option linter.all false
set_option maxRecDepth 100000
set_option maxHeartbeats 4000000
namespace DL
open PySem PySem.Spec L2
/-- every parameter is given -/
def Bd (fd : FuncData) (ps : List Str) : Prop := ∀ us : List Value, us.length = ps.length → bindArgs fd ⟨us, []⟩ = pure (ps.zip us)
/-- a def stands at the top under its name -/
def Df (K : PySem.W.Frag) (mg : Str → Option Value) (x : Str) (st : Stmt) (ps : List Str) : Prop := ∃ (f : Addr) (fd : FuncData), mg x = some (.ref f) ∧ Fun K x x st f fd ∧ Bd fd ps
/-- .. and keeps its data promise -/
def Dn (P : Program) (w : World) (K : PySem.W.Frag) (mg : Str → Option Value) (base : Heap) (x : Str) (ps : List Str) (k : Nat) (sp : DSp) : Prop :=
  ∃ (f : Addr) (fd : FuncData), mg x = some (.ref f) ∧ PySem.W.keepIn K (.ref f) = true ∧ Bd fd ps ∧ (∃ oc od osl, K.lookup f = some ⟨oc, od, .func fd, osl⟩) ∧ FnOk P w K mg base (L2.CX P w) k f fd ps (spD K ps.length sp)
section
variable {X : Cx} {W : WX} {e : Expr} {es : List Expr} {dag : DA} {pos : Pos}
theorem dd_fnD {x : Str} {p : Pos} {k : Nat} {ps : List Str} {sp : DSp} (G : Dn X.prog X.w X.K X.mg X.base x ps k sp) (hr : Room k X.A) (hg : Gl X x) (tk : Takes X W) (ha : PA X (e :: es) (uA X.K W dag)) {n : Nat} (hn : ps.length = n := by exact rfl) (hd : (x == ("__debug__" : Str)) = false := by decide)
    (he : starEach (e :: es) X.env = (false, eval e X.env) :: starEach es X.env := by exact rfl) (hpl : (backTo pos (starEach es X.env)).any (·.1) = false := by exact rfl) :
    PE X (.Call (.Name x p) (e :: es) [] pos) (uE X.K W (dFn sp n dag)) := by
  subst hn
  obtain ⟨f, fd, hm, hk, hb, hl, F⟩ := G
  exact dd_fn F hr hg hm hk (.all hb) tk ha hd he hpl
end
section
variable {P : Program} {w : World} {K : PySem.W.Frag} {mg : Str → Option Value} {base : Heap}
theorem okF {x : Str} {st : Stmt} {N ps : List Str} {k : Nat} {sp : DSp} (F : Df K mg x st ps) (S : FnScope N ps (defScope st)) (hps : ps.length ≤ N.length)
    (hbody : ∀ (f : Addr) (cdv : Value) (A : Around) (outer : List Env) (s : Shared) (H : Hp) (E : XK), Room k (A.deeper (PyProof.Rows.envOfC x (defScope st) s.heap.objs.size f cdv)) →
      ∃ ds : DS, PSs (cxOf (L2.CX P w) P w K mg base N x (defScope st) f cdv A outer s H E) (defBody st) (uS K (fun cls d _ H => E cls d H) ds) ∧ ∀ as M Qd Xd, as.length = ps.length → sp as M Qd Xd → ds (endsD Qd Xd) (startD N.length as) M) :
    Dn P w K mg base x ps (k + 1) sp := by
  obtain ⟨f, fd, hm, hF, hb⟩ := F
  obtain ⟨oc, od, kV, doc, pm, an, cdv, ct, osl, e, lk, hcd⟩ := id hF.ex
  exact ⟨f, fd, hm, hF.kp, hb, ⟨oc, od, osl, lk⟩, okD hF S hps fun cdv A outer s H E hr => hbody f cdv A outer s H E hr⟩
theorem passD {cdv : Value} {A : Around} {outer : List Env} {s : Shared} {H : Hp} {E : XK} {N : List Str} {qual : Str} {st : Stmt} {f : Addr} : PassesOwn (model P w) (cxOf (L2.CX P w) P w K mg base N qual (defScope st) f cdv A outer s H E).A (cxOf (L2.CX P w) P w K mg base N qual (defScope st) f cdv A outer s H E).env (cxOf (L2.CX P w) P w K mg base N qual (defScope st) f cdv A outer s H E).xe := passes_of rfl
theorem Dn.mono {x : Str} {ps : List Str} {j k : Nat} {sp : DSp} (G : Dn P w K mg base x ps j sp) (h : j ≤ k) : Dn P w K mg base x ps k sp := by
  obtain ⟨f, fd, hm, hk, hb, hl, F⟩ := G
  exact ⟨f, fd, hm, hk, hb, hl, F.mono h⟩
theorem dn_raw {x : Str} {ps : List Str} {k : Nat} {sp : DSp} (G : Dn P w K mg base x ps k sp) : ∃ (f : Addr) (fd : FuncData), mg x = some (.ref f) ∧ Bd fd ps ∧ FnOk P w K mg base (L2.CX P w) k f fd ps (spD K ps.length sp) := by
  obtain ⟨f, fd, hm, hk, hb, hl, F⟩ := G
  exact ⟨f, fd, hm, hb, F⟩
end
/-- a law's end: from the script to True -/
theorem law_end {K : PySem.W.Frag} {H : Hp} {a : Addr} {ns : List Int} {sp : DSp} (hO : Only H) (hS : SqL K H a (ns.map V.int)) (h : sp [.seq (ns.map D.int)] (fun _ => none) (fun d _ => d = D.bl true) (fun _ _ => False)) :
    spD K 1 sp [.ref a] H (fun v _ => v = .bl true) (fun _ _ _ => False) := by
  refine ⟨[.seq (ns.map D.int)], fun _ => none, fun d _ => d = D.bl true, fun _ _ => False, rfl, RA.cons ?_ RA.nil, (fun _ _ z => nomatch z), h, ?_, fun _ _ _ _ _ _ _ _ z => False.elim z⟩
  · unfold R
    refine ⟨a, _, rfl, ?_, RA.ints⟩
    rcases hS with (z | ⟨o, z⟩) | z
    · rcases hO a with y | ⟨o, xs, y⟩
      · rw [z] at y; cases y
      · rw [z] at y; cases y
    · exact .inl ⟨o, z⟩
    · exact .inr fun H' => .inr z
  · intro v H' d M' _ r _ e
    subst e
    exact r.bl_v
theorem no_exc {P : Program} {w : World} {H : Hp} {s : Shared} {e : Value} {s' : Shared} (h : L2.CX P w [] H s (fun _ _ _ => False) e s') : False := by
  obtain ⟨_, _, _, _, _, _, _, _, _, _, _, _, z⟩ := h
  exact z
theorem law_fn {P : Program} {w : World} {K : PySem.W.Frag} {mg : Str → Option Value} {base : Heap} {k : Nat} {sp : DSp} {fa : Addr} {x : Str} {ps : List Str} (G : Dn P w K mg base x ps k sp) (hfa : mg x = some (.ref fa)) : ∃ fd : FuncData, Bd fd ps ∧ FnOk P w K mg base (L2.CX P w) k fa fd ps (spD K ps.length sp) := by
  obtain ⟨f, fd, hm, hk, hb, hl, F⟩ := G
  rw [hfa] at hm
  cases hm
  exact ⟨fd, hb, F⟩
theorem df_mk {K : PySem.W.Frag} {h : Heap} {mg : Str → Option Value} {x : Str} {st : Stmt} {ps : List Str} {f : Addr} {oc : Value} {od an : Option Addr} {osl : Array (Option Value)} {kV doc pm cdv ct : Value} (X : K.In h) (G : h.Ns mainGlobals mg)
    (a : PySem.W.nsIn K mainGlobals x = some (some (.ref f))) (l : K.lookup f = some ⟨oc, od, .func (PySem.W.fnOf x x (defArgs st) (defBody st) (defScope st) .none kV doc pm an cdv ct), osl⟩) (c : PySem.W.codeIn K cdv x = true) (k : PySem.W.keepIn K (.ref f) = true)
    (b : Bd (PySem.W.fnOf x x (defArgs st) (defBody st) (defScope st) .none kV doc pm an cdv ct) ps) : Df K mg x st ps := ⟨f, _, PySem.W.mg_of X G a, fun_mk l c k, b⟩
theorem law_fn2 {P : Program} {w : World} {K : PySem.W.Frag} {mg : Str → Option Value} {base : Heap} {k : Nat} {sp : DSp} {fa : Addr} {fd : FuncData} {x : Str} {ps : List Str} {st : Stmt} (G : Dn P w K mg base x ps k sp) (hfa : mg x = some (.ref fa)) (F : Fun K x x st fa fd) : FnOk P w K mg base (L2.CX P w) k fa fd ps (spD K ps.length sp) := by
  obtain ⟨f, fd2, hm, hk, hb, ⟨oc, od, osl, hl⟩, F2⟩ := G
  rw [hfa] at hm
  cases hm
  obtain ⟨oc', od', kV, doc, pm, an, cdv, ct, osl', e, lk, hcd⟩ := F.ex
  rw [hl] at lk
  cases lk
  exact F2
end DL

set_option Elab.async false
set_option linter.all false
set_option maxRecDepth 100000
set_option maxHeartbeats 4000000
namespace DL
open PySem PySem.Spec L2
/-- a def called where nothing is being shown (repr) -/
structure FnG (P : Program) (w : World) (K : PySem.W.Frag) (mg : Str → Option Value) (base : Heap) (k : Nat) (f : Addr) (fd : FuncData) (ps : List Str) (sp : Sp) : Prop where
  len : ∀ vs H Q E, sp vs H Q E → vs.length = ps.length
  run : ∀ (A : Around) (outer : List Env) (s : Shared) (H : Hp) (args : Args) (us : List Value) (vs : List V) (Q : VK) (E : XK), Room k A → A.guards = some [] → Env0 P w K mg base A outer s H → BindsTo s fd args (ps.zip us) → Vals vs us → sp vs H Q E →
    codeAny (model P w) A (.call (.ref f) args) (CR (L2.CX P w) outer P w H s Q E) s
section
variable {P : Program} {w : World} {K : PySem.W.Frag} {mg : Str → Option Value} {base : Heap}
theorem FnG.mono {j k : Nat} {f : Addr} {fd : FuncData} {ps : List Str} {sp : Sp} (F : FnG P w K mg base j f fd ps sp) (h : j ≤ k) : FnG P w K mg base k f fd ps sp :=
  ⟨F.len, fun A outer s H args us vs Q E hr => F.run A outer s H args us vs Q E (hr.mono h)⟩
open PyProof.Rows in
theorem fng_of {x qual : Str} {st : Stmt} {f : Addr} {fd : FuncData} {N ps : List Str} {k : Nat} {sp : Sp} (F : Fun K x qual st f fd) (S : FnScope N ps (defScope st)) (len : ∀ vs H Q E, sp vs H Q E → vs.length = ps.length)
    (hbody : ∀ (cdv : Value) (A : Around) (outer : List Env) (s : Shared) (H : Hp) (vs : List V) (Q : VK) (E : XK), Room k (A.deeper (envOfC qual (defScope st) s.heap.objs.size f cdv)) → A.guards = some [] → sp vs H Q E →
      ∃ t, PSs (cxOf (L2.CX P w) P w K mg base N qual (defScope st) f cdv A outer s H E) (defBody st) t ∧ t { nx := fun _ H' => Q .non H', rt := Q } (L2.start N vs) H) : FnG P w K mg base (k + 1) f fd ps sp := by
  obtain ⟨oc, od, kV, doc, pm, an, cdv, ct, osl, rfl, lk, hcd⟩ := F.ex
  constructor
  · exact len
  intro A outer s H args us vs Q E hr hgd e0 hb r hsp
  have hl := len _ _ _ _ hsp
  have stands : ∀ b o, base.get? b = some o → s.heap.get? b = some o := fun b o e => (e0.bs b o e).1
  have KX : K.In s.heap := e0.mod.kin.keeps stands
  have lim : s.heap.NoLimit := e0.mod.nolimit.keeps stands
  have kinds : ∀ y ∈ ps.zip us, (defScope st).names.lookup y.1 = some .local ∨ ((defScope st).names.lookup y.1 = some .cell ∧ ((cellsFrom (s.heap.objs.size + 1) (defScope st).names []).lookup y.1).isSome = true) := by
    rintro ⟨n, v⟩ hy
    exact (S.par n (List.of_mem_zip hy).1).imp id fun q => ⟨q, PySem.W.cellsFrom_some _ _ _ (.inl q)⟩
  refine codeAny_call_function hr.depth (KX _ _ lk) rfl S.co S.gen rfl (PySem.W.codeRec_of KX hcd) (hb _ _ _ _ ?_)
  refine wpAny_newFunctionEnv_cells S.kind kinds ?_
  rintro env rfl s1 x
  refine ⟨lim.keeps x.toInCall.keep, codeAny_func ?_⟩
  obtain ⟨t, ht, hq⟩ := hbody cdv A outer s H vs Q E (hr.deeper _) hgd hsp
  have I : Inv (cxOf (L2.CX P w) P w K mg base N qual (defScope st) f cdv A outer s H E) [] (L2.start N vs) H s1 := inv_start S hr.hd e0 hl r x
  refine wpAny_mono (ht.run [] s1 (L2.start N vs) H _ I hq) ?_ fun _ _ z => z
  rintro (_ | _ | _ | u) s' hs
  · obtain ⟨σ', H', J, q⟩ := hs
    exact ⟨.non, H', J.os, J.bare, J.base, J.hok, rfl, q⟩
  all_goals first
    | (obtain ⟨v, σ', H', J, rv, q⟩ := hs; exact ⟨v, H', J.os, J.bare, J.base, J.hok, rv, q⟩)
    | (obtain ⟨_, _, _, q⟩ := hs; exact q.elim)
end

/-- the same, with its data promise -/
def Dg (P : Program) (w : World) (K : PySem.W.Frag) (mg : Str → Option Value) (base : Heap) (x : Str) (ps : List Str) (k : Nat) (sp : DSp) : Prop :=
  ∃ (f : Addr) (fd : FuncData), mg x = some (.ref f) ∧ PySem.W.keepIn K (.ref f) = true ∧ Bd fd ps ∧ (∃ oc od osl, K.lookup f = some ⟨oc, od, .func fd, osl⟩) ∧ FnG P w K mg base k f fd ps (spD K ps.length sp)
section
variable {P : Program} {w : World} {K : PySem.W.Frag} {mg : Str → Option Value} {base : Heap}
theorem okG {x : Str} {st : Stmt} {N ps : List Str} {k : Nat} {sp : DSp} (F : Df K mg x st ps) (S : FnScope N ps (defScope st)) (hps : ps.length ≤ N.length)
    (hbody : ∀ (f : Addr) (cdv : Value) (A : Around) (outer : List Env) (s : Shared) (H : Hp) (E : XK), Room k (A.deeper (PyProof.Rows.envOfC x (defScope st) s.heap.objs.size f cdv)) → (A.deeper (PyProof.Rows.envOfC x (defScope st) s.heap.objs.size f cdv)).guards = some [] →
      ∃ ds : DS, PSs (cxOf (L2.CX P w) P w K mg base N x (defScope st) f cdv A outer s H E) (defBody st) (uS K (fun cls d _ H => E cls d H) ds) ∧ ∀ as M Qd Xd, as.length = ps.length → sp as M Qd Xd → ds (endsD Qd Xd) (startD N.length as) M) :
    Dg P w K mg base x ps (k + 1) sp := by
  obtain ⟨f, fd, hm, hF, hb⟩ := F
  obtain ⟨oc, od, kV, doc, pm, an, cdv, ct, osl, e, lk, hcd⟩ := id hF.ex
  refine ⟨f, fd, hm, hF.kp, hb, ⟨oc, od, osl, lk⟩, fng_of hF S (fun vs H Q E h => ?_) fun cdv A outer s H vs Q E hr hg h => ?_⟩
  · obtain ⟨ds, M, Qd, Xd, hl, ra, _⟩ := h
    exact ra.len.trans hl
  · obtain ⟨as, M, Qd, Xd, hl, ra, hr2, hsp, l, x⟩ := h
    obtain ⟨ds, h1, h2⟩ := hbody f cdv A outer s H E hr hg
    refine ⟨_, h1, startD N.length as, M, endsD Qd Xd, en_start (by omega) ra, hr2, h2 as M Qd Xd hl hsp, ?_⟩
    exact ⟨fun σ' H' ρ' M' s' en' hr' q => rtD.ld l .non H' .non M' s' R.nonI hr' q, rtD.ld l, fun _ _ _ _ _ _ _ z => z.elim, fun _ _ _ _ _ _ _ z => z.elim, fun c od fs σ' H' ρ' M' s' xr en' hr' q => x c od fs H' M' s' xr hr' q⟩
end
section
variable {X : Cx} {W : WX} {e : Expr} {es : List Expr} {dag : DA} {pos : Pos}
theorem run_fnG {k : Nat} {f : Addr} {fd : FuncData} {ps : List Str} {sp : Sp} {E : L2.St → XK} {pins : List (Addr × Obj)} {σ : L2.St} {H : Hp} {s : Shared} {Q : VK} {us : List Value} {vs : List V} (F : FnG X.prog X.w X.K X.mg X.base k f fd ps sp) (hr : Room k X.A) (hgd : X.A.guards = some []) (hb : Bd fd ps) (hx : PassesAt (L2.CX X.prog X.w) X σ (E σ))
    (I : Inv X pins σ H s) (r : Vals vs us) (h : sp vs H Q (E σ)) : wpAny (model X.prog X.w) X.A (call (.ref f) us) (EP X pins σ Q) X.xe s := by
  have b : BindsTo s fd ⟨us, []⟩ (ps.zip us) := .of_eq (hb us (r.length.symm.trans (F.len _ _ _ _ h)))
  refine wpAny_call (codeAny_mono (F.run X.A X.stack s H ⟨us, []⟩ us vs Q (E σ) hr hgd I.env0 b r h) ?_)
  rintro (e | fl) s' hq
  · exact hx pins H s e s' I hq
  · cases fl with
    | ret u => exact I.after hq
    | next => exact False.elim hq
    | brk => exact False.elim hq
    | cont => exact False.elim hq
theorem dd_fnG {x : Str} {p : Pos} {k : Nat} {ps : List Str} {sp : DSp} (G : Dg X.prog X.w X.K X.mg X.base x ps k sp) (hr : Room k X.A) (hgd : X.A.guards = some []) (hg : Gl X x) (tk : Takes X W) (ha : PA X (e :: es) (uA X.K W dag)) {n : Nat} (hn : ps.length = n := by exact rfl) (hd : (x == ("__debug__" : Str)) = false := by decide)
    (he : starEach (e :: es) X.env = (false, eval e X.env) :: starEach es X.env := by exact rfl) (hpl : (backTo pos (starEach es X.env)).any (·.1) = false := by exact rfl) :
    PE X (.Call (.Name x p) (e :: es) [] pos) (uE X.K W (dFn sp n dag)) := by
  subst hn
  obtain ⟨f, fd, hm, hk, hb, hl, F⟩ := G
  constructor
  intro pins s σ H Q I ⟨ρ, M, Qd, Xd, en, hr2, h, q, x2⟩
  refine wpAny_Call_Name_kw (ld_glob I hg hm ?_ hd)
  refine PySem.W.callWith_K (h₀ := X.base) I.ok.mod.kin hk (thn (ha.run pos pins s σ H (fun vs H1 => spD X.K ps.length sp vs H1 Q (WE W σ)) I ⟨ρ, M, _, Xd, en, hr2, h, fun vs H1 ds M1 s1 r1 hr1 h1 => ⟨ds, M1, Qd, Xd, h1.1, r1, hr1, h1.2, q.stp s1, fun c od fs H' M' s2 xr hr2 h2 => x2 c od fs H' M' (s1.trans s2) xr hr2 h2⟩, x2⟩) ?_) he hpl
  rintro us s1 ⟨vs, H1, I1, r, q1⟩
  exact ⟨I1.kIn, run_fnG F hr hgd hb (passAt tk σ) I1 r q1⟩
mutual
theorem pyOf_flat : ∀ {d : D} {p : PyData}, pyOf d = some p → p.hasDict = false
  | .non, _, h => by unfold pyOf at h; cases h; rfl
  | .bl _, _, h => by unfold pyOf at h; cases h; rfl
  | .int _, _, h => by unfold pyOf at h; cases h; rfl
  | .str _, _, h => by unfold pyOf at h; cases h; rfl
  | .ty _, _, h => by unfold pyOf at h; cases h
  | .exc .., _, h => by unfold pyOf at h; cases h
  | .dct .., _, h => by unfold pyOf at h; cases h
  | .dtt .., _, h => by unfold pyOf at h; cases h
  | .ref _, _, h => by unfold pyOf at h; cases h
  | .tup ds, _, h => by
    unfold pyOf at h
    cases q : pyOfs ds with
    | none => rw [q] at h; cases h
    | some ps => rw [q] at h; cases h; unfold PyData.hasDict; exact pyOfs_flat q
  | .lst ds, _, h => by
    unfold pyOf at h
    cases q : pyOfs ds with
    | none => rw [q] at h; cases h
    | some ps => rw [q] at h; cases h; unfold PyData.hasDict; exact pyOfs_flat q
  | .seq ds, _, h => by
    unfold pyOf at h
    cases q : pyOfs ds with
    | none => rw [q] at h; cases h
    | some ps => rw [q] at h; cases h; unfold PyData.hasDict; exact pyOfs_flat q
theorem pyOfs_flat : ∀ {ds : List D} {ps : List PyData}, pyOfs ds = some ps → PyData.hasDictAll ps = false
  | [], _, h => by unfold pyOfs at h; cases h; rfl
  | d :: ds, _, h => by
    unfold pyOfs at h
    cases q : pyOf d with
    | none => simp [q] at h
    | some p =>
      cases q2 : pyOfs ds with
      | none => simp [q, q2] at h
      | some pr =>
        simp only [q, q2] at h
        cases h
        unfold PyData.hasDictAll
        rw [pyOf_flat q, pyOfs_flat q2] <;> rfl
end
theorem pyM_flat {M : DM} {d : D} {p : PyData} (h : pyM M d = some p) : p.hasDict = false := by
  unfold pyM at h
  split at h
  · split at h
    · rename_i ds _
      cases q : pyOfs ds with
      | none => rw [q] at h; cases h
      | some ps => rw [q] at h; cases h; unfold PyData.hasDict; exact pyOfs_flat q
    · cases h
  · exact pyOf_flat h
def rRepr (K : PySem.W.Frag) : List V → Hp → VK → Prop := fun xs H Q => ∃ x p, xs = [x] ∧ Dp K H x p ∧ p.hasDict = false ∧ p.showable = true ∧ p.depth ≤ 60 ∧ p.shown.length ≤ sizeLine ∧ Q (.str p.shown) H
theorem call_reprD (hgd : X.A.guards = some []) (hu : X.A.units + 64 < cLine) : CallR X (.builtin "repr") (rRepr X.K) := by
  intro pins s σ H xs us Q I r h
  obtain ⟨x, p, rfl, dp, hd, hs, hdp, hz, q⟩ := h
  obtain ⟨u, rfl, ru⟩ := vals1 r
  obtain ⟨as, rd⟩ := Dp.reads I p x u dp ru
  cases dp with
  | non =>
    cases (show u = Value.none from ru)
    exact PySem.P.repr_of_none ⟨.str _, H, I.tok _, ⟨_, rfl⟩, q⟩
  | bl b =>
    cases (show u = Value.bool b from ru)
    exact PySem.P.repr_of_bool ⟨.str _, H, I.tok _, ⟨_, rfl⟩, q⟩
  | int i =>
    obtain ⟨t, rfl⟩ := ru
    exact PySem.P.repr_of_int (by simpa [PyData.showable] using hs) ⟨.str _, H, I.tok _, ⟨_, rfl⟩, q⟩
  | str z =>
    obtain ⟨t, rfl⟩ := ru
    exact PySem.P.repr_of_str ⟨.str _, H, I.tok _, ⟨_, rfl⟩, q⟩ hz
  | lst hs2 ha =>
    cases ru
    refine repr_of_reads' rd hs (fun z => by rw [hd] at z; cases z) hgd (by omega) (fun b o e => e) (fun h' u tk k => ?_) hz
    exact ⟨.str _, H, I.kept k, ⟨_, rfl⟩, q⟩
  | tup hs2 ha =>
    cases ru
    refine repr_of_reads' rd hs (fun z => by rw [hd] at z; cases z) hgd (by omega) (fun b o e => e) (fun h' u tk k => ?_) hz
    exact ⟨.str _, H, I.kept k, ⟨_, rfl⟩, q⟩
end
def reprF (ds : List D) (M : DM) (Q : DK) : Prop := on1 ds fun d => onO (pyM M d) fun p => p.showable = true ∧ p.depth ≤ 60 ∧ p.shown.length ≤ sizeLine ∧ Q (.str p.shown) M
theorem cv_repr {K : PySem.W.Frag} : CaV K (rRepr K) reprF := by
  intro H M vs ds Q Qd hr ra h1 q
  obtain ⟨v, d, e, r, h2⟩ := on1_of ra h1
  obtain ⟨p, hp, h3, h4, h5, h6⟩ := onO_of h2
  exact ⟨v, p, e, pyM_of hr r hp, pyM_flat hp, h3, h4, h5, q _ H _ M .refl R.strI hr h6⟩

/-! ### the law's end -/
open PyProof.Rows in
theorem law_callD {P : Program} {w : World} {K : PySem.W.Frag} {mg mb : Str → Option Value} {k : Nat} {fa a : Addr} {fd : FuncData} {x : Str} {sp : DSp} {s₁ : Shared} {vs : List Value} {ns : List Int}
    (KX : K.In s₁.heap) (hns : s₁.heap.Ns mainGlobals mg) (hb : s₁.heap.Ns builtinsNs mb) (hbb : ∀ x : Str, x ≠ "__name__" → mb x = bootBuiltins x) (hlim : s₁.heap.NoLimit) (hg : s₁.gens = #[])
    (ha : s₁.heap.get? a = some { cls := .type "list", data := .seq vs.toArray }) (hi : IntsAre vs ns) (hl : ns.length ≤ sizeLine) (hr : Room k callerA)
    (F : ∀ base : Heap, K.In base → base.Ns mainGlobals mg → FnG P w K mg base k fa fd [x] (spD K 1 sp)) (hbind : ∀ (s : Shared) (u : Value), BindsTo s fd ⟨[u], []⟩ [(x, u)])
    (h : sp [.seq (ns.map D.int)] (fun _ => none) (fun d _ => d = D.bl true) (fun _ _ => False)) :
    codeAny (model P w) callerA (.call (.ref fa) ⟨[.ref a], []⟩) (fun r s' => r = .ok (.ret (.bool true)) ∧ OldK s₁.heap s'.heap ∧ s'.os = s₁.os ∧ AllBare s'.gens) s₁ := by
  have rv : Vals (ns.map V.int) vs := vals_of_ints hi
  -- the script is known and nothing else; or it is the module's own, and nothing is known
  have go : ∀ H : Hp, (∀ b u, H b = some u → b = a ∧ K.lookup b = none ∧ u = .frz { cls := .type "list", data := .seq vs.toArray } (.lst (ns.map V.int))) → SqL K H a (ns.map V.int) →
      codeAny (model P w) callerA (.call (.ref fa) ⟨[.ref a], []⟩) (fun r s' => r = .ok (.ret (.bool true)) ∧ OldK s₁.heap s'.heap ∧ s'.os = s₁.os ∧ AllBare s'.gens) s₁ := by
    intro H hH hS
    have hok : HOk P w H s₁.heap := fun b u e => by
      obtain ⟨rfl, _, rfl⟩ := hH b u e
      exact ⟨ha, by rw [List.length_map]; exact hl, vs, _, rv, ha⟩
    have hO : Only H := fun b => by
      cases q : H b with
      | none => exact .inl rfl
      | some u => exact .inr ⟨_, _, by rw [(hH b u q).2.2]⟩
    have notA : ∀ {b : Addr} {o : Obj} {es : Array DictEntry} {ep : Nat}, s₁.heap.get? b = some o → o.data = .dict es ep → H b = none := by
      intro b o es ep e1 e2
      cases q : H b with
      | none => rfl
      | some u =>
        obtain ⟨rfl, _, _⟩ := hH b u q
        rw [ha] at e1
        cases e1
        cases e2
    have ns1 : ∀ {b : Addr} {m : Str → Option Value}, s₁.heap.Ns b m → (hidT s₁.heap H).Ns b m := by
      rintro b m ⟨o, es, ep, e, d, r⟩
      exact ⟨o, es, ep, hidT_get e (notA e d), d, r⟩
    have kb : K.In (hidT s₁.heap H) := fun b o e => hidT_get (KX b o e) (by
      cases q : H b with
      | none => rfl
      | some u =>
        rw [(hH b u q).2.1] at e
        cases e)
    obtain ⟨mc, l1, l2⟩ := hlim
    have e0 : Env0 P w K mg (hidT s₁.heap H) callerA [] s₁ H := ⟨rfl, ⟨kb, ns1 hns, ⟨mb, ns1 hb, hbb⟩, ⟨mc, ns1 l1, l2⟩⟩, fun b o e => of_hidT e, Nat.le_of_eq (hidT_size _ _), trivial, (fun b z => nomatch z), hok, .of_eq hg⟩
    refine codeAny_mono ((F _ kb (ns1 hns)).run callerA [] s₁ H ⟨[.ref a], []⟩ [.ref a] [.ref a] _ _ hr rfl e0 (hbind s₁ (.ref a)) (.cons rfl .nil) (law_end hO hS h)) ?_
    rintro (e | fl) s' z
    · exact (no_exc z).elim
    · cases fl with
      | next => exact False.elim z
      | brk => exact False.elim z
      | cont => exact False.elim z
      | ret u =>
        obtain ⟨v, H', os, bare, un, hok', r', q⟩ := z
        have q' : v = .bl true := q
        subst q'
        cases (show u = Value.bool true from r')
        refine ⟨rfl, OldK.of_keep fun b o e => ?_, os, bare⟩
        cases q : H b with
        | none => exact un.keep b o e q (fun z => nomatch z) (fun z => nomatch z)
        | some u =>
          obtain ⟨rfl, _, eu⟩ := hH b u q
          rw [eu] at q
          obtain ⟨e2, _⟩ := hok' b _ (un.frzs b _ _ q)
          rw [ha] at e
          cases e
          exact e2
  cases hk : K.lookup a with
  | some o =>
    have e := KX a o hk
    rw [ha] at e
    cases e
    refine go (fun _ => none) (fun _ _ z => nomatch z) (.inr ⟨_, vs.toArray, _, hk, rfl, rfl, rfl, ?_, rv⟩)
    rw [List.size_toArray, hi.length]
    exact hl
  | none =>
    refine go (fun b => if b = a then some (.frz { cls := .type "list", data := .seq vs.toArray } (.lst (ns.map V.int))) else none) (fun b u z => ?_) (.inl (.inr ⟨_, if_pos rfl⟩))
    by_cases hb : b = a
    · rw [if_pos hb] at z
      cases z
      exact ⟨hb, by rw [hb]; exact hk, rfl⟩
    · rw [if_neg hb] at z
      cases z
theorem walk_D {l : PySem.W.OpenLaw} {n k : Nat} {q : Program} {loose : List Str} {XP : (Str → Option Value) → Heap → Prop} {YP : World → Heap → Prop} {d : DefRec} {K : Params → PySem.W.Frag} {sp : DSp} {x : Str}
    (hn : l.most = some n) (hn2 : n ≤ sizeLine) (hdf : d.params.defaults = []) (hr : Room k callerA) (hY : ∀ (w : World) (h : Heap), YP w h → (K w.params).In h)
    (F : ∀ (w : World) (mg : Str → Option Value) (fa : Addr) (h : Heap), (K w.params).In h → h.Ns mainGlobals mg → mg d.name = some (.ref fa) →
      ∃ fd : FuncData, (∀ (s : Shared) (u : Value), BindsTo s fd ⟨[u], []⟩ [(x, u)]) ∧ ∀ base : Heap, (K w.params).In base → base.Ns mainGlobals mg → FnG l.prog w (K w.params) mg base k fa fd [x] (spD (K w.params) 1 sp))
    (h : ∀ ns : List Int, ns.length ≤ n → (∀ z ∈ ns, Builtin.Int.intBits z ≤ 1048576) → sp [.seq (ns.map D.int)] (fun _ => none) (fun d _ => d = D.bl true) (fun _ _ => False)) :
    PySem.W.WalkO q loose XP YP l.row.toRowW d [] (fun f vs => PySem.call f vs) := by
  refine Att.attach_callB hn hdf ?_
  intro w s₀ s₁ mg mb fa o pm cd doc a vs ns G Y ho hd hcd hmg hobj hints hlen hbits hg
  have KX := hY w _ Y
  obtain ⟨fd, hb, hF⟩ := F w mg fa _ KX G.T.g hmg
  exact law_callD KX G.T.g G.T.b G.T.builtins G.T.nolimit hg hobj hints (Nat.le_trans hlen hn2) hr hF hb (h ns hlen hbits)
theorem FnG.of {P : Program} {w : World} {K : PySem.W.Frag} {mg : Str → Option Value} {base : Heap} {k : Nat} {f : Addr} {fd : FuncData} {ps : List Str} {sp : Sp} (F : FnOk P w K mg base (L2.CX P w) k f fd ps sp) : FnG P w K mg base k f fd ps sp :=
  ⟨F.len, fun A outer s H args us vs Q E hr _ => F.run A outer s H args us vs Q E hr⟩
theorem Dn.g {P : Program} {w : World} {K : PySem.W.Frag} {mg : Str → Option Value} {base : Heap} {k : Nat} {x : Str} {ps : List Str} {sp : DSp} (G : Dn P w K mg base x ps k sp) : Dg P w K mg base x ps k sp := by
  obtain ⟨f, fd, hm, hk, hb, hl, F⟩ := G
  exact ⟨f, fd, hm, hk, hb, hl, .of F⟩
theorem law_fnG {P : Program} {w : World} {K : PySem.W.Frag} {mg : Str → Option Value} {base : Heap} {k : Nat} {sp : DSp} {fa : Addr} {fd : FuncData} {x : Str} {ps : List Str} {st : Stmt} (G : Dg P w K mg base x ps k sp) (hfa : mg x = some (.ref fa)) (F : Fun K x x st fa fd) : FnG P w K mg base k fa fd ps (spD K ps.length sp) := by
  obtain ⟨f, fd2, hm, hk, hb, ⟨oc, od, osl, hl⟩, F2⟩ := G
  rw [hfa] at hm
  cases hm
  obtain ⟨oc', od', kV, doc, pm, an, cdv, ct, osl', e, lk, hcd⟩ := F.ex
  rw [hl] at lk
  cases lk
  exact F2
end DL

set_option Elab.async false
set_option linter.all false
set_option maxRecDepth 100000
set_option maxHeartbeats 4000000
/-! Exceptions of the program's own, straight over a built-in class, with one field each. -/
namespace DL
open PySem PySem.Spec L2
/-- what the written part says of such a class, T the base's mro -/
structure OwnX (K : PySem.W.Frag) (C : Addr) (B newId initId : String) (T : List Value) : Prop where
  fb : ExcBaseFacts B newId initId T
  st : StoreFacts B T "object.__setattr__" "object"
  cls : ∃ nm q N bs sn sub ab col dd k0 k1 k2 k3 k5, K.lookup C = some (excClassObj nm q C N bs T true sn sub ab col dd k0 k1 k2 k3 k5 newId)
  ov : PySem.W.excOver K C T = true
  sa : PySem.W.findIn K (.ref C) "__setattr__" = some (some (.builtin "object.__setattr__"))
  exC : PySem.W.subIn K (.ref C) (.type "BaseException") = some true
  tyC : PySem.W.typeIn K (.ref C) = some (.type "type")
  kC : PySem.W.keepIn K (.ref C) = true
section
variable {K : PySem.W.Frag} {C : Addr} {B newId initId : String} {T : List Value}
theorem OwnX.data (o : OwnX K C B newId initId T) : ∃ cd, PySem.W.clsIn K C = some cd ∧ cd.hasDict = true := by
  obtain ⟨nm, q, N, bs, sn, sub, ab, col, dd, k0, k1, k2, k3, k5, h⟩ := o.cls
  have e : PySem.W.clsIn K C = some { name := nm, bases := bs, mro := .ref C :: T, ns := N, qualname := q, hasDict := true, slotNames := sn, subclasses := sub, abstract := ab, collection := col, hasDel := false } := by
    unfold PySem.W.clsIn
    rw [h] <;> rfl
  exact ⟨_, e, rfl⟩
/-- the first field of a new exception, over the heap -/
theorem set_first {prog : Program} {w : World} {A : Around} {E : Value → Shared → Prop} {hp : Heap} {g : Array GenState} {dr : Drawn} {tk0 : Nat} {os : OsState} {x t1 : Addr} {name : Str} {u : Value} {Q : Unit → Shared → Prop} (o : OwnX K C B newId initId T) (ht : PySem.W.takerIn K C name = some none)
    (KX : K.In hp) (hx : hp.get? x = some (PySem.W.excObj C t1 none .none))
    (q : ∀ h' tk, (∀ b v, b ≠ x → hp.get? b = some v → h'.get? b = some v) → h'.get? x = some (PySem.W.excObj C t1 (some hp.objs.size) .none) → h'.Ns1 hp.objs.size (fun y => if y = name then some u else none) → Q () ⟨h', g, dr, tk, os⟩) :
    wpAny (model prog w) A (setAttr (.ref x) name u) Q E ⟨hp, g, dr, tk0, os⟩ := by
  obtain ⟨cd, hc, hd⟩ := o.data
  have ne : x ≠ hp.objs.size := Nat.ne_of_lt (Heap.lt_size hx)
  refine PySem.W.set_plain KX (od := none) ⟨hx, rfl, rfl, trivial⟩ o.sa (PySem.W.osa_openX (s := ⟨hp, g, dr, tk0 + 1, os⟩) (od := none) o.st KX ⟨hx, rfl, rfl, trivial⟩ o.ov ht fun b => ?_)
  refine wpAny_bind (wpAny_pure (wpAny_bind (PySem.W.instanceDict_exc (s := ⟨hp, g, dr, tk0 + 1, os⟩) hx (PySem.W.looks_clsIn KX hc) hd ?_)))
  show wpAny _ _ (Builtin.ObjectAttr.storeInDict hp.objs.size (.str name tk0) name u) _ _ _
  refine PySem.HandSPX.store_in_new ?_ fun h' tk' hn hs => ?_
  · exact ⟨_, #[], _, (Heap.get?_update_ne _ _ _ _ ne.symm).trans (Heap.get?_push_at rfl rfl), rfl, fun e he => absurd he (by simp), fun _ => rfl⟩
  · refine q h' tk' (fun b v hb hv => ?_) ?_ hn
    · exact (hs.2 b (Nat.ne_of_lt (Heap.lt_size hv))).trans ((Heap.get?_update_ne _ _ _ _ hb).trans (Heap.get?_push_of_some _ hv))
    · exact (hs.2 x ne).trans (Heap.get?_update_self _ (Heap.get?_push_of_some _ hx) rfl)
end
/-- a built-in exception class, as a base -/
structure BaseX (B newId initId : String) (T : List Value) : Prop where
  fb : ExcBaseFacts B newId initId T
  st : StoreFacts B T "object.__setattr__" "object"
  ty : typeOf (.type B) = pure (.type "type")
  stub : Manifest.isStub B = false
  iC : ∀ K, PySem.W.findCls K (.type B) (.type "type") "__init__" = some (.val (.builtin initId))
  hand : PySem.W.handedIn (.builtin initId) = true
  boot : bootBuiltins (B : Str) = some (.type B)
  nn : (B : Str) ≠ "__name__"
  nd : ((B : Str) == ("__debug__" : Str)) = false
/-- how such a call is read, told at the written text -/
def CallShape (B : String) (p1 p2 pos : Pos) (es : List Expr) (env : Env) : Prop := ∃ pl : Sem Bool, eval (.Call (.Attribute (.Name (B : Str) p1) "__init__" p2) es [] pos) env = (do
      let ov ← eval (.Name (B : Str) p1) env
      standAt p2.atName
      let (f, first) ← holding [ov] (getMethod ov "__init__" pl)
      callWith pos f first (backTo pos (starEach es env)) (backToKw pos (keywordEach [] env)))
theorem baseVE : BaseX "ValueError" "ValueError.__new__" "ValueError.__init__" [.type "ValueError", .type "Exception", .type "BaseException", .type "object"] :=
  ⟨PySem.F.excBase_ValueError, PySem.F.store_ValueError, by kernel_rfl, by decide +kernel, fun K => by kernel_rfl, by decide +kernel, PyProof.Rows.Boot.«ValueError», by decide +kernel, by decide +kernel⟩
theorem baseLE : BaseX "LookupError" "LookupError.__new__" "LookupError.__init__" [.type "LookupError", .type "Exception", .type "BaseException", .type "object"] :=
  ⟨PySem.F.excBase_LookupError, PySem.F.store_LookupError, by kernel_rfl, by decide +kernel, fun K => by kernel_rfl, by decide +kernel, PyProof.Rows.Boot.«LookupError», by decide +kernel, by decide +kernel⟩
theorem baseRE : BaseX "RuntimeError" "RuntimeError.__new__" "RuntimeError.__init__" [.type "RuntimeError", .type "Exception", .type "BaseException", .type "object"] :=
  ⟨PySem.F.excBase_RuntimeError, PySem.F.store_RuntimeError, by kernel_rfl, by decide +kernel, fun K => by kernel_rfl, by decide +kernel, PyProof.Rows.Boot.«RuntimeError», by decide +kernel, by decide +kernel⟩
theorem baseOE : BaseX "OverflowError" "OverflowError.__new__" "OverflowError.__init__" [.type "OverflowError", .type "ArithmeticError", .type "Exception", .type "BaseException", .type "object"] :=
  ⟨PySem.F.excBase_OverflowError, PySem.F.store_OverflowError, by kernel_rfl, by decide +kernel, fun K => by kernel_rfl, by decide +kernel, PyProof.Rows.Boot.«OverflowError», by decide +kernel, by decide +kernel⟩
section
variable {X : Cx} {pins : List (Addr × Obj)} {σ : L2.St} {H : Hp} {s : Shared} {a C : Addr} {f : Str} {y : V} {u : Value} {B newId initId : String} {T : List Value}
/-- self.f = y, the first one -/
theorem inv_first {Q : Unit → Shared → Prop} {E : Value → Shared → Prop} {A : Around} (o : OwnX X.K C B newId initId T) (ht : PySem.W.takerIn X.K C f = some none) (I : Inv X pins σ H s) (e : H a = some (exo a C none)) (ry : RelV y u)
    (q : ∀ dx s', H dx = none → dx ≠ a → Inv X pins σ (upd (upd H dx (exd dx [(f, y)])) a (exo a C (some dx))) s' → Q () s') : wpAny (model X.prog X.w) A (setAttr (.ref a) f u) Q E s := by
  obtain ⟨t1, hx⟩ := exo_at I.hok e
  obtain ⟨hp, g, dr, tk, os⟩ := s
  refine set_first o ht I.kIn hx fun h' tk' kp hx' hn' => ?_
  generalize hdx : hp.objs.size = dx at hx' hn'
  have nw : H dx = none := I.hok.fresh (Nat.le_of_eq hdx)
  have ner : dx ≠ a := fun z => by rw [z, e] at nw; cases nw
  have od : ∀ {b : Addr} {o : Obj}, hp.get? b = some o → b ≠ dx := fun {b o} z w => by
    have := Heap.lt_size z
    rw [w, ← hdx] at this
    exact Nat.lt_irrefl _ this
  have oa : ∀ {b : Addr}, H b = none → b ≠ a := fun {b} n z => by rw [z, e] at n; cases n
  refine q dx _ nw ner (I.un (t' := tk') ⟨fun b o z n _ _ => kp b o (oa n) z, fun b o z n _ _ => ⟨o.slots, kp b o (oa n) z⟩, fun b o z n _ => ?_, fun b o z _ => ?_, fun b xs z => ?_, fun b o v z => ?_, fun b ps z => ⟨#[], ?_⟩⟩ fun b o z => ?_)
  · rw [upd_ne (oa n), upd_ne (od z)]
    exact n
  · by_cases hb : b = a
    · subst hb
      exact ⟨_, hx'⟩
    · exact ⟨o, kp b o hb z⟩
  · rw [upd_ne (at_ne e z exo_tup), upd_ne (ne_of_none z nw)]
    exact z
  · rw [upd_ne (at_ne e z exo_frz), upd_ne (ne_of_none z nw)]
    exact z
  · rw [upd_ne (at_ne e z exo_tbl), upd_ne (ne_of_none z nw), z]
    simp
  · by_cases hb : b = a
    · subst hb
      rw [upd_same] at z
      cases z
      exact exo_ok hx'
    · rw [upd_ne hb] at z
      by_cases hd : b = dx
      · subst hd
        rw [upd_same] at z
        cases z
        exact exd_ok hn' (relO_put (fs := []) ry fun _ => True.intro)
      · rw [upd_ne hd] at z
        have hx2 : ∀ {c : Addr}, H c = some (.own b) → c ≠ a ∧ c ≠ dx := fun {c} hc => ⟨at_ne e hc exo_own, ne_of_none hc nw⟩
        refine (I.hok b o z).stay (fun c v hc w => kp c v ?_ w) (fun c hc => by rw [upd_ne (hx2 hc).1, upd_ne (hx2 hc).2]; exact hc) fun c xs hc => by rw [upd_ne (at_ne e hc exo_tup), upd_ne (ne_of_none hc nw)]; exact hc
        rcases hc with hc | hc
        · rw [hc]
          exact hb
        · exact (hx2 hc).1
/-- B.__init__(self, ..) -/
theorem inv_base {us : List Value} {Q : Value → Shared → Prop} {E : Value → Shared → Prop} {A : Around} (o : OwnX X.K C B newId initId T) (I : Inv X pins σ H s) (e : H a = some (exo a C none)) (hl : us.length ≤ sizeLine) (q : ∀ s', Inv X pins σ H s' → Q .none s') :
    wpAny (model X.prog X.w) A (call (.builtin initId) (.ref a :: us)) Q E s := by
  obtain ⟨nm, qn, N, bs, sn, sub, ab, col, dd, k0, k1, k2, k3, k5, hC⟩ := o.cls
  obtain ⟨t1, hx⟩ := exo_at I.hok e
  obtain ⟨hp, g, dr, tk, os⟩ := s
  refine wpAny_call (PySem.HandSPX.init_base o.fb (fun _ => rfl) (I.kIn _ _ hC) hx hl fun h' t2 kp hx' => ?_)
  have J := I.write (t' := tk) (x := a) (e := a) (o := exo a C none) (by rw [e]; exact True.intro) (.inl rfl) kp ⟨_, hx'⟩ (exo_ok hx')
  have same : upd H a (exo a C none) = H := funext fun b => by
    by_cases hb : b = a
    · rw [hb, upd_same, e]
    · exact upd_ne hb
  exact q _ (same ▸ J)
def tBI (K : PySem.W.Frag) (B newId initId : String) (T : List Value) (ta : TA) : TE := fun σ H Q => ta σ H fun vs H1 => ∃ (a C : Addr) (ws : List V), vs = .ref a :: ws ∧ ws.length ≤ 1000 ∧ OwnX K C B newId initId T ∧ H1 a = some (exo a C none) ∧ Q .non H1
def tFF (K : PySem.W.Frag) (B newId initId : String) (T : List Value) (f : Str) (to te : TE) : TS := fun D σ H => te σ H fun y H1 => to σ H1 fun x H2 => ∃ a C : Addr, x = .ref a ∧ OwnX K C B newId initId T ∧ PySem.W.takerIn K C f = some none ∧ H2 a = some (exo a C none) ∧
  ∀ dx, H2 dx = none → dx ≠ a → D.nx σ (upd (upd H2 dx (exd dx [(f, y)])) a (exo a C (some dx)))
variable {o e : Expr} {es : List Expr} {to te : TE} {ta : TA} {p p' p1 p2 pos : Pos}
theorem pe_bi (F : BaseX B newId initId T) (hg : Gl X (B : Str)) (hm : X.mg (B : Str) = none) (ha : PA X (e :: es) ta) (hc : CallShape B p1 p2 pos (e :: es) X.env)
    (he : starEach (e :: es) X.env = (false, eval e X.env) :: starEach es X.env := by exact rfl) (hpl : (backTo pos (starEach es X.env)).any (·.1) = false := by exact rfl) :
    PE X (.Call (.Attribute (.Name (B : Str) p1) "__init__" p2) (e :: es) [] pos) (tBI X.K B newId initId T ta) := by
  constructor
  intro pins s σ H Q I h
  obtain ⟨m, fr⟩ := I.fr
  obtain ⟨pl, hc⟩ := hc
  refine PySem.W.methodCall_KW (ld_blt I hg hm F.boot (PySem.W.method_type fr I.ok.mod.kin F.ty F.stub (F.iC _) F.hand ?_) F.nn F.nd) hc
  show wpAny _ _ (callWith pos (Value.builtin initId) [] (backTo pos (starEach (e :: es) X.env)) []) _ _ _
  refine PyProof.Rows.callWith_method1 (thn (ha.run pos pins _ σ H _ (I.tok _) h) ?_) he hpl
  rintro us s1 ⟨vs, H1, I1, r1, a, C, ws, rfl, hl, T1, ea, q⟩
  cases r1 with
  | @cons _ u0 _ ur ra rw' =>
    cases (show u0 = Value.ref a from ra)
    exact inv_base T1 I1 ea (by rw [← Paired.length rw', sizeLine_eq]; omega) fun s' J => ⟨.non, H1, J, rfl, q⟩
theorem ps_ff (ho : PE X o to) (he : PE X e te) (hs : swapsWith e (some (.Attribute o f p')) pos.line X.env = pure false := by exact rfl) : PS X (.Assign [.Attribute o f p'] e pos) (tFF X.K B newId initId T f to te) := by
  constructor
  intro pins s σ H D I h
  refine plainObj_wpAny_Assign_Attribute (thn (he.run pins s σ H _ I h) ?_) hs
  rintro v s1 ⟨y, H1, I1, r1, q1⟩
  refine thn (ho.run pins s1 σ H1 _ I1 q1) ?_
  rintro u s2 ⟨x, H2, I2, r2, a, C, rfl, T1, ht, ea, q⟩
  cases (show u = Value.ref a from r2)
  exact inv_first T1 ht I2 ea r1 fun dx s' n ne J => ⟨σ, _, J, q dx n ne⟩
end
/-- what an __init__ of one argument, kept as the field f, does -/
def spI (K : PySem.W.Frag) (C : Addr) (f : Str) : Sp := fun vs H Q _ => ∃ (a : Addr) (v : V), vs = [.ref a, v] ∧ H a = some (exo a C none) ∧ ∀ dx, H dx = none → dx ≠ a → Q .non (upd (upd H dx (exd dx [(f, v)])) a (exo a C (some dx)))
section
variable {P : Program} {w : World} {K : PySem.W.Frag} {mg : Str → Option Value} {base : Heap} {B newId initId : String} {T : List Value} {C : Addr}
/-- def __init__(self, f): B.__init__(self, 'text'); self.f = f -/
theorem ok_init {x qual f m : Str} {st : Stmt} {fa : Addr} {fd : FuncData} {j : Nat} {q1 q2 q3 q4 q5 q6 q7 q8 q9 q10 : Pos} (Bx : BaseX B newId initId T) (O : OwnX K C B newId initId T) (ht : PySem.W.takerIn K C f = some none) (F : Fun K x qual st fa fd) (S : FnScope ["self", f] ["self", f] (defScope st))
    (hb : defBody st = [.Expr (.Call (.Attribute (.Name (B : Str) q1) "__init__" q2) [.Name "self" q3, .Constant (.str m) j q4] [] q5) q6, .Assign [.Attribute (.Name "self" q7) f q8] (.Name f q9) q10])
    (hc : ∀ env, CallShape B q1 q2 q5 [.Name "self" q3, .Constant (.str m) j q4] env) (hg : (defScope st).names.lookup (B : Str) = some .globalImplicit) (hm : mg (B : Str) = none) (hd : (f == ("__debug__" : Str)) = false) (hcd : (f == ("__classdict__" : Str)) = false) (hs : (defScope st).names.lookup ("self" : Str) = some .local) (hf : (defScope st).names.lookup f = some .local) :
    FnOk P w K mg base (L2.CX P w) 1 fa fd ["self", f] (spI K C f) := by
  refine F.okX S (fun vs H Q E h => ?_) (fun cdv A outer s H vs Q E hr h => ?_)
  · obtain ⟨a, v, rfl, _⟩ := h
    rfl
  · obtain ⟨a, v, rfl, ea, q⟩ := h
    refine ⟨tSeq (fun D σ H => tBI K B newId initId T (tCons (tVar 0) (tCons (tC (.str m)) tNil)) σ H fun _ H1 => D.nx σ H1) (tFF K B newId initId T f (tVar 0) (tVar 1)), ?_, ?_⟩
    · rw [hb]
      refine pss_cons (ps_expr (pe_bi Bx ?_ hm ?_ (hc _))) (pss_one (ps_ff ?_ ?_))
      · exact hg
      · exact pa_cons (pe_var (i := 0) rfl (.inl hs)) (pa_cons pe_str pa_nil)
      · exact pe_var (i := 0) rfl (.inl hs)
      · exact pe_var (i := 1) rfl (.inl hf) hd hcd
    · unfold tSeq
      refine ⟨.ref a, rfl, ?_⟩
      refine ⟨a, C, [.str m], rfl, by simp, O, ea, ?_⟩
      refine ⟨v, rfl, ?_⟩
      exact ⟨.ref a, rfl, a, C, rfl, O, ht, ea, q⟩
end
section
variable {X : Cx} {B newId initId : String} {T : List Value} {C fI : Addr} {e : Expr} {te : TE} {x f : Str} {p pos pos' : Pos}
/-- C(e), as raised -/
def tMkX (C : Addr) (f : Str) (te : TE) : L2.St → Hp → XK → Prop := fun σ H Q => te σ H fun v H1 => ∀ d, H1 d = none → Q (.ref C) (some d) (upd H1 d (.xd [(f, v)]))
theorem pmk_x {k : Nat} {fd : FuncData} (O : OwnX X.K C B newId initId T) (iC : PySem.W.findIn X.K (.ref C) "__init__" = some (some (.ref fI))) (tI : PySem.W.typeIn X.K (.ref fI) = some (.type "function")) (F1 : FnOk X.prog X.w X.K X.mg X.base (L2.CX X.prog X.w) k fI fd ["self", f] (spI X.K C f))
    (hr : Room (k + 1) X.A) (hb : Bd fd ["self", f]) (hg : Gl X x) (hm : X.mg x = some (.ref C)) (he : PE X e te) (hdb : (x == ("__debug__" : Str)) = false := by decide) (hse : starEach (e :: []) X.env = (false, eval e X.env) :: starEach [] X.env := by exact rfl) (hpl : (backTo pos (starEach [] X.env)).any (·.1) = false := by exact rfl) :
    PMk X (.Call (.Name x p) [e] [] pos) (tMkX C f te) := by
  intro pins s σ H Q I h
  obtain ⟨nm, qn, N, bs, sn, sub, ab, col, dd, k0, k1, k2, k3, k5, hC⟩ := O.cls
  refine wpAny_Call_Name_kw (ld_glob I hg hm ?_ hdb)
  refine PySem.W.callWith_K (h₀ := X.base) I.ok.mod.kin O.kC (thn ((pa_cons he pa_nil hse).run pos pins s σ H (fun vs H1 => ∃ v, vs = [v] ∧ ∀ d, H1 d = none → Q (.ref C) (some d) (upd H1 d (.xd [(f, v)]))) I ?_) ?_) hse hpl
  · show te σ H _
    have same : (fun v H1 => tNil σ H1 fun xs H2 => ∃ v2, v :: xs = [v2] ∧ ∀ d, H2 d = none → Q (.ref C) (some d) (upd H2 d (.xd [(f, v2)]))) = fun v H1 => ∀ d, H1 d = none → Q (.ref C) (some d) (upd H1 d (.xd [(f, v)])) := by
      funext v H1
      refine propext ⟨?_, fun z => ⟨v, rfl, z⟩⟩
      rintro ⟨v2, ev, z⟩
      cases ev
      exact z
    rw [same]
    exact h
  rintro us s1 ⟨vs, H1, I1, r1, v, rfl, q1⟩
  refine ⟨I1.kIn, ?_⟩
  obtain ⟨u, rfl, ru⟩ := vals1 r1
  show wpAny _ _ (call (.ref C) [u]) _ _ _
  obtain ⟨hp, g, dr, tk, os⟩ := s1
  generalize ha : hp.objs.size + 1 = a
  have above : hp.objs.size ≤ a := by omega
  have hn : H1 a = none := I1.hok.fresh above
  have kk : ∀ b o, hp.get? b = some o → ((hp.push (PySem.W.kdv_tup [u])).push (PySem.HandSPX.excO C hp.objs.size)).get? b = some o := fun b o z => Heap.get?_push_of_some _ (Heap.get?_push_of_some _ z)
  have new : ((hp.push (PySem.W.kdv_tup [u])).push (PySem.HandSPX.excO C hp.objs.size)).get? a = some (PySem.HandSPX.excO C hp.objs.size) := by
    subst ha
    heap_get
  have I2 : Inv X pins σ (upd H1 a (exo a C none)) ⟨(hp.push (PySem.W.kdv_tup [u])).push (PySem.HandSPX.excO C hp.objs.size), g, dr, tk, os⟩ := I1.laid (t' := tk) kk above (exo_ok new)
  have sp : spI X.K C f [.ref a, v] (upd H1 a (exo a C none)) (fun w H2 => w = .non ∧ ∃ d, H2 a = some (exo a C (some d)) ∧ H2 d = some (exd d [(f, v)]) ∧ H1 d = none ∧ Q (.ref C) (some d) (upd (del H2 a) d (.xd [(f, v)]))) fun _ _ _ => False := by
    refine ⟨a, v, rfl, upd_same, fun dx nd ne => ⟨rfl, dx, upd_same, by rw [upd_ne ne, upd_same], by rw [upd_ne ne] at nd; exact nd, ?_⟩⟩
    rw [upd_ne ne] at nd
    have same : upd (del (upd (upd (upd H1 a (exo a C none)) dx (exd dx [(f, v)])) a (exo a C (some dx))) a) dx (.xd [(f, v)]) = upd H1 dx (.xd [(f, v)]) := by
      funext b
      by_cases hb : b = dx
      · rw [hb, upd_same, upd_same]
      · rw [upd_ne hb, upd_ne hb]
        by_cases hb2 : b = a
        · rw [hb2, del_same, hn]
        · rw [del_ne hb2, upd_ne hb2, upd_ne hb, upd_ne hb2]
    rw [same]
    exact q1 dx nd
  have r2 : Vals (V.ref a :: [v]) (Value.ref a :: [u]) := .cons rfl (.cons ru .nil)
  subst ha
  refine wpAny_call (PySem.HandSPX.call_own O.fb (fun _ => rfl) (I1.kIn _ _ hC) (PySem.W.looks_findIn I1.kIn iC) (fun self => PySem.W.bind_fn I1.kIn self tI) (by rw [sizeLine_eq]; exact (by decide : 1 ≤ 16777216))
    (codeAny_mono (F1.run _ X.stack _ _ ⟨[Value.ref (hp.objs.size + 1), u], []⟩ _ _ _ (fun _ _ _ => False) (hr.make C [u] []) (I2.env0.make C [u] []) (.of_eq (hb _ rfl)) r2 sp) ?_))
  rintro (er | fl) s' z
  · exact L2.passL pins σ _ _ er s' I2 z
  · cases fl with
    | ret w =>
      obtain ⟨v2, H2, os2, bare2, un2, hok2, rv, rfl, d, ea, ed, hd1, q2⟩ := z
      obtain ⟨h2, g2, d2, t2, os'⟩ := s'
      exact ⟨rv, mk_end (raises_own O.exC O.tyC) I1 above kk un2 hok2 os2 bare2 ea ed hd1 q2⟩
    | next => exact z.elim
    | brk => exact z.elim
    | cont => exact z.elim
end
/-! ### except clauses, several, each with a name or without one -/
abbrev Hd := Value × Option Nat × (Addr → Value → Option Addr → TS)
/-- what is behind a suite whose name stood in the slot -/
def sufE (io : Option Nat) (D : Ends) : Ends := match io with
  | some i => { nx := fun σ H => D.nx (σ.set i none) H, rt := D.rt, bk := fun σ H => D.bk (σ.set i none) H, ct := fun σ H => D.ct (σ.set i none) H }
  | none => D
def bindE (io : Option Nat) (σ : L2.St) (a : Addr) : L2.St := match io with
  | some i => σ.set i (some (.ref a))
  | none => σ
def wHds (K : PySem.W.Frag) (Wout : WX) (D : Ends) : List Hd → WX
  | [] => Wout
  | (c, io, ts) :: r => fun cls d σ H => ∃ b, PySem.W.exmOne K cls c = some b ∧ (b = true → ∀ a, H a = none → ts a cls d (sufE io D) (bindE io σ a) H) ∧ (b = false → wHds K Wout D r cls d σ H)
inductive HdsX (X : Cx) : List ExceptHandler → List Hd → Prop
  | nil : HdsX X [] []
  | as {x n : Str} {c : Value} {i : Nat} {ts : Addr → Value → Option Addr → TS} {b0 : Stmt} {su : List Stmt} {np p' : Pos} {hds : List ExceptHandler} {l : List Hd} (hi : X.N[i]? = some n) (hl : X.env.kindOf n = some .local) (hc : Names X x c)
      (hs : ∀ (a : Addr) (oe : Obj) (cls : Value) (d : Option Addr) (pn : List (Addr × Obj)), Zc cls d oe → (∃ vs, oe.data = .fields vs) → PSs (X.suite a ((a, oe) :: pn)) (b0 :: su) (ts a cls d)) (r : HdsX X hds l) : HdsX X (.ExceptHandler (some (.Name x np)) (some n) (b0 :: su) p' :: hds) ((c, some i, ts) :: l)
  | only {x : Str} {c : Value} {ts : Addr → Value → Option Addr → TS} {b0 : Stmt} {su : List Stmt} {np p' : Pos} {hds : List ExceptHandler} {l : List Hd} (hc : Names X x c)
      (hs : ∀ (a : Addr) (oe : Obj) (cls : Value) (d : Option Addr) (pn : List (Addr × Obj)), Zc cls d oe → (∃ vs, oe.data = .fields vs) → PSs (X.suite a ((a, oe) :: pn)) (b0 :: su) (ts a cls d)) (r : HdsX X hds l) : HdsX X (.ExceptHandler (some (.Name x np)) none (b0 :: su) p' :: hds) ((c, none, ts) :: l)
section
variable {X : Cx} {body : List Stmt} {h0 : ExceptHandler} {hds : List ExceptHandler} {l : List Hd} {pos : Pos} {tb : WX → TS} {Wout : WX}
theorem ps_try_hds (hN : X.N.Nodup) (hs : X.stack = X.env :: X.outer) (hf : X.env.frame = some X.env.locals) (tk : Takes X Wout)
    (hb : ∀ (W : WX) (pn : List (Addr × Obj)) (xe : Value → Shared → Prop), Takes (X.tr pn xe) W → PassesOwn (model X.prog X.w) X.A X.env xe → PSs (X.tr pn xe) body (tb W)) (hh : HdsX X (h0 :: hds) l) :
    PS X (.Try body (h0 :: hds) [] [] pos) (fun D σ H => tb (wHds X.K Wout D l) D σ H) := by
  constructor
  intro pins s σ H D I h
  have ok := I.ok
  have fr : X.A.frames = some (X.env :: X.outer) := by rw [ok.frames, hs]
  refine wpAny_Try_except (wpAny_mono ((hb (wHds X.K Wout D l) (X.pn ++ pins) (fun e s1 => wpAny (model X.prog X.w) X.A (noteFrame e X.env) (fun _ s2 => wpAny (model X.prog X.w) X.A (setFlight e none) (fun _ s3 => wpAny (model X.prog X.w) X.A (handleBy e X.env (h0 :: hds)) (SP X pins D) X.xe s3) X.xe s2) X.xe s1) ?_ PassesOwn.looking).run [] s σ H D (I.toTry _) h) ?_ fun _ _ z => z)
  · rintro u s' ⟨a, G, sI, pins', σ', H', cls, d, rfl, J', nb, up, sky, na, os, ag, wsh⟩
    have J : Inv X pins σ' H' sI := J'.ofTry ok
    rw [hs] at sky
    refine Sky.land Zc.steady fr hf sky fun h3 fl up3 => ?_
    have J3 : Inv X pins σ' H' { s' with heap := h3 } := J.landed nb fl.1 (up.trans up3) os ag
    obtain ⟨oe, vs, ge, ze, de⟩ := fl.there
    have off : ∀ {h4 : Heap} {o : Obj} {ws : Array Value}, h4.FunFrames G (X.env :: X.outer) → h4.get? a = some o → o.data = .fields ws → a ≠ X.env.locals ∧ a ∉ X.fs := by
      intro h4 o ws ff e1 e2
      have no : a ∉ frs (X.env :: X.outer) := fun hm => by
        obtain ⟨_, o2, e3, nf⟩ := ff.mem hm
        rw [e1] at e3
        cases e3
        exact nf _ e2
      exact ⟨fun z => no (List.mem_filterMap.mpr ⟨X.env, List.mem_cons_self, by rw [hf, z]⟩), fun hm => by
        obtain ⟨e, he, q⟩ := List.mem_filterMap.mp hm
        exact no (List.mem_filterMap.mpr ⟨e, List.mem_cons_of_mem _ he, q⟩)⟩
    obtain ⟨nL, nF⟩ := off fl.2.2.1 ge de
    have S3 := J3.suite ge de na nL nF
    have LT : PySem.W.Looks (model X.prog X.w) h3 (typeOf (.ref a)) cls := fun A Q E s k q => wpAny_typeOf_ref (k _ _ ge) (by rw [ze.1]; exact q)
    have named : ∀ {x : Str} {c : Value} {np : Pos} {Q : Value → Shared → Prop} {E : Value → Shared → Prop}, Names X x c → Q c { s' with heap := h3 } → wpAny (model X.prog X.w) (X.A.mark (some (.ref a))) (eval (.Name x np) X.env) Q E { s' with heap := h3 } := by
      rintro x c np Q E ⟨hg, hd, hm | ⟨hm, hv, hn⟩⟩ q
      · exact ld_glob (X := X.suite a ((a, oe) :: (X.pn ++ pins))) S3 hg hm q hd
      · exact ld_blt (X := X.suite a ((a, oe) :: (X.pn ++ pins))) S3 hg hm hv q hn hd
    have again : ∀ {A : Around} {E : Value → Shared → Prop} {Q : Unit → Shared → Prop}, (∀ h4 oe4, Inv (X.suite a ((a, oe4) :: (X.pn ++ pins))) [] σ' H' { s' with heap := h4 } → Zc cls d oe4 → (∃ ws, oe4.data = .fields ws) → Q () { s' with heap := h4 }) → wpAny (model X.prog X.w) A (setFlight (.ref a) none) Q E { s' with heap := h3 } := by
      intro A E Q q
      refine HandSPX.lands_againZ fl fun h4 fl4 up4 => ?_
      obtain ⟨oe4, ws, g4, z4, d4⟩ := fl4.there
      have J4 : Inv X pins σ' H' { s' with heap := h4 } := J.landed nb fl4.1 ((up.trans up3).trans up4) os ag
      exact q h4 oe4 (J4.suite g4 d4 na nL nF) z4 ⟨ws, d4⟩
    have go : ∀ {hds' : List ExceptHandler} {l' : List Hd}, HdsX X hds' l' → wHds X.K Wout D l' cls d σ' H' → wpAny (model X.prog X.w) X.A (handleBy (.ref a) X.env hds') (SP X pins D) X.xe { s' with heap := h3 } := by
      intro hds' l' hk
      induction hk with
      | nil =>
        intro wo
        refine wpAny_handleBy_nil ?_
        obtain ⟨k1, k2, k3, o5, v5, tr, oT, ts', g5, z5, d5, h1, hr⟩ := id fl
        have fin : wpAny (model X.prog X.w) X.A (setFlight (.ref a) X.env.frame) (fun _ s4 => wpAny (model X.prog X.w) X.A (throw (.ref a) : Sem Flow) (SP X pins D) X.xe s4) X.xe { s' with heap := h3 } := by
          rw [hf]
          refine HandSPX.setFlight_upZ fl fun h4 hh4 up4 => wpAny_throw (tk _ _ ⟨a, G, sI, pins, σ', H', cls, d, rfl, J, nb, (up.trans up3).trans up4, ?_, na, os, ag, wo⟩)
          rw [hs]
          exact .inr (.inr hh4)
        unfold PySem.passOn
        refine wpAny_bind (wpAny_field g5 d5 h1 ?_)
        rw [if_neg (by simp)]
        first
          | exact wpAny_bind (wpAny_pure (wpAny_bind fin))
          | exact wpAny_bind fin
      | @as x n c i ts b0 su np p' hds2 l2 hi hl hc hsu r ih =>
        rintro ⟨b, hb1, yes, no⟩
        refine wpAny_handleBy_cons (codeAny_handlers_test (named hc ((PySem.W.exm_one (M := model X.prog X.w) J3.kIn LT hb1).here ?_))) (by intro q; cases q)
        cases b with
        | false => exact ih (no rfl)
        | true =>
          refine codeAny_handlers_suite_as (again fun h4 oe4 S4 z4 d4 => ?_)
          refine store_ok (X := X.suite a ((a, oe4) :: (X.pn ++ pins))) (v := .ref a) S4 hN hi (.inl hl) rfl (fun s5 S5 => ?_) (.inr hl)
          refine wpAny_mono ((hsu a oe4 cls d (X.pn ++ pins) z4 d4).run [] s5 _ H' _ S5 (yes rfl a na)) (fun fl6 s6 sp => ?_) fun _ _ z => z.elim
          have gone : ∀ {σ6 : L2.St} {H6 : Hp} {Q : Shared → Prop}, Inv (X.suite a ((a, oe4) :: (X.pn ++ pins))) [] σ6 H6 s6 → (∀ s7, Inv X pins (σ6.set i none) H6 s7 → Q s7) → wpAny (model X.prog X.w) X.A (do bindName X.env n .none; unbindBehindTheSuite X.env n p') (fun _ s7 => Q s7) X.xe s6 :=
            fun {σ6 H6 Q} S6 q => gone_ok (S6.unsuite ok) hN hi hl q
          cases fl6 with
          | ret u =>
            obtain ⟨v6, σ6, H6, S6, r6, q6⟩ := sp
            exact gone S6 fun s7 J7 => ⟨_, _, _, J7, r6, q6⟩
          | next => obtain ⟨σ6, H6, S6, q6⟩ := sp; exact gone S6 fun s7 J7 => ⟨_, _, J7, q6⟩
          | brk => obtain ⟨σ6, H6, S6, q6⟩ := sp; exact gone S6 fun s7 J7 => ⟨_, _, J7, q6⟩
          | cont => obtain ⟨σ6, H6, S6, q6⟩ := sp; exact gone S6 fun s7 J7 => ⟨_, _, J7, q6⟩
      | @only x c ts b0 su np p' hds2 l2 hc hsu r ih =>
        rintro ⟨b, hb1, yes, no⟩
        refine wpAny_handleBy_cons (codeAny_handlers_test (named hc ((PySem.W.exm_one (M := model X.prog X.w) J3.kIn LT hb1).here ?_))) (by intro q; cases q)
        cases b with
        | false => exact ih (no rfl)
        | true =>
          refine codeAny_handlers_suite (again fun h4 oe4 S4 z4 d4 => ?_)
          refine wpAny_mono ((hsu a oe4 cls d (X.pn ++ pins) z4 d4).run [] _ _ H' _ S4 (yes rfl a na)) (fun fl6 s6 sp => ?_) fun _ _ z => z.elim
          cases fl6 with
          | ret u =>
            obtain ⟨v6, σ6, H6, S6, r6, q6⟩ := sp
            exact ⟨_, _, _, S6.unsuite ok, r6, q6⟩
          | next => obtain ⟨σ6, H6, S6, q6⟩ := sp; exact ⟨_, _, S6.unsuite ok, q6⟩
          | brk => obtain ⟨σ6, H6, S6, q6⟩ := sp; exact ⟨_, _, S6.unsuite ok, q6⟩
          | cont => obtain ⟨σ6, H6, S6, q6⟩ := sp; exact ⟨_, _, S6.unsuite ok, q6⟩
    exact go hh wsh
  · intro f s1 sp
    cases f with
    | ret u =>
      obtain ⟨v, σ', H', J, r, q⟩ := sp
      exact ⟨v, σ', H', J.ofTry ok, r, q⟩
    | next => obtain ⟨σ', H', J, q⟩ := sp; exact wpAny_execs_nil ⟨σ', H', J.ofTry ok, q⟩
    | brk => obtain ⟨σ', H', J, q⟩ := sp; exact ⟨σ', H', J.ofTry ok, q⟩
    | cont => obtain ⟨σ', H', J, q⟩ := sp; exact ⟨σ', H', J.ofTry ok, q⟩
end
end DL

set_option Elab.async false
set_option linter.all false
set_option maxRecDepth 100000
set_option maxHeartbeats 4000000
/-! raise and try by data. -/
namespace DL
open PySem PySem.Spec L2
/-- a class of exceptions, ready to be raised -/
def XCls (P : Program) (w : World) (K : PySem.W.Frag) (mg : Str → Option Value) (base : Heap) (x : Str) (C : Addr) (f : Str) : Prop :=
  ∃ (B newId initId : String) (T : List Value) (fI : Addr) (fd : FuncData), OwnX K C B newId initId T ∧ PySem.W.findIn K (.ref C) "__init__" = some (some (.ref fI)) ∧ PySem.W.typeIn K (.ref fI) = some (.type "function") ∧
    FnOk P w K mg base (L2.CX P w) 1 fI fd ["self", f] (spI K C f) ∧ Bd fd ["self", f] ∧ mg x = some (.ref C)
def dRaise (C : Addr) (f : Str) (de : DE) : DS := fun N ρ M => de ρ M (fun d M1 => N.ex (.ref C, [(f, d)]) ρ M1) fun x M1 => N.ex x ρ M1
section
variable {X : Cx} {W : WX} {e : Expr} {de : DE} {x f : Str} {C : Addr} {p pos pos' : Pos}
theorem dz_raise (hc : X.calm = true) (tk : Takes X W) (Z : XCls X.prog X.w X.K X.mg X.base x C f) (hr : Room 2 X.A) (hg : Gl X x) (he : PE X e (uE X.K W de)) (hdb : (x == ("__debug__" : Str)) = false := by decide)
    (hse : starEach (e :: []) X.env = (false, eval e X.env) :: starEach [] X.env := by exact rfl) (hpl : (backTo pos (starEach [] X.env)).any (·.1) = false := by exact rfl) :
    PS X (.Raise (some (.Call (.Name x p) [e] [] pos)) none pos') (uS X.K W (dRaise C f de)) := by
  obtain ⟨B, newId, initId, T, fI, fd, O, iC, tI, F1, hb, hm⟩ := Z
  refine ps_imp (ps_raise hc tk (pmk_x O iC tI F1 hr hb hg hm he hdb hse hpl)) ?_
  rintro D σ H ⟨ρ, M, N, en, hr2, h, l⟩
  refine ⟨ρ, M, _, _, en, hr2, h, fun v H1 d M1 s1 r1 hr1 h1 dx nd => ?_, l.ex.at en⟩
  obtain ⟨s2, hr3⟩ := Stp.new (o := .xd [(f, v)]) nd hr1
  exact l.ex _ (some dx) [(f, d)] σ _ ρ M1 (s1.trans s2) ⟨_, upd_same, v, [], rfl, r1.stp s2, rfl⟩ (en.stp (s1.trans s2)) hr3 h1
end

/-! ### try -/
abbrev DHd := Value × Option Nat × (Addr → Value → Option Addr → DS)
def sufN (io : Option Nat) (N : DN) : DN := match io with
  | some i => { nx := fun ρ M => N.nx (ρ.set i none) M, rt := N.rt, bk := fun ρ M => N.bk (ρ.set i none) M, ct := fun ρ M => N.ct (ρ.set i none) M }
  | none => { nx := N.nx, rt := N.rt, bk := N.bk, ct := N.ct }
def bindX (io : Option Nat) (ρ : DR) (d : D) : DR := match io with
  | some i => ρ.set i (some d)
  | none => ρ
def catchD (io : Option Nat) (ds : Addr → Value → Option Addr → DS) (N : DN) (x : Xc) (ρ : DR) (M : DM) : Prop := match x.2 with
  | [] => ∀ a od, ds a x.1 od (sufN io N) (bindX io ρ (.ref a)) M
  | [(f, d)] => ∀ a dd, ds a x.1 (some dd) (sufN io N) (bindX io ρ (.exc a dd f d)) M
  | _ => False
def dHand (exm : Value → Value → Option Bool) : List DHd → DN → Xc → DR → DM → Prop
  | [], N, x, ρ, M => N.ex x ρ M
  | (c, io, ds) :: r, N, x, ρ, M => ∃ b, exm x.1 c = some b ∧ (b = true → catchD io ds N x ρ M) ∧ (b = false → dHand exm r N x ρ M)
def dTry (exm : Value → Value → Option Bool) (db : DS) (hs : List DHd) : DS := fun N ρ M => db { N with ex := fun x ρ1 M1 => dHand exm hs N x ρ1 M1 } ρ M
def rdH (K : PySem.W.Frag) (hs : List DHd) : List Hd := hs.map fun h => (h.1, h.2.1, fun a cls d => uS K W0 (h.2.2 a cls d))
section
variable {K : PySem.W.Frag} {W : WX} {H : Hp} {M : DM} {N : DN} {Z : Ends}
theorem En.unset {σ : L2.St} {ρ : DR} (e : En K H M σ ρ) (i : Nat) : En K H M (σ.set i none) (ρ.set i none) := e.clr i
theorem suf_ld (l : LdN K W H M N Z) (io : Option Nat) : LdN K W0 H M (sufN io N) (sufE io Z) := by
  cases io with
  | none => exact ⟨l.nx, l.rt, l.bk, l.ct, fun _ _ _ _ _ _ _ _ _ _ _ z => z.elim⟩
  | some i =>
    exact ⟨fun σ' H' ρ' M' s en hr q => l.nx _ H' _ M' s (en.clr i) hr q, l.rt, fun σ' H' ρ' M' s en hr q => l.bk _ H' _ M' s (en.clr i) hr q, fun σ' H' ρ' M' s en hr q => l.ct _ H' _ M' s (en.clr i) hr q, fun _ _ _ _ _ _ _ _ _ _ _ z => z.elim⟩
theorem bind_en {σ : L2.St} {ρ : DR} {a : Addr} {d : D} (e : En K H M σ ρ) (r : R K H M (.ref a) d) (io : Option Nat) : En K H M (bindE io σ a) (bindX io ρ d) := by
  cases io with
  | none => exact e
  | some i => exact e.set i r
theorem catch_in {io : Option Nat} {ds : Addr → Value → Option Addr → DS} {c : Value} {od : Option Addr} {fs : List (Str × D)} {σ : L2.St} {ρ : DR} (l : LdN K W H M N Z) (xr : XdR K H M od fs) (en : En K H M σ ρ) (hr : HR K H M) (h : catchD io ds N (c, fs) ρ M) (a : Addr) :
    uS K W0 (ds a c od) (sufE io Z) (bindE io σ a) H := by
  match fs, xr, h with
  | [], xr, h => exact ⟨_, M, _, bind_en en R.refI io, hr, h a od, suf_ld l io⟩
  | [(f, d)], xr, h =>
    cases od with
    | none => cases xr
    | some dd =>
      obtain ⟨gs, e1, y, r, e2, r1, e3⟩ := xr
      cases e3
      subst e2
      refine ⟨_, M, _, bind_en en ?_ io, hr, h a dd, suf_ld l io⟩
      unfold R
      exact ⟨rfl, y, e1, r1⟩
  | _ :: _ :: _, _, h => exact h.elim
theorem hand_in : ∀ (hs : List DHd) {c : Value} {od : Option Addr} {fs : List (Str × D)} {σ : L2.St} {ρ : DR} {H : Hp} {M : DM}, LdN K W H M N Z → XdR K H M od fs → En K H M σ ρ → HR K H M → dHand (PySem.W.exmOne K) hs N (c, fs) ρ M → wHds K W Z (rdH K hs) c od σ H
  | [], c, od, fs, σ, ρ, H, M, l, xr, en, hr, h => l.ex c od fs σ H ρ M .refl xr en hr h
  | (k, io, ds) :: r, c, od, fs, σ, ρ, H, M, l, xr, en, hr, h => by
    obtain ⟨b, e, yes, no⟩ := h
    exact ⟨b, e, fun z a _ => catch_in l xr en hr (yes z) a, fun z => hand_in r l xr en hr (no z)⟩
end
section
variable {X : Cx} {W : WX} {body : List Stmt} {h0 : ExceptHandler} {hds : List ExceptHandler} {hs : List DHd} {db : DS} {pos : Pos}
theorem dz_try (hN : X.N.Nodup) (hst : X.stack = X.env :: X.outer) (hf : X.env.frame = some X.env.locals) (tk : Takes X W)
    (hb : ∀ (W : WX) (pn : List (Addr × Obj)) (xe : Value → Shared → Prop), Takes (X.tr pn xe) W → PassesOwn (model X.prog X.w) X.A X.env xe → PSs (X.tr pn xe) body (uS X.K W db)) (hh : HdsX X (h0 :: hds) (rdH X.K hs)) :
    PS X (.Try body (h0 :: hds) [] [] pos) (uS X.K W (dTry (PySem.W.exmOne X.K) db hs)) := by
  refine ps_imp (ps_try_hds (tb := fun W => uS X.K W db) hN hst hf tk hb hh) ?_
  rintro D σ H ⟨ρ, M, N, en, hr, h, l⟩
  exact ⟨ρ, M, _, en, hr, h, l.nx, l.rt, l.bk, l.ct, fun c od fs σ' H' ρ' M' s xr en' hr' q => hand_in hs (l.stp s) xr en' hr' q⟩
/-- e.f, e the exception that the suite holds -/
def dXf (a : Addr) (cls : Value) (od : Option Addr) (C : Addr) (i : Nat) (f : Str) : DE := fun ρ M Q _ => match ρ[i]?, od with
  | some (some (.exc a' d' f' x)), some d => a' = a ∧ d' = d ∧ f' = f ∧ cls = .ref C ∧ Q x M
  | _, _ => False
theorem dd_xf {a C : Addr} {oe : Obj} {cls : Value} {d : Option Addr} {pn : List (Addr × Obj)} {i : Nat} {n f : Str} {p1 p2 : Pos} (T : XfC X.K C) (hno : PySem.W.findIn X.K (.ref C) f = some none) (hz : Zc cls d oe) (hf : ∃ vs, oe.data = .fields vs)
    (hN : X.N[i]? = some n) (hv : Vis X.env.scope n) (hd : (n == ("__debug__" : Str)) = false := by decide) (hcd : (n == ("__classdict__" : Str)) = false := by decide) (hb : attributeBase (.Name n p1) f X.env (eval (.Name n p1) X.env) = eval (.Name n p1) X.env := by exact rfl) :
    PE (X.suite a ((a, oe) :: pn)) (.Attribute (.Name n p1) f p2) (uE X.K W (dXf a cls d C i f)) := by
  refine pe_imp (pe_xf T hno hz hf (pe_var (X := X.suite a ((a, oe) :: pn)) (i := i) hN hv hd hcd) hb) ?_
  rintro σ H Q ⟨ρ, M, Qd, Xd, en, hr, h, q, _⟩
  unfold dXf at h
  split at h
  · rename_i a' d' f' x d2 e1
    obtain ⟨rfl, rfl, rfl, rfl, h⟩ := h
    obtain ⟨v, e2, r⟩ := en.2 i _ e1
    have r' := r
    unfold R at r'
    obtain ⟨rfl, y, e3, ry⟩ := r'
    exact ⟨_, e2, rfl, rfl, d', _, y, rfl, e3, by simp, q y H x M .refl ry hr h⟩
  · exact h.elim
end
end DL

set_option Elab.async false
set_option linter.all false
set_option maxRecDepth 100000
set_option maxHeartbeats 4000000
/-! isinstance, all, sum, is None, a tuple many times, {}, defs as values. -/
namespace DL
open PySem PySem.Spec L2
section
variable {K : PySem.W.Frag} {H : Hp} {M : DM} {X : Cx} {W : WX} {v : V} {d : D}
def tyD (M : DM) : D → Option String
  | .non => some "NoneType"
  | .bl _ => some "bool"
  | .int _ => some "int"
  | .str _ => some "str"
  | .tup _ => some "tuple"
  | .lst _ => some "list"
  | .seq _ => some "list"
  | .dct _ _ => some "dict"
  | .ref a => match M a with
    | some (.lst _) => some "list"
    | some (.dct _ _) => some "dict"
    | _ => none
  | _ => none
theorem sqT_ty {a : Addr} {xs : List V} (h : SqT K H a xs) : TyX K H (.ref a) (.type "tuple") := by
  rcases h with (h | ⟨o, h⟩) | ⟨o, its, n, e, c, _⟩
  · exact .base (.tup h)
  · exact .fTuple h
  · exact .kTuple e c
theorem sqL_ty {a : Addr} {xs : List V} (h : SqL K H a xs) : TyX K H (.ref a) (.type "list") := by
  rcases h with (h | ⟨o, h⟩) | ⟨o, its, n, e, c, _⟩
  · exact .base (.lst h)
  · exact .base (.frz h)
  · exact .kList e c
theorem tyD_of {t : String} (hr : HR K H M) (r : R K H M v d) (h : tyD M d = some t) : TyX K H v (.type t) := by
  cases d with
  | non => cases h; unfold R at r; rw [r]; exact .base .non
  | bl b => cases h; rw [r.bl_v]; exact .base (.bl b)
  | int b => cases h; rw [r.int_v]; exact .base (.int b)
  | str b => cases h; rw [r.str_v]; exact .base (.str b)
  | ty n => cases h
  | exc a d f x => cases h
  | tup ds =>
    cases h
    obtain ⟨a, xs, e, h1, _⟩ := r.tup_v
    rw [e]
    exact sqT_ty h1
  | lst ds =>
    cases h
    obtain ⟨a, xs, e, h1, _⟩ := r.lst_v
    rw [e]
    exact .base (.lst h1)
  | seq ds =>
    cases h
    obtain ⟨a, xs, e, h1, _⟩ := r.seq_v
    rw [e]
    exact sqL_ty h1
  | dct ks ds =>
    cases h
    unfold R at r
    obtain ⟨a, xs, e, h1, _⟩ := r
    rw [e]
    exact .base (.dK h1)
  | dtt kvs => cases h
  | ref a =>
    have e := r.ref_v
    unfold tyD at h
    cases q : M a with
    | none => simp [q] at h
    | some o =>
      have z := hr a o q
      cases o with
      | lst ds =>
        simp [q] at h
        subst h
        obtain ⟨_, xs, h1, _⟩ := z
        rw [e]
        exact .base (.lst h1)
      | dct ks ds =>
        simp [q] at h
        subst h
        obtain ⟨_, _, xs, h1, _⟩ := z
        rw [e]
        exact .base (.dK h1)
      | ins C fs => simp [q] at h
def isiF (ds : List D) (M : DM) (Q : DK) : Prop := match ds with
  | [x, .ty T] => onO (tyD M x) fun t => onO (kitB t T) fun b => Q (.bl b) M
  | _ => False
theorem cv_isi : CaV K (rIsi K) isiF := by
  intro H M vs ds Q Qd hr ra h q
  unfold isiF at h
  split at h
  · rename_i x T
    obtain ⟨v, w, e, r1, r2⟩ := ra.two
    obtain ⟨t, e1, h1⟩ := onO_of h
    obtain ⟨b, e2, h2⟩ := onO_of h1
    have e3 : w = .ty T := by unfold R at r2; exact r2
    exact ⟨v, w, .type t, .type T, b, e, e3 ▸ .ty T, tyD_of hr r1 e1, kit_ty e2, q _ H _ M .refl R.blI hr h2⟩
  · exact h.elim
theorem dd_ty {x : Str} {T : String} {pos : Pos} (hg : Gl X x) (hm : X.mg x = none) (hv : bootBuiltins x = some (.type T)) (hn : x ≠ "__name__" := by decide) (hd : (x == ("__debug__" : Str)) = false := by decide) : PE X (.Name x pos) (uE X.K W (dC (.ty T))) :=
  dd_c (pe_bltn (v := .ty T) hg hm hv rfl hn hd) fun _ _ => by unfold R; rfl
/-- a def as a value -/
theorem dd_glob {x : Str} {a : Addr} {pos : Pos} (hg : Gl X x) (hm : X.mg x = some (.ref a)) (hd : (x == ("__debug__" : Str)) = false := by decide) : PE X (.Name x pos) (uE X.K W (dC (.ref a))) :=
  dd_c (pe_glob (v := .ref a) hg hm rfl hd) fun _ _ => R.refI
/-! ### all, any, sum of a list -/
def allB (ds : List D) : Option (List Bool) := match ds with
  | [] => some []
  | .bl b :: r => (allB r).map (b :: ·)
  | _ => none
theorem allB_of : ∀ {ds : List D} {bs : List Bool} {xs : List V}, RA K H M xs ds → allB ds = some bs → xs = bs.map V.bl
  | [], bs, xs, r, h => by
    unfold RA at r
    cases h
    exact r
  | d :: ds, bs, xs, r, h => by
    unfold RA at r
    obtain ⟨x, ys, e, h1, h2⟩ := r
    unfold allB at h
    split at h
    · rename_i e2; cases e2
    · rename_i b r2 e2
      cases e2
      obtain ⟨cs, h3, rfl⟩ := Option.map_eq_some_iff.mp h
      rw [e, h1.bl_v, allB_of h2 h3] <;> rfl
    · cases h
theorem allB_map {α : Type} (f : α → Bool) : ∀ xs : List α, allB (xs.map fun x => D.bl (f x)) = some (xs.map f)
  | [] => rfl
  | x :: xs => by
    simp only [List.map_cons, allB, allB_map f xs, Option.map_some]
def allF (ds : List D) (M : DM) (Q : DK) : Prop := on1 ds fun d => onO (lstM M d) fun es => onO (allB es) fun bs => Q (.bl (bs.all id)) M
def anyF (ds : List D) (M : DM) (Q : DK) : Prop := on1 ds fun d => onO (lstM M d) fun es => onO (allB es) fun bs => Q (.bl (bs.any id)) M
theorem cv_all : CaV K (rAll K) allF := by
  intro H M vs ds Q Qd hr ra h q
  obtain ⟨v, d, e, r, h1⟩ := on1_of ra h
  obtain ⟨es, e1, h2⟩ := onO_of h1
  obtain ⟨bs, e2, h3⟩ := onO_of h2
  obtain ⟨a, xs, e3, h4, h5⟩ := lstM_of hr r e1
  have e4 := allB_of h5 e2
  subst e4
  exact ⟨a, bs, by rw [e, e3], SqL.of h4, q _ H _ M .refl R.blI hr h3⟩
theorem cv_any : CaV K (rAny K) anyF := by
  intro H M vs ds Q Qd hr ra h q
  obtain ⟨v, d, e, r, h1⟩ := on1_of ra h
  obtain ⟨es, e1, h2⟩ := onO_of h1
  obtain ⟨bs, e2, h3⟩ := onO_of h2
  obtain ⟨a, xs, e3, h4, h5⟩ := lstM_of hr r e1
  have e4 := allB_of h5 e2
  subst e4
  exact ⟨a, bs, by rw [e, e3], SqL.of h4, q _ H _ M .refl R.blI hr h3⟩
/-! ### is None -/
def isNonD : D → Bool
  | .non => true
  | _ => false
theorem isNon_of (r : R K H M v d) : decide (v = .non) = isNonD d := by
  cases d with
  | non => unfold R at r; rw [r]; rfl
  | bl b => rw [r.bl_v]; rfl
  | int b => rw [r.int_v]; rfl
  | str b => rw [r.str_v]; rfl
  | ty n => unfold R at r; rw [r]; rfl
  | ref a => rw [r.ref_v]; rfl
  | exc a d f x => unfold R at r; rw [r.1]; rfl
  | tup ds => obtain ⟨a, xs, e, _⟩ := r.tup_v; rw [e]; rfl
  | lst ds => obtain ⟨a, xs, e, _⟩ := r.lst_v; rw [e]; rfl
  | seq ds => obtain ⟨a, xs, e, _⟩ := r.seq_v; rw [e]; rfl
  | dct ks ds =>
    unfold R at r
    obtain ⟨a, xs, e, _⟩ := r
    rw [e]; rfl
  | dtt kvs =>
    unfold R at r
    obtain ⟨a, e, _⟩ := r
    rw [e]; rfl
def dIsN (de : DE) : DE := fun ρ M Q Xd => de ρ M (fun d M1 => Q (.bl (isNonD d)) M1) Xd
def dNotN (de : DE) : DE := fun ρ M Q Xd => de ρ M (fun d M1 => Q (.bl (!isNonD d)) M1) Xd
variable {a b : Expr} {da : DE} {pos pos' : Pos} {j : Nat}
theorem isN_in (σ : L2.St) (H : Hp) (Q : VK) : uE X.K W (dIsN da) σ H Q → tIsN (uE X.K W da) σ H Q := fun ⟨ρ, M, Qd, Xd, en, hr, h, q, x⟩ =>
  ⟨ρ, M, _, Xd, en, hr, h, fun v H1 d M1 s1 r1 hr1 h1 => by
    dsimp only
    rw [isNon_of r1]
    exact q _ H1 _ M1 s1 R.blI hr1 h1, x⟩
theorem notN_in (σ : L2.St) (H : Hp) (Q : VK) : uE X.K W (dNotN da) σ H Q → tNotN (uE X.K W da) σ H Q := fun ⟨ρ, M, Qd, Xd, en, hr, h, q, x⟩ =>
  ⟨ρ, M, _, Xd, en, hr, h, fun v H1 d M1 s1 r1 hr1 h1 => by
    dsimp only
    rw [isNon_of r1]
    exact q _ H1 _ M1 s1 R.blI hr1 h1, x⟩
theorem dd_isN (ha : PE X a (uE X.K W da)) : PE X (.Compare a [.Is] [.Constant .none j pos'] pos) (uE X.K W (dIsN da)) := pe_imp (pe_cmp (pc_isN ha)) isN_in
theorem dd_notN (ha : PE X a (uE X.K W da)) : PE X (.Compare a [.IsNot] [.Constant .none j pos'] pos) (uE X.K W (dNotN da)) := pe_imp (pe_cmp (pc_notN ha)) notN_in
theorem bl_in {de : DE} (σ : L2.St) (H : Hp) (Q : Bool → Hp → Prop) : uT X.K W (dTest de) σ H Q → tB (uE X.K W de) σ H Q := fun ⟨ρ, M, Qd, Xd, en, hr, h, q, x⟩ => ⟨ρ, M, _, Xd, en, hr, h, fun v H1 d M1 s1 r1 hr1 h1 => by
  obtain ⟨k, _, e, h2⟩ := isBl r1 h1
  exact ⟨k, e, q k H1 M1 s1 hr1 h2⟩, x⟩
theorem dt_isN (ha : PE X a (uE X.K W da)) : PT X (.Compare a [.Is] [.Constant .none j pos'] pos) (uT X.K W (dTest (dIsN da))) := pt_imp (pt_cmp (pc_isN ha)) fun σ H Q h => by
  have := bl_in σ H Q h
  exact isN_in σ H _ this
theorem dt_notN (ha : PE X a (uE X.K W da)) : PT X (.Compare a [.IsNot] [.Constant .none j pos'] pos) (uT X.K W (dTest (dNotN da))) := pt_imp (pt_cmp (pc_notN ha)) fun σ H Q h => by
  have := bl_in σ H Q h
  exact notN_in σ H _ this
/-! ### a tuple, many times; {} -/
def mulTF : F2 := fun x y M Q => match x, y with
  | .tup a, .int k => a ≠ [] ∧ 2 ≤ k ∧ k ≤ 1000 ∧ a.length ≤ 1000 ∧ Q (.tup (List.replicate k.toNat a).flatten) M
  | _, _ => False
theorem ov_mulT : OpV K (rRepT K) mulTF := by
  intro H M v w x y Q Qd hr rx ry h q
  unfold mulTF at h
  split at h
  · rename_i es k
    obtain ⟨l, xs, e, h1, h2⟩ := rx.tup_v
    refine ⟨l, k, xs, e, ry.int_v, h1, ?_, h.2.1, h.2.2.1, by rw [h2.len]; exact h.2.2.2.1, fun p hp => ?_⟩
    · intro z
      have := h2.len
      rw [z] at this
      exact h.1 (List.eq_nil_of_length_eq_zero this.symm)
    · obtain ⟨s, r, hr2⟩ := newTup hr hp (h2.rep k.toNat)
      exact q _ _ _ M s r hr2 h.2.2.2.2
  · exact h.elim
def dNew : DE := fun _ M Q _ => Q (.dct [] []) M
theorem dd_new : PE X (.Dict [] [] pos) (uE X.K W dNew) := pe_imp pe_dnewK fun σ H Q ⟨ρ, M, Qd, Xd, en, hr, h, q, x⟩ p hp => by
  obtain ⟨s, hr1⟩ := Stp.new (o := .dK []) hp hr
  refine q _ _ _ M s ?_ hr1 h
  unfold R
  exact ⟨p, [], rfl, upd_same, hr.none hp, rfl, .nil⟩
/-- a def held by a name of the def, called -/
def dFnV (cs : Addr → Option DSp) (n i : Nat) (da : DA) : DE := fun ρ M Q Xd => match ρ[i]? with
  | some (some (.ref f)) => onO (cs f) fun sp => da ρ M (fun ds M1 => ds.length = n ∧ sp ds M1 Q Xd) Xd
  | _ => False
def CalV (X : Cx) (n : Nat) (f : Addr) (sp : DSp) : Prop := ∃ (k : Nat) (ps : List Str) (fd : FuncData), ps.length = n ∧ PySem.W.keepIn X.K (.ref f) = true ∧ Bd fd ps ∧ FnG X.prog X.w X.K X.mg X.base k f fd ps (spD X.K ps.length sp) ∧ Room k X.A
theorem dd_fnV {x : Str} {p : Pos} {i n : Nat} {cs : Addr → Option DSp} {e : Expr} {es : List Expr} {dag : DA} (hc : ∀ f sp, cs f = some sp → CalV X n f sp) (hgd : X.A.guards = some []) (hN : X.N[i]? = some x) (hv : Vis X.env.scope x) (tk : Takes X W) (ha : PA X (e :: es) (uA X.K W dag)) (hd : (x == ("__debug__" : Str)) = false := by decide)
    (hcd : (x == ("__classdict__" : Str)) = false := by decide) (he : starEach (e :: es) X.env = (false, eval e X.env) :: starEach es X.env := by exact rfl) (hpl : (backTo pos (starEach es X.env)).any (·.1) = false := by exact rfl) :
    PE X (.Call (.Name x p) (e :: es) [] pos) (uE X.K W (dFnV cs n i dag)) := by
  constructor
  rintro pins s σ H Q I ⟨ρ, M, Qd, Xd, en, hr2, h, q, x2⟩
  unfold dFnV at h
  split at h
  · rename_i f e1
    obtain ⟨sp, e2, h⟩ := onO_of h
    obtain ⟨k, ps, fd, rfl, hk, hb, F, hr⟩ := hc f sp e2
    obtain ⟨v, e3, r3⟩ := en.2 i _ e1
    have e4 := r3.ref_v
    subst e4
    refine wpAny_Call_Name_kw (thn ((pe_var (pos := p) hN hv hd hcd).run pins s σ H (fun v H1 => v = .ref f ∧ H1 = H) I ⟨.ref f, e3, rfl, rfl⟩) ?_)
    rintro u s0 ⟨v, H0, I0, r0, rfl, rfl⟩
    cases (show u = Value.ref f from r0)
    refine PySem.W.callWith_K (h₀ := X.base) I.ok.mod.kin hk (thn (ha.run pos pins s0 σ H0 (fun vs H1 => spD X.K ps.length sp vs H1 Q (WE W σ)) I0 ⟨ρ, M, _, Xd, en, hr2, h, fun vs H1 ds M1 s1 r1 hr1 h1 => ⟨ds, M1, Qd, Xd, h1.1, r1, hr1, h1.2, q.stp s1, fun c od fs H' M' s2 xr hr2 h2 => x2 c od fs H' M' (s1.trans s2) xr hr2 h2⟩, x2⟩) ?_) he hpl
    rintro us s1 ⟨vs, H1, I1, r, q1⟩
    exact ⟨I1.kIn, run_fnG F hr hgd hb (passAt tk σ) I1 r q1⟩
  · exact h.elim
end
end DL

set_option Elab.async false
set_option linter.all false
set_option maxRecDepth 100000
set_option maxHeartbeats 4000000
/-! methods of lists and texts. -/
namespace DL
open PySem PySem.Spec L2
section
variable {K : PySem.W.Frag} {H : Hp} {M : DM} {X : Cx} {W : WX} {v : V} {d : D}
/-- is of the type whose method is called -/
def tyIs (T : String) (M : DM) (d : D) : Prop := (T = "list" ∧ (lstM M d).isSome = true) ∨ (T = "str" ∧ ∃ x, d = .str x)
theorem tyIs_of {T : String} (hr : HR K H M) (r : R K H M v d) (h : tyIs T M d) : tyV K T v H := by
  rcases h with ⟨rfl, h⟩ | ⟨rfl, x, rfl⟩
  · obtain ⟨ds, e⟩ := Option.isSome_iff_exists.mp h
    obtain ⟨a, xs, e2, h1, _⟩ := lstM_of hr r e
    rw [e2]
    exact .inl ⟨rfl, _, SqL.of h1⟩
  · rw [r.str_v]
    exact rfl
abbrev FM := D → List D → DM → DK → Prop
def MtV (K : PySem.W.Frag) (r : V → List V → Hp → VK → Prop) (f : FM) : Prop := ∀ H M v vs x ds Q Qd, HR K H M → R K H M v x → RA K H M vs ds → f x ds M Qd → LdV K H M Qd Q → r v vs H Q
def dMt (T : String) (f : FM) (do_ : DE) (da : DA) : DE := fun ρ M Q Xd => do_ ρ M (fun o M1 => tyIs T M1 o ∧ da ρ M1 (fun ds M2 => f o ds M2 Q) Xd) Xd
variable {o e : Expr} {es : List Expr} {do_ : DE} {dag : DA} {name : Str} {apos cpos : Pos} {T id : String} {r : V → List V → Hp → VK → Prop} {f : FM}
theorem dd_mt (pa : PlainAttrs T) (slot : Slot T name id) (hty : typeOf (.builtin id) = pure (.type "method_descriptor")) (hm : MtR X id r) (hv : MtV X.K r f) (ho : PE X o (uE X.K W do_)) (ha : PA X (e :: es) (uA X.K W dag))
    (hbase : attributeBase o name X.env (eval o X.env) = eval o X.env := by exact rfl)
    (hfew : ((backTo cpos (starEach (e :: es) X.env)).all (fun x => !x.1) && (backToKw cpos (keywordEach [] X.env)).all (fun x => x.1.isSome) && decide ((e :: es).length + ([] : List Keyword).length + (if ([] : List Keyword).isEmpty then 0 else 1) < 30)) = true := by exact rfl)
    (hline : (apos.endLine == cpos.line) = true := by exact rfl) (hs : starEach (e :: es) X.env = (false, eval e X.env) :: starEach es X.env := by exact rfl) (hplain : (backTo cpos (starEach es X.env)).any (·.1) = false := by exact rfl) :
    PE X (.Call (.Attribute o name apos) (e :: es) [] cpos) (uE X.K W (dMt T f do_ dag)) :=
  pe_imp (pe_bm pa slot hty hm ho ha hbase hfew hline hs hplain) fun σ H Q ⟨ρ, M, Qd, Xd, en, hr, h, q, x⟩ => ⟨ρ, M, _, Xd, en, hr, h, fun v H1 d M1 s1 r1 hr1 h1 =>
    ⟨tyIs_of hr1 r1 h1.1, ρ, M1, _, Xd, en.stp s1, hr1, h1.2, fun vs H2 ds M2 s2 r2 hr2 h2 => hv H2 M2 v vs d ds Q Qd hr2 (r1.stp s2) r2 h2 (q.stp (s1.trans s2)), x.stp s1⟩, x⟩
theorem dd_mt0 (pa : PlainAttrs T) (slot : Slot T name id) (hty : typeOf (.builtin id) = pure (.type "method_descriptor")) (hm : MtR X id r) (hv : MtV X.K r f) (ho : PE X o (uE X.K W do_))
    (hbase : attributeBase o name X.env (eval o X.env) = eval o X.env := by exact rfl) (hline : (apos.endLine == cpos.line) = true := by exact rfl) : PE X (.Call (.Attribute o name apos) [] [] cpos) (uE X.K W (dMt T f do_ dNil)) :=
  pe_imp (pe_bm0 pa slot hty hm ho hbase hline) fun σ H Q ⟨ρ, M, Qd, Xd, en, hr, h, q, x⟩ => ⟨ρ, M, _, Xd, en, hr, h, fun v H1 d M1 s1 r1 hr1 h1 => ⟨tyIs_of hr1 r1 h1.1, hv H1 M1 v [] d [] Q Qd hr1 r1 .nil h1.2 (q.stp s1)⟩, x⟩
/-! ### append, pop -/
def onM (M : DM) (d : D) (k : Addr → List D → Prop) : Prop := match d with
  | .ref a => match M a with
    | some (.lst ds) => k a ds
    | _ => False
  | _ => False
theorem onM_of {k : Addr → List D → Prop} (hr : HR K H M) (r : R K H M v d) (h : onM M d k) : ∃ a ds xs, d = .ref a ∧ v = .ref a ∧ M a = some (.lst ds) ∧ noLs ds = true ∧ H a = some (.lst xs) ∧ RA K H M xs ds ∧ k a ds := by
  unfold onM at h
  split at h
  · rename_i a
    split at h
    · rename_i ds e
      obtain ⟨n, xs, h1, h2⟩ := hr a _ e
      exact ⟨a, ds, xs, rfl, r.ref_v, e, n, h1, h2, h⟩
    · exact h.elim
  · exact h.elim
theorem wrLst {a : Addr} {ds es : List D} {xs ys : List V} (hr : HR K H M) (e : M a = some (.lst ds)) (h : H a = some (.lst xs)) (n : noLs es = true) (r : RA K H M ys es) :
    Stp K H M (upd H a (.lst ys)) (put M a (.lst es)) ∧ HR K (upd H a (.lst ys)) (put M a (.lst es)) :=
  Stp.wr (o' := .lst ys) (u' := .lst es) e h (fun _ z => nomatch z) (fun _ _ z => nomatch z) (fun _ z => nomatch z) hr fun s => ⟨n, ys, upd_same, r.stp s⟩
def appF : FM := fun o ds M Q => on1 ds fun y => onM M o fun a es => es.length < sizeLine ∧ noL y = true ∧ Q .non (put M a (.lst (es ++ [y])))
theorem mv_append : MtV K rAppend appF := by
  intro H M v vs x ds Q Qd hr rx ra h q
  obtain ⟨w, y, e, ry, h1⟩ := on1_of ra h
  obtain ⟨a, es, xs, rfl, e2, e3, n, e4, h2, h3⟩ := onM_of hr rx h1
  obtain ⟨s, hr2⟩ := wrLst (es := es ++ [y]) hr e3 e4 (by rw [noLs_app, n, noLs_cons, h3.2.1, noLs_nil]; rfl) (h2.snoc ry)
  exact ⟨a, xs, w, e2, e, e4, by rw [h2.len]; exact h3.1, q _ _ _ _ s R.nonI hr2 h3.2.2⟩
def popF : FM := fun o ds M Q => match ds with
  | [] => onM M o fun a es => onO es.getLast? fun y => Q y (put M a (.lst es.dropLast))
  | _ => False
theorem noLs_mem : ∀ {ds : List D}, noLs ds = true → ∀ d ∈ ds, noL d = true
  | [], _, d, h => nomatch h
  | e :: ds, n, d, h => by
    rw [noLs_cons, Bool.and_eq_true] at n
    rcases List.mem_cons.mp h with rfl | h
    · exact n.1
    · exact noLs_mem n.2 d h
theorem noLs_take : ∀ {ds : List D} (k : Nat), noLs ds = true → noLs (ds.take k) = true
  | ds, 0, _ => by rw [List.take_zero]; exact noLs_nil
  | [], k + 1, _ => noLs_nil
  | d :: ds, k + 1, n => by
    rw [noLs_cons, Bool.and_eq_true] at n
    rw [List.take_succ_cons, noLs_cons, n.1, noLs_take k n.2]
    rfl
theorem mv_pop : MtV K rPop popF := by
  intro H M v vs x ds Q Qd hr rx ra h q
  unfold popF at h
  split at h
  · unfold RA at ra
    subst ra
    obtain ⟨a, es, xs, rfl, e2, e3, n, e4, h2, h3⟩ := onM_of hr rx h
    obtain ⟨y, e5, h4⟩ := onO_of h3
    have e6 : es[es.length - 1]? = some y := by rw [← List.getLast?_eq_getElem?]; exact e5
    obtain ⟨w, e7, ry⟩ := h2.get e6
    obtain ⟨s, hr2⟩ := wrLst (es := es.dropLast) (ys := xs.dropLast) hr e3 e4 (by rw [List.dropLast_eq_take]; exact noLs_take _ n) (by rw [List.dropLast_eq_take, List.dropLast_eq_take, h2.len]; exact h2.take _)
    exact ⟨a, xs, w, e2, rfl, e4, by rw [h2.len]; exact e7, q _ _ _ _ s (ry.stp s) hr2 h4⟩
  · exact h.elim
/-! ### join -/
def strB (ds : List D) : Option (List Str) := match ds with
  | [] => some []
  | .str b :: r => (strB r).map (b :: ·)
  | _ => none
theorem strB_of : ∀ {ds : List D} {bs : List Str} {xs : List V}, RA K H M xs ds → strB ds = some bs → xs = bs.map V.str
  | [], bs, xs, r, h => by
    unfold RA at r
    cases h
    exact r
  | d :: ds, bs, xs, r, h => by
    unfold RA at r
    obtain ⟨x, ys, e, h1, h2⟩ := r
    unfold strB at h
    split at h
    · rename_i e2; cases e2
    · rename_i b r2 e2
      cases e2
      obtain ⟨cs, h3, rfl⟩ := Option.map_eq_some_iff.mp h
      rw [e, h1.str_v, strB_of h2 h3] <;> rfl
    · cases h
theorem strB_map {α : Type} (f : α → Str) : ∀ xs : List α, strB (xs.map fun x => D.str (f x)) = some (xs.map f)
  | [] => rfl
  | x :: xs => by
    simp only [List.map_cons, strB, strB_map f xs, Option.map_some]
def joinF : FM := fun o ds M Q => on1 ds fun d => onSeq M d fun es => onO (strB es) fun ys => match o with
  | .str a => (ys.map (·.length)).sum + ys.length * a.length ≤ 16777216 ∧ Q (.str (Txt.join a ys)) M
  | _ => False
def rJoin (K : PySem.W.Frag) : V → List V → Hp → VK → Prop := fun x xs H Q => ∃ a p, ∃ ys : List Str, x = .str a ∧ xs = [.ref p] ∧ (SqL K H p (ys.map V.str) ∨ SqT K H p (ys.map V.str)) ∧ (ys.map (·.length)).sum + ys.length * a.length ≤ 16777216 ∧ Q (.str (Txt.join a ys)) H
theorem mt_joinD : MtR X "str.join" (rJoin X.K) := mt_join
theorem mv_join : MtV K (rJoin K) joinF := by
  intro H M v vs x ds Q Qd hr rx ra h q
  obtain ⟨w, d, e, rd, h1⟩ := on1_of ra h
  obtain ⟨p, xs, es, e2, sq, r3, h2⟩ := onSeq_of hr rd h1
  obtain ⟨ys, e3, h3⟩ := onO_of h2
  split at h3
  · rename_i a
    have e4 := strB_of r3 e3
    subst e4
    exact ⟨a, p, ys, rx.str_v, by rw [e, e2], sq, h3.1, q _ H _ M .refl R.strI hr h3.2⟩
  · exact h3.elim
end
end DL

set_option Elab.async false
set_option linter.all false
set_option maxRecDepth 100000
set_option maxHeartbeats 4000000
/-! the classes of exceptions of a text, told; names' addresses. -/
namespace DL
open PySem PySem.Spec L2
/-- where a module's name points -/
def xiOf (mg : Str → Option Value) (x : Str) : Addr := match mg x with
  | some (.ref a) => a
  | _ => 0
theorem xi_eq {mg : Str → Option Value} {x : Str} {a : Addr} (h : mg x = some (.ref a)) : xiOf mg x = a := by
  unfold xiOf
  rw [h]
theorem xi_mg {mg : Str → Option Value} {x : Str} (h : ∃ a, mg x = some (.ref a)) : mg x = some (.ref (xiOf mg x)) := by
  obtain ⟨a, e⟩ := h
  rw [xi_eq e, e]
def clsM (s : Stmt) (k : Nat) : Stmt := match s with
  | .ClassDef _ _ _ body _ _ _ _ _ _ _ => body.getD k s
  | s => s
/-- what is told of a class of exceptions -/
def Xf (K : PySem.W.Frag) (mg : Str → Option Value) (x qual f : Str) (B newId initId : String) (T : List Value) (st : Stmt) : Prop :=
  ∃ (C fI : Addr) (fd : FuncData), mg x = some (.ref C) ∧ OwnX K C B newId initId T ∧ PySem.W.findIn K (.ref C) "__init__" = some (some (.ref fI)) ∧ PySem.W.typeIn K (.ref fI) = some (.type "function") ∧ Fun K "__init__" qual st fI fd ∧ Bd fd ["self", f] ∧
    PySem.W.takerIn K C f = some none ∧ PySem.W.findIn K (.ref C) f = some none ∧ XfC K C
section
variable {K : PySem.W.Frag} {mg : Str → Option Value} {h : Heap} {x qual f : Str} {B newId initId : String} {T : List Value} {st : Stmt}
theorem ov_of {C N : Addr} {nm q : Str} {bs : List Value} {sn : List Str} {sub : List Value} {ab : Bool} {col : Option Bool} {dd : Option Addr} {k0 k1 k2 k3 k5 : Option Value}
    (l : K.lookup C = some (PySem.excClassObj nm q C N bs T true sn sub ab col dd k0 k1 k2 k3 k5 newId)) (ht : PySem.W.excTail T T = true) : PySem.W.excOver K C T = true := by
  have e : PySem.W.clsIn K C = some { name := nm, bases := bs, mro := .ref C :: T, ns := N, qualname := q, hasDict := true, slotNames := sn, subclasses := sub, abstract := ab, collection := col, hasDel := false } := by
    unfold PySem.W.clsIn
    rw [l] <;> rfl
  unfold PySem.W.excOver
  rw [e]
  show (C == C && PySem.W.excTail T T) = true
  rw [ht]
  simp
theorem exm_mk {A C N : Addr} {b : Bool} {nm q : Str} {bs : List Value} {sn : List Str} {sub : List Value} {ab : Bool} {col : Option Bool} {dd : Option Addr} {k0 k1 k2 k3 k5 : Option Value}
    (l : K.lookup C = some (PySem.excClassObj nm q C N bs T true sn sub ab col dd k0 k1 k2 k3 k5 newId)) (exC : PySem.W.subIn K (.ref C) (.type "BaseException") = some true) (tyC : PySem.W.typeIn K (.ref C) = some (.type "type")) (s : PySem.W.subIn K (.ref A) (.ref C) = some b) : PySem.W.exmOne K (.ref A) (.ref C) = some b := by
  have e : PySem.W.clsIn K C = some { name := nm, bases := bs, mro := .ref C :: T, ns := N, qualname := q, hasDict := true, slotNames := sn, subclasses := sub, abstract := ab, collection := col, hasDel := false } := by
    unfold PySem.W.clsIn
    rw [l] <;> rfl
  unfold PySem.W.exmOne
  rw [exC, if_pos (by decide)]
  show (if ((PySem.W.clsIn K C).isSome && PySem.W.typeIn K (.ref C) == some (.type "type")) = true then PySem.W.subIn K (.ref A) (.ref C) else none) = some b
  rw [e, tyC, if_pos (by simp)]
  exact s
theorem xf_mk (Bx : BaseX B newId initId T) (X : K.In h) (G : h.Ns mainGlobals mg) {C fI N : Addr} {nm q : Str} {bs : List Value} {sn : List Str} {sub : List Value} {ab : Bool} {col : Option Bool} {dd : Option Addr} {k0 k1 k2 k3 k5 : Option Value} {oc kV doc pm cdv ct : Value} {od an : Option Addr} {osl : Array (Option Value)}
    (a : PySem.W.nsIn K mainGlobals x = some (some (.ref C))) (l : K.lookup C = some (PySem.excClassObj nm q C N bs T true sn sub ab col dd k0 k1 k2 k3 k5 newId)) (i : PySem.W.findIn K (.ref C) "__init__" = some (some (.ref fI))) (t : PySem.W.typeIn K (.ref fI) = some (.type "function"))
    (lf : K.lookup fI = some ⟨oc, od, .func (PySem.W.fnOf "__init__" qual (defArgs st) (defBody st) (defScope st) .none kV doc pm an cdv ct), osl⟩) (cf : PySem.W.codeIn K cdv qual = true) (kf : PySem.W.keepIn K (.ref fI) = true)
    (sa : PySem.W.findIn K (.ref C) "__setattr__" = some (some (.builtin "object.__setattr__"))) (exC : PySem.W.subIn K (.ref C) (.type "BaseException") = some true) (tyC : PySem.W.typeIn K (.ref C) = some (.type "type")) (kC : PySem.W.keepIn K (.ref C) = true)
    (tk : PySem.W.takerIn K C f = some none) (no : PySem.W.findIn K (.ref C) f = some none) (ga : PySem.W.findIn K (.ref C) "__getattribute__" = some (some (.builtin "BaseException.__getattribute__"))) (gg : PySem.W.findIn K (.ref C) "__getattr__" = some none) (hd : PySem.W.hasDictIn K C = true)
    (b : Bd (PySem.W.fnOf "__init__" qual (defArgs st) (defBody st) (defScope st) .none kV doc pm an cdv ct) ["self", f]) (tl : PySem.W.excTail T T = true := by decide) : Xf K mg x qual f B newId initId T st :=
  ⟨C, fI, _, PySem.W.mg_of X G a, ⟨Bx.fb, Bx.st, ⟨nm, q, N, bs, sn, sub, ab, col, dd, k0, k1, k2, k3, k5, l⟩, ov_of l tl, sa, exC, tyC, kC⟩, i, t, fun_mk lf cf kf, b, tk, no, ⟨ga, gg, exC, hd⟩⟩
theorem Xf.at_ (Z : Xf K mg x qual f B newId initId T st) : mg x = some (.ref (xiOf mg x)) := by
  obtain ⟨C, fI, fd, hm, _⟩ := Z
  exact xi_mg ⟨C, hm⟩
theorem Xf.fld (Z : Xf K mg x qual f B newId initId T st) : XfC K (xiOf mg x) ∧ PySem.W.findIn K (.ref (xiOf mg x)) f = some none := by
  obtain ⟨C, fI, fd, hm, _, _, _, _, _, _, no, xf⟩ := Z
  rw [xi_eq hm]
  exact ⟨xf, no⟩
variable {P : Program} {w : World} {base : Heap}
theorem Xf.cls {m : Str} {j : Nat} {q1 q2 q3 q4 q5 q6 q7 q8 q9 q10 : Pos} (Z : Xf K mg x qual f B newId initId T st) (Bx : BaseX B newId initId T) (hm : mg (B : Str) = none) (S : FnScope ["self", f] ["self", f] (defScope st))
    (hb : defBody st = [.Expr (.Call (.Attribute (.Name (B : Str) q1) "__init__" q2) [.Name "self" q3, .Constant (.str m) j q4] [] q5) q6, .Assign [.Attribute (.Name "self" q7) f q8] (.Name f q9) q10])
    (hc : ∀ env, CallShape B q1 q2 q5 [.Name "self" q3, .Constant (.str m) j q4] env) (hg : (defScope st).names.lookup (B : Str) = some .globalImplicit) (hd : (f == ("__debug__" : Str)) = false) (hcd : (f == ("__classdict__" : Str)) = false) (hs : (defScope st).names.lookup ("self" : Str) = some .local) (hf : (defScope st).names.lookup f = some .local) :
    XCls P w K mg base x (xiOf mg x) f := by
  obtain ⟨C, fI, fd, hx, O, iC, tI, F, b, tk, _⟩ := Z
  rw [xi_eq hx]
  exact ⟨B, newId, initId, T, fI, fd, O, iC, tI, ok_init Bx O tk F S hb hc hg hm hd hcd hs hf, b, hx⟩
end
/-! ### names that hold defs -/
def csel (l : List (Addr × DSp)) (f : Addr) : Option DSp := (l.find? fun p => p.1 == f).map (·.2)
theorem csel_ok {X : Cx} {n : Nat} {l : List (Addr × DSp)} (h : ∀ p ∈ l, CalV X n p.1 p.2) : ∀ f sp, csel l f = some sp → CalV X n f sp := by
  intro f sp e
  obtain ⟨p, e1, rfl⟩ := Option.map_eq_some_iff.mp e
  have e2 := List.find?_some e1
  have e3 : p.1 = f := by simpa using e2
  rw [← e3]
  exact h p (List.mem_of_find?_eq_some e1)
theorem Dg.calV {X : Cx} {x : Str} {k n : Nat} {ps : List Str} {sp : DSp} (G : Dg X.prog X.w X.K X.mg X.base x ps k sp) (hn : ps.length = n) (hr : Room k X.A) : CalV X n (xiOf X.mg x) sp := by
  obtain ⟨f, fd, hm, hk, hb, _, F⟩ := G
  rw [xi_eq hm]
  exact ⟨k, ps, fd, hn, hk, hb, F, hr⟩
theorem Dg.at {P : Program} {w : World} {K : PySem.W.Frag} {mg : Str → Option Value} {base : Heap} {x : Str} {k : Nat} {ps : List Str} {sp : DSp} (G : Dg P w K mg base x ps k sp) : mg x = some (.ref (xiOf mg x)) := by
  obtain ⟨f, fd, hm, _⟩ := G
  exact xi_mg ⟨f, hm⟩
theorem Dn.at_ {P : Program} {w : World} {K : PySem.W.Frag} {mg : Str → Option Value} {base : Heap} {x : Str} {k : Nat} {ps : List Str} {sp : DSp} (G : Dn P w K mg base x ps k sp) : mg x = some (.ref (xiOf mg x)) := by
  obtain ⟨f, fd, hm, _⟩ := G
  exact xi_mg ⟨f, hm⟩
/-- a dict that is to change -/
def dNewM : DE := fun _ M Q _ => ∀ p, M p = none → Q (.ref p) (put M p (.dct [] []))
theorem dd_newM {X : Cx} {W : WX} {pos : Pos} : PE X (.Dict [] [] pos) (uE X.K W dNewM) := pe_imp pe_dnewK fun σ H Q ⟨ρ, M, Qd, Xd, en, hr, h, q, x⟩ p hp => by
  obtain ⟨s, hr1⟩ := Stp.newM (o := .dK []) (u := .dct [] []) hp hr fun s => ⟨noLs_nil, rfl, [], upd_same, .nil⟩
  exact q _ _ _ _ s R.refI hr1 (h p (hr.none hp))
end DL

set_option Elab.async false
set_option linter.all false
set_option maxRecDepth 100000
set_option maxHeartbeats 4000000
/-! repr, of an empty dict too. -/
namespace DL
open PySem PySem.Spec L2
def rReprE : List V → Hp → VK → Prop := fun xs H Q => ∃ a, xs = [.ref a] ∧ H a = some (.dK []) ∧ Q (.str "{}") H
section
variable {X : Cx}
theorem call_reprE (hgd : X.A.guards = some []) (hu : X.A.units + 64 < cLine) : CallR X (.builtin "repr") rReprE := by
  intro pins s σ H xs us Q I r h
  obtain ⟨a, rfl, e, q⟩ := h
  obtain ⟨u, rfl, ru⟩ := vals1 r
  cases (show u = Value.ref a from ru)
  obtain ⟨z, hd, vs, rel, o, es, ep, h1, h2, h3, h4⟩ := dk_of I.hok e
  cases rel
  have em : es.toList = [] := by
    have hp := h4.2.1
    cases z2 : es.toList with
    | nil => rfl
    | cons e1 es2 =>
      rw [z2] at hp
      cases hp
  have rd : Reads s.heap (.ref a) (.dict []) [a] := by
    have := Reads.dict (kvs := []) (as := []) (bs := []) h1 h2.1 h3 (by rw [em]; exact .nil) (by rw [em]; exact .nil)
    exact this
  have sh : (PyData.dict []).shown = ("{}" : Str) := by decide +kernel
  refine repr_of_reads' rd (by decide +kernel) (fun _ => ?_) hgd ?_ (fun b o e => e) (fun h' u tk k => ?_) (by rw [sh]; decide +kernel)
  · have := hd
    simp at this ⊢
    exact fun z => this z.symm
  · have e1 : (PyData.dict []).depth ≤ 5 := by decide +kernel
    omega
  · rw [sh]
    exact ⟨.str _, H, I.kept k, ⟨_, rfl⟩, q⟩
end
/-- repr, of what data tells; an empty dict that may change, too -/
def reprXF (ds : List D) (M : DM) (Q : DK) : Prop := (ds = [.dct [] []] ∧ Q (.str "{}") M) ∨ (∃ a, ds = [.ref a] ∧ M a = some (.dct [] []) ∧ Q (.str "{}") M) ∨ reprF ds M Q
def rReprX (K : PySem.W.Frag) : List V → Hp → VK → Prop := fun xs H Q => rReprE xs H Q ∨ rRepr K xs H Q
theorem call_reprX {X : Cx} (hgd : X.A.guards = some []) (hu : X.A.units + 64 < cLine) : CallR X (.builtin "repr") (rReprX X.K) := by
  intro pins s σ H xs us Q I r h
  rcases h with h | h
  · exact call_reprE hgd hu pins s σ H xs us Q I r h
  · exact call_reprD hgd hu pins s σ H xs us Q I r h
theorem cv_reprX {K : PySem.W.Frag} : CaV K (rReprX K) reprXF := by
  intro H M vs ds Q Qd hr ra h q
  rcases h with ⟨rfl, h⟩ | ⟨a, rfl, e, h⟩ | h
  · unfold RA at ra
    obtain ⟨v, r, rfl, h1, h2⟩ := ra
    unfold RA at h2
    subst h2
    unfold R at h1
    obtain ⟨a, xs, e, h3, _⟩ := h1
    exact .inl ⟨a, by rw [e], h3, q _ H _ M .refl R.strI hr h⟩
  · unfold RA at ra
    obtain ⟨v, r, rfl, h1, h2⟩ := ra
    unfold RA at h2
    subst h2
    obtain ⟨_, l, xs, h3, h4⟩ := hr a _ e
    unfold RA at h4
    subst h4
    exact .inl ⟨a, by rw [h1.ref_v], h3, q _ H _ M .refl R.strI hr h⟩
  · exact .inr (cv_repr H M vs ds Q Qd hr ra h q)
end DL

set_option Elab.async false
set_option linter.all false
set_option maxRecDepth 100000
set_option maxHeartbeats 4000000
/-! tables and tuples at the top; dicts by display; in, not in; xs[::-1]. -/
namespace DL
open PySem PySem.Spec L2
/-! ### at the top -/
/-- a name at the top that holds a dict with text keys -/
def KTab (K : PySem.W.Frag) (w : World) (mg : Str → Option Value) (x : Str) (kvs : List (Str × D)) : Prop :=
  ∃ a, mg x = some (.ref a) ∧ ∀ k d, kvs.lookup k = some d → ∃ v, KDct K w a k v ∧ ∀ H M, R K H M v d
/-- .. a tuple of whole numbers -/
def KTup (K : PySem.W.Frag) (mg : Str → Option Value) (x : Str) (is : List Int) : Prop := ∃ a, mg x = some (.ref a) ∧ ∀ H, SqT K H a (is.map V.int)
section
variable {X : Cx} {W : WX} {e i : Expr} {de di : DE} {pos p : Pos} {x : Str}
def dIxT (kvs : List (Str × D)) (di : DE) : DE := fun ρ M Q Xd => di ρ M (fun k M1 => onS k fun x => onO (kvs.lookup x) fun d => Q d M1) Xd
theorem dd_ixT {kvs : List (Str × D)} (hg : Gl X x) (T : KTab X.K X.w X.mg x kvs) (hi : PE X i (uE X.K W di)) (hs : PlainIx i) (hd : (x == ("__debug__" : Str)) = false := by decide) : PE X (.Subscript (.Name x p) i pos) (uE X.K W (dIxT kvs di)) := by
  obtain ⟨a, hm, f⟩ := T
  refine pe_imp (pe_ix ix_kdict (pe_glob (v := .ref a) hg hm rfl hd) hi hs) fun σ H Q ⟨ρ, M, Qd, Xd, en, hr, h, q, x⟩ => ?_
  refine ⟨ρ, M, _, Xd, en, hr, h, fun v H1 k M1 s1 r1 hr1 h1 => ?_, x⟩
  obtain ⟨z, ez, h2⟩ := onS_of r1 h1
  obtain ⟨d, ed, h3⟩ := onO_of h2
  obtain ⟨v2, kd, rv⟩ := f z d ed
  exact ⟨a, z, v2, rfl, ez, kd, q v2 H1 d M1 s1 (rv H1 M1) hr1 h3⟩
theorem dd_kt {is : List Int} (hg : Gl X x) (T : KTup X.K X.mg x is) (hd : (x == ("__debug__" : Str)) = false := by decide) : PE X (.Name x p) (uE X.K W (dC (.tup (is.map D.int)))) := by
  obtain ⟨a, hm, f⟩ := T
  exact pe_imp (pe_glob (v := .ref a) hg hm rfl hd) fun σ H Q ⟨ρ, M, Qd, Xd, en, hr, h, q, x⟩ => q (.ref a) H _ M .refl (R.tupI (f H) RA.ints) hr h
/-! ### xs[::-1] -/
theorem RA.rev {K : PySem.W.Frag} {H : Hp} {M : DM} : ∀ {ds : List D} {xs : List V}, RA K H M xs ds → RA K H M xs.reverse ds.reverse
  | [], xs, r => by
    unfold RA at r
    subst r
    exact RA.nil
  | d :: ds, xs, r => by
    unfold RA at r
    obtain ⟨v, q, rfl, h1, h2⟩ := r
    rw [List.reverse_cons, List.reverse_cons]
    exact (RA.rev h2).snoc h1
def dRevL (de : DE) : DE := fun ρ M Q Xd => de ρ M (fun x M1 => onO (lstV M1 x) fun ds => Q (.lst ds.reverse) M1) Xd
theorem dd_revL {k : Nat} {p1 p2 p3 : Pos} (he : PE X e (uE X.K W de)) : PE X (.Subscript e (.Slice none none (some (.UnaryOp .USub (.Constant (.int 1) k p1) p2)) p3) pos) (uE X.K W (dRevL de)) :=
  pe_imp (pe_revL he) fun σ H Q ⟨ρ, M, Qd, Xd, en, hr, h, q, x⟩ => by
    refine ⟨ρ, M, _, Xd, en, hr, h, fun v H1 d M1 s1 r1 hr1 h1 => ?_, x⟩
    obtain ⟨ds, ed, h2⟩ := onO_of h1
    obtain ⟨a, xs, ev, sq, ra⟩ := lstV_of hr1 r1 ed
    refine ⟨a, xs, ev, sq, fun p hp => ?_⟩
    obtain ⟨s, r2, hr2⟩ := newLst hr1 hp ra.rev
    exact q _ _ _ M1 (s1.trans s) r2 hr2 h2
/-! ### dicts -/
def dctV (M : DM) (d : D) : Option (List Key × List D) := match d with
  | .dct ks ds => some (ks, ds)
  | .ref a => (match M a with
    | some (.dct ks ds) => some (ks, ds)
    | _ => none)
  | _ => none
theorem dctV_of {K : PySem.W.Frag} {H : Hp} {M : DM} {v : V} {d : D} {kd : List Key × List D} (hr : HR K H M) (r : R K H M v d) (h : dctV M d = some kd) : ∃ a xs, v = .ref a ∧ H a = some (.dK (kd.1.zip xs)) ∧ kd.1.length = kd.2.length ∧ RA K H M xs kd.2 := by
  unfold dctV at h
  split at h
  · cases h
    unfold R at r
    obtain ⟨a, xs, e, h1, _, h2, h3⟩ := r
    exact ⟨a, xs, e, h1, h2, h3⟩
  · rename_i a
    split at h
    · rename_i ks ds q
      cases h
      obtain ⟨_, h2, xs, h1, h3⟩ := hr a _ q
      exact ⟨a, xs, r.ref_v, h1, h2, h3⟩
    · cases h
  · cases h
def valD : List Key → List D → Key → Option D
  | a :: ks, d :: ds, k => if a = k then some d else valD ks ds k
  | _, _, _ => none
theorem valD_of {K : PySem.W.Frag} {H : Hp} {M : DM} : ∀ {ks : List Key} {ds : List D} {xs : List V} (k : Key), ks.length = ds.length → RA K H M xs ds →
    (valD ks ds k = none ∧ valV (ks.zip xs) k = none) ∨ ∃ d v, valD ks ds k = some d ∧ valV (ks.zip xs) k = some v ∧ R K H M v d
  | [], _, xs, k, _, _ => .inl ⟨by unfold valD; rfl, rfl⟩
  | a :: ks, [], xs, k, h, _ => by cases h
  | a :: ks, d :: ds, xs, k, h, r => by
    unfold RA at r
    obtain ⟨v, q, rfl, h1, h2⟩ := r
    unfold valD valV
    rw [List.zip_cons_cons, List.find?_cons]
    by_cases c : a = k
    · rw [if_pos c]
      refine .inr ⟨d, v, rfl, ?_, h1⟩
      rw [decide_eq_true c]
      rfl
    · rw [if_neg c, decide_eq_false c]
      exact valD_of k (Nat.succ.inj h) h2
def keyD : D → Option Key
  | .str x => some (.inr x)
  | .int i => some (.inl i)
  | _ => none
theorem keyD_of {K : PySem.W.Frag} {H : Hp} {M : DM} {v : V} {d : D} {k : Key} (r : R K H M v d) (h : keyD d = some k) : v = kV k := by
  unfold keyD at h
  split at h
  · cases h
    exact r.str_v
  · cases h
    exact r.int_v
  · cases h
def dIxD (de di : DE) : DE := fun ρ M Q Xd => de ρ M (fun x M1 => di ρ M1 (fun y M2 => onO (dctV M2 x) fun kd => onO (keyD y) fun k => onO (valD kd.1 kd.2 k) fun d => Q d M2) Xd) Xd
theorem dd_ixD (hu : X.A.units + 1 < cLine) (he : PE X e (uE X.K W de)) (hi : PE X i (uE X.K W di)) (hs : NoSl i) : PE X (.Subscript e i pos) (uE X.K W (dIxD de di)) :=
  pe_imp (pe_dget hu he hi hs) fun σ H Q ⟨ρ, M, Qd, Xd, en, hr, h, q, x⟩ =>
    two en hr h x fun v w x y H2 M2 s2 rx ry hr2 h2 => by
      obtain ⟨kd, e1, h3⟩ := onO_of h2
      obtain ⟨k, e2, h4⟩ := onO_of h3
      obtain ⟨d, e3, h5⟩ := onO_of h4
      obtain ⟨a, xs, ev, eh, el, ra⟩ := dctV_of hr2 rx e1
      rcases valD_of k el ra with ⟨n, _⟩ | ⟨d2, v2, g1, g2, g3⟩
      · rw [n] at e3
        cases e3
      · rw [g1] at e3
        cases e3
        refine ⟨a, v2, ev, ?_, q v2 H2 d M2 s2 g3 hr2 h5⟩
        rw [keyD_of ry e2, ← g2]
        exact DGet.k eh
def dInD (f : Bool → Bool) (di de : DE) : DE := fun ρ M Q Xd => di ρ M (fun y M1 => de ρ M1 (fun x M2 => onO (dctV M2 x) fun kd => onO (keyD y) fun k => Q (.bl (f (valD kd.1 kd.2 k).isSome)) M2) Xd) Xd
theorem din_in (f : Bool → Bool) (σ : L2.St) (H : Hp) (Q : VK) : uE X.K W (dInD f di de) σ H Q → uE X.K W di σ H fun y H1 => uE X.K W de σ H1 fun x H2 => ∃ a o, x = .ref a ∧ DGet H2 a y o ∧ Q (.bl (f o.isSome)) H2 := fun ⟨ρ, M, Qd, Xd, en, hr, h, q, x⟩ =>
  two en hr h x fun v w y x H2 M2 s2 ry rx hr2 h2 => by
    obtain ⟨kd, e1, h3⟩ := onO_of h2
    obtain ⟨k, e2, h4⟩ := onO_of h3
    obtain ⟨a, xs, ev, eh, el, ra⟩ := dctV_of hr2 rx e1
    refine ⟨a, _, ev, ?_, q (.bl (f (valV (kd.1.zip xs) k).isSome)) H2 (.bl (f (valD kd.1 kd.2 k).isSome)) M2 s2 ?_ hr2 h4⟩
    · rw [keyD_of ry e2]
      exact DGet.k eh
    · have e : (valV (kd.1.zip xs) k).isSome = (valD kd.1 kd.2 k).isSome := by
        rcases valD_of k el ra with ⟨n1, n2⟩ | ⟨d2, v2, g1, g2, g3⟩
        · rw [n1, n2]; rfl
        · rw [g1, g2]; rfl
      rw [e]
      exact R.blI
theorem dd_inD (hu : X.A.units + 1 < cLine) (hi : PE X i (uE X.K W di)) (he : PE X e (uE X.K W de)) (hb : behindInMarks .In e = false := by rfl) : PE X (.Compare i [.In] [e] pos) (uE X.K W (dInD id di de)) := pe_imp (pe_cmp (pc_din hu hi he) hb) (din_in id)
theorem dt_inD (hu : X.A.units + 1 < cLine) (hi : PE X i (uE X.K W di)) (he : PE X e (uE X.K W de)) (hb : behindInMarks .In e = false := by rfl) : PT X (.Compare i [.In] [e] pos) (uT X.K W (dTest (dInD id di de))) := pt_imp (pt_cmp (pc_din hu hi he) hb) fun σ H Q h => by
  have := bl_in σ H Q h
  exact din_in id σ H _ this
/-! ### a dict by display, text keys -/
theorem KVR.split2 {K : PySem.W.Frag} {H : Hp} {M : DM} {ps : List (V × V)} {kvs : List (Str × D)} (r : KVR K H M ps kvs) : ∃ xs : List V, ps = ((kvs.map fun kv => (Sum.inr kv.1 : Key)).zip xs).map (fun kv => (kV kv.1, kv.2)) ∧ xs.length = kvs.length ∧ RA K H M xs (kvs.map (·.2)) := by
  induction r with
  | nil => exact ⟨[], rfl, rfl, by unfold RA; rfl⟩
  | @cons v d x ps kvs r _ ih =>
    obtain ⟨xs, e, el, ra⟩ := ih
    refine ⟨v :: xs, ?_, by rw [List.length_cons, List.length_cons, el], ?_⟩
    · rw [e] <;> rfl
    · rw [List.map_cons]
      unfold RA
      exact ⟨v, xs, rfl, r, ra⟩
theorem merge_nodup : ∀ (gs acc : List (Key × V)), (gs.map (·.1)).Nodup → (∀ g ∈ gs, ∀ b ∈ acc, b.1 ≠ g.1) → mergeK acc gs = acc ++ gs
  | [], acc, _, _ => (List.append_nil acc).symm
  | g :: gs, acc, hn, hd => by
    have e : putK acc g.1 g.2 = acc ++ [g] := by
      unfold putK
      rw [if_neg]
      intro z
      obtain ⟨b, hb, hc⟩ := List.any_eq_true.mp z
      exact hd g List.mem_cons_self b hb (of_decide_eq_true hc)
    show mergeK (putK acc g.1 g.2) gs = _
    rw [List.map_cons, List.nodup_cons] at hn
    rw [e, merge_nodup gs _ hn.2, List.append_assoc]
    · rfl
    · intro g2 h2 b hb
      rcases List.mem_append.mp hb with hb | hb
      · exact hd g2 (List.mem_cons_of_mem _ h2) b hb
      · rw [List.mem_singleton.mp hb]
        intro z
        exact hn.1 (z ▸ List.mem_map_of_mem h2)
def dDisp (ps : List (Str × DE)) : DE := fun ρ M Q Xd => dPairs ps ρ M (fun kvs M1 => kvs.length ≤ 15 ∧ (kvs.map fun kv => (Sum.inr kv.1 : Key)).Nodup ∧ noLs (kvs.map (·.2)) = true ∧ Q (.dct (kvs.map fun kv => Sum.inr kv.1) (kvs.map (·.2))) M1) Xd
theorem dd_disp {keys : List (Option Expr)} {values : List Expr} {ps : List (Str × DE)} (h : PPs X pos keys values (upairs X.K W ps)) (hall : keys.all (·.isSome) = true) (hl : keys.length = values.length) (h0 : keys ≠ []) (h15 : keys.length ≤ 15) :
    PE X (.Dict keys values pos) (uE X.K W (dDisp ps)) :=
  pe_imp (pe_disp h hall hl h0 h15) fun σ H Q ⟨ρ, M, Qd, Xd, en, hr, h, q, x⟩ => by
    intro p hp
    obtain ⟨s0, hr1⟩ := Stp.new (o := .dK []) hp hr
    have hMp := hr.none hp
    refine pairs_in (en.stp s0) hr1 h (x.stp s0) fun vs H2 kvs M2 s2 hr2 kr ⟨h15, nd, nl, hq⟩ => ?_
    obtain ⟨e2, m2⟩ := s2.g p _ rfl upd_same hMp
    obtain ⟨xs, ge, gl, ra⟩ := kr.split2
    have gln : ((kvs.map fun kv => (Sum.inr kv.1 : Key)).zip xs).length = kvs.length := by
      rw [List.length_zip, List.length_map, gl, Nat.min_self]
    refine ⟨e2, _, ge, by rw [gln]; exact h15, ?_⟩
    have em : mergeK [] ((kvs.map fun kv => (Sum.inr kv.1 : Key)).zip xs) = (kvs.map fun kv => (Sum.inr kv.1 : Key)).zip xs := by
      rw [merge_nodup _ [] ?_ fun _ _ b hb => absurd hb List.not_mem_nil, List.nil_append]
      rw [List.map_fst_zip (by rw [List.length_map, gl]; exact Nat.le_refl _)]
      exact nd
    rw [em]
    have s02 := s0.trans s2
    have tt : ∀ a ys, SqT X.K H2 a ys → SqT X.K (upd H2 p (.dK ((kvs.map fun kv => (Sum.inr kv.1 : Key)).zip xs))) a ys := sqT_upd fun ys z => by
      rcases z with z | ⟨o, z⟩ <;> (rw [e2] at z; cases z)
    generalize hdd : (HO.dK ((kvs.map fun kv => (Sum.inr kv.1 : Key)).zip xs)) = o at tt
    have s3 : Stp X.K H M (upd H2 p o) M2 := ⟨fun a ys z => tt a ys (s02.t a ys z), fun a u z0 z z2 => by
      have z3 := s02.g a u z0 z z2
      exact ⟨by rw [upd_ne (ne_of_none z hp)]; exact z3.1, z3.2⟩, fun a fs z => by
      rw [upd_ne (ne_of_none z hp)]
      exact s02.x a fs z, fun a u v z => by
      rw [upd_ne (ne_of_none z hp)]
      exact s02.f a u v z⟩
    have hr3 : HR X.K (upd H2 p o) M2 := fun a u z => (hr2 a u z).flat tt (upd_ne fun z2 => by
      rw [z2, m2] at z
      cases z)
    refine q (.ref p) (upd H2 p o) _ M2 s3 ?_ hr3 hq
    unfold R
    exact ⟨p, xs, rfl, by rw [← hdd]; exact upd_same, m2, by rw [List.length_map, List.length_map], ra.flat tt nl⟩
/-! ### x in a tuple of texts -/
def inF (f : Bool → Bool) : F2 := fun x y M Q => match x, y with
  | .str x, .tup ds => onO (strB ds) fun ys => Q (.bl (f (ys.any fun y => y == x))) M
  | _, _ => False
theorem inV_strs {x : Str} : ∀ ys : List Str, inV (.str x) (ys.map V.str) = ys.any fun y => y == x
  | [] => rfl
  | y :: ys => by
    show (eqV (.str y) (.str x) || inV (.str x) (ys.map V.str)) = _
    rw [inV_strs ys]
    rfl
theorem flat_strs : ∀ ys : List Str, (ys.map V.str).all flatV = true
  | [] => rfl
  | y :: ys => flat_strs ys
theorem ov_in {K : PySem.W.Frag} : OpV K (rIn K false) (inF id) := by
  intro H M v w x y Q Qd hr rx ry h1 q
  unfold inF at h1
  split at h1
  · rename_i x ds
    obtain ⟨ys, e, h2⟩ := onO_of h1
    obtain ⟨a, xs, ew, sq, ra⟩ := ry.tup_v
    have ex := strB_of ra e
    subst ex
    refine ⟨a, _, ew, .inr sq, ?_, flat_strs ys, ?_⟩
    · rw [rx.str_v]
      rfl
    · rw [rx.str_v, if_neg Bool.false_ne_true, inV_strs]
      exact q _ H _ M .refl R.blI hr h2
  · exact h1.elim
theorem ov_notIn {K : PySem.W.Frag} : OpV K (rIn K true) (inF not) := by
  intro H M v w x y Q Qd hr rx ry h1 q
  unfold inF at h1
  split at h1
  · rename_i x ds
    obtain ⟨ys, e, h2⟩ := onO_of h1
    obtain ⟨a, xs, ew, sq, ra⟩ := ry.tup_v
    have ex := strB_of ra e
    subst ex
    refine ⟨a, _, ew, .inr sq, ?_, flat_strs ys, ?_⟩
    · rw [rx.str_v]
      rfl
    · rw [rx.str_v, if_pos rfl, inV_strs]
      exact q _ H _ M .refl R.blI hr h2
  · exact h1.elim
end
end DL

set_option Elab.async false
set_option linter.all false
set_option maxRecDepth 100000
set_option maxHeartbeats 4000000
/-! defs with keyword-only parameters that have whole numbers as defaults. -/
namespace DL
open PySem PySem.Spec L2
def kdV (kd : List (Str × Int)) : List V := kd.map fun q => V.int q.2
def kdD (kd : List (Str × Int)) : List D := kd.map fun q => D.int q.2
theorem RA.kd {K : PySem.W.Frag} {H : Hp} {M : DM} : ∀ kd : List (Str × Int), RA K H M (kdV kd) (kdD kd)
  | [] => RA.nil
  | q :: kd => RA.cons R.intI (RA.kd kd)
/-- such a def stands at the top: n parameters, then the keyword-only ones -/
def DfK (K : PySem.W.Frag) (mg : Str → Option Value) (x : Str) (st : Stmt) (ps : List Str) (n : Nat) (kd : List (Str × Int)) : Prop :=
  ∃ (f : Addr) (fd : FuncData), mg x = some (.ref f) ∧ Fun K x x st f fd ∧ (∃ ds, Vals (kdV kd) ds ∧ Binds K fd ps ds) ∧ KBn K fd ps n (kd.map (·.1)) (fun us ws => us ++ ws) fun vs zs => vs ++ zs
def DnK (P : Program) (w : World) (K : PySem.W.Frag) (mg : Str → Option Value) (base : Heap) (x : Str) (ps : List Str) (n : Nat) (kd : List (Str × Int)) (k : Nat) (sp : DSp) : Prop :=
  ∃ (f : Addr) (fd : FuncData), mg x = some (.ref f) ∧ PySem.W.keepIn K (.ref f) = true ∧ (∃ ds, Vals (kdV kd) ds ∧ Binds K fd ps ds) ∧ KBn K fd ps n (kd.map (·.1)) (fun us ws => us ++ ws) (fun vs zs => vs ++ zs) ∧ FnOk P w K mg base (L2.CX P w) k f fd ps (spD K ps.length sp)
section
variable {P : Program} {w : World} {K : PySem.W.Frag} {mg : Str → Option Value} {base : Heap}
theorem okK {x : Str} {st : Stmt} {N ps : List Str} {n : Nat} {kd : List (Str × Int)} {k : Nat} {sp : DSp} (F : DfK K mg x st ps n kd) (S : FnScope N ps (defScope st)) (hps : ps.length ≤ N.length)
    (hbody : ∀ (f : Addr) (cdv : Value) (A : Around) (outer : List Env) (s : Shared) (H : Hp) (E : XK), Room k (A.deeper (PyProof.Rows.envOfC x (defScope st) s.heap.objs.size f cdv)) →
      ∃ ds : DS, PSs (cxOf (L2.CX P w) P w K mg base N x (defScope st) f cdv A outer s H E) (defBody st) (uS K (fun cls d _ H => E cls d H) ds) ∧ ∀ as M Qd Xd, as.length = ps.length → sp as M Qd Xd → ds (endsD Qd Xd) (startD N.length as) M) :
    DnK P w K mg base x ps n kd (k + 1) sp := by
  obtain ⟨f, fd, hm, hF, hb, hk⟩ := F
  exact ⟨f, fd, hm, hF.kp, hb, hk, okD hF S hps fun cdv A outer s H E hr => hbody f cdv A outer s H E hr⟩
end
section
variable {X : Cx} {W : WX} {e : Expr} {es : List Expr} {dag dak : DA} {pos : Pos}
def dFnK0 (sp : DSp) (n : Nat) (kd : List (Str × Int)) (da : DA) : DE := fun ρ M Q Xd => da ρ M (fun ds M1 => ds.length = n ∧ sp (ds ++ kdD kd) M1 Q Xd) Xd
theorem dd_fnK0 {x : Str} {p : Pos} {k n : Nat} {ps : List Str} {kd : List (Str × Int)} {sp : DSp} (G : DnK X.prog X.w X.K X.mg X.base x ps n kd k sp) (hn : n + kd.length = ps.length) (hr : Room k X.A) (hg : Gl X x) (tk : Takes X W) (ha : PA X (e :: es) (uA X.K W dag))
    (hd : (x == ("__debug__" : Str)) = false := by decide) (he : starEach (e :: es) X.env = (false, eval e X.env) :: starEach es X.env := by exact rfl) (hpl : (backTo pos (starEach es X.env)).any (·.1) = false := by exact rfl) :
    PE X (.Call (.Name x p) (e :: es) [] pos) (uE X.K W (dFnK0 sp n kd dag)) := by
  obtain ⟨f, fd, hm, hk, ⟨ds, hv, hb⟩, _, F⟩ := G
  refine pe_imp (pe_callSD F hr hg hm hk hb hv (fun σ => passAt tk σ) ha hd he hpl) fun σ H Q ⟨ρ, M, Qd, Xd, en, hr, h, q, x⟩ => ⟨ρ, M, _, Xd, en, hr, h, fun vs H1 ds M1 s1 r1 hr1 h1 => ⟨ds ++ kdD kd, M1, Qd, Xd, ?_, RA.app r1 (RA.kd kd), hr1, h1.2, q.stp s1, fun c od fs H' M' s2 xr hr2 h2 => x c od fs H' M' (s1.trans s2) xr hr2 h2⟩, x⟩
  rw [List.length_append, h1.1]
  unfold kdD
  rw [List.length_map]
  exact hn
/-- the keywords' values -/
theorem dk_one {nm : Option Str} {kpos : Pos} {de : DE} (he : PE X e (uE X.K W de)) : PK X [⟨nm, e, kpos⟩] (uA X.K W (dCons de dNil)) :=
  ⟨fun pos pins s σ H Q I h => (pk_cons he pk_nil).run pos pins s σ H Q I (by
    obtain ⟨ρ, M, Qd, Xd, en, hr, h, q, x⟩ := h
    exact ⟨ρ, M, _, Xd, en, hr, h, fun v H1 d1 M1 s1 r1 hr1 h1 => q [v] H1 [d1] M1 s1 (RA.cons r1 RA.nil) hr1 h1, x⟩)⟩
theorem run_fnKS {CX : CXT} {k n : Nat} {f : Addr} {fd : FuncData} {ps ks : List Str} {sp : Sp} {E : L2.St → XK} {g : List Value → List Value → List Value} {gV : List V → List V → List V} {pins : List (Addr × Obj)} {σ : L2.St} {H : Hp} {s : Shared} {Q : VK} {us ws : List Value} {vs zs : List V}
    (F : FnOk X.prog X.w X.K X.mg X.base CX k f fd ps sp) (hr : Room k X.A) (hb : KBn X.K fd ps n ks g gV) (hx : PassesAt CX X σ (E σ)) (I : Inv X pins σ H s) (r : Vals vs us) (rz : Vals zs ws) (l1 : vs.length = n) (l2 : zs.length = ks.length) (h : sp (gV vs zs) H Q (E σ)) :
    wpAny (model X.prog X.w) X.A (call (.ref f) us (ks.zip ws)) (EP X pins σ Q) X.xe s := by
  have b := hb.to s us ws I.kIn (r.length.symm.trans l1) (rz.length.symm.trans l2)
  refine wpAny_call (codeAny_mono (F.run X.A X.stack s H ⟨us, ks.zip ws⟩ (g us ws) (gV vs zs) Q (E σ) hr I.env0 b (hb.rel r rz) h) ?_)
  rintro (e | fl) s' hq
  · exact hx pins H s e s' I hq
  · cases fl with
    | ret u => exact I.after hq
    | next => exact False.elim hq
    | brk => exact False.elim hq
    | cont => exact False.elim hq
def dFnK1 (sp : DSp) (n m : Nat) (da dk : DA) : DE := fun ρ M Q Xd => da ρ M (fun ds M1 => dk ρ M1 (fun es M2 => ds.length = n ∧ es.length = m ∧ sp (ds ++ es) M2 Q Xd) Xd) Xd
theorem dd_fnK1 {x : Str} {p : Pos} {k n m : Nat} {ps : List Str} {kd : List (Str × Int)} {kws : List Keyword} {sp : DSp} (G : DnK X.prog X.w X.K X.mg X.base x ps n kd k sp) (hn : n + m = ps.length) (hr : Room k X.A) (hg : Gl X x) (tk : Takes X W) (ha : PA X (e :: es) (uA X.K W dag)) (hkw : PK X kws (uA X.K W dak))
    (hm' : kd.length = m := by exact rfl) (hall : (backToKw pos (keywordEach kws X.env)).all (·.1.isSome) = true := by exact rfl) (hks : (backToKw pos (keywordEach kws X.env)).filterMap (·.1) = kd.map (·.1) := by exact rfl)
    (hdb : (x == ("__debug__" : Str)) = false := by decide) (he : starEach (e :: es) X.env = (false, eval e X.env) :: starEach es X.env := by exact rfl)
    (hpl : ((backTo pos (starEach (e :: es) X.env)).any (·.1) || (backToKw pos (keywordEach kws X.env)).any (·.1.isNone)) = false := by exact rfl) :
    PE X (.Call (.Name x p) (e :: es) kws pos) (uE X.K W (dFnK1 sp n m dag dak)) := by
  obtain ⟨f, fd, hm, hk, _, hb, F⟩ := G
  refine ⟨fun pins s σ H Q I ⟨ρ, M, Qd, Xd, en, hr2, h, q, x2⟩ => ?_⟩
  refine wpAny_Call_Name_kw (ld_glob I hg hm ?_ hdb)
  refine PySem.W.callWith_KW (h₀ := X.base) I.ok.mod.kin hk hall (thn (ha.run pos pins s σ H (fun vs H1 => uA X.K W dak σ H1 fun zs H2 => vs.length = n ∧ zs.length = m ∧ spD X.K ps.length sp (vs ++ zs) H2 Q (WE W σ)) I ⟨ρ, M, _, Xd, en, hr2, h, fun vs H1 ds M1 s1 r1 hr1 h1 => ?_, x2⟩) fun us s1 ⟨vs, H1, I1, r, q1⟩ => ?_) hpl he
  · refine ⟨ρ, M1, _, Xd, en.stp s1, hr1, h1, fun zs H2 es M2 s2 r2 hr3 h2 => ⟨r1.len.trans h2.1, r2.len.trans h2.2.1, ds ++ es, M2, Qd, Xd, ?_, RA.app (r1.stp s2) r2, hr3, h2.2.2, q.stp (s1.trans s2), fun c od fs H' M' s3 xr hr4 h4 => x2 c od fs H' M' ((s1.trans s2).trans s3) xr hr4 h4⟩, x2.stp s1⟩
    rw [List.length_append, h2.1, h2.2.1]
    exact hn
  · refine thn (hkw.run pos pins s1 σ H1 _ I1 q1) fun ws s2 ⟨zs, H2, I2, rz, l1, l2, q2⟩ => ⟨I2.kIn, ?_⟩
    rw [hks]
    exact run_fnKS (E := WE W) F hr hb (passAt tk σ) I2 r rz l1 (by rw [List.length_map, hm']; exact l2) q2
end
end DL

set_option Elab.async false
set_option linter.all false
set_option maxRecDepth 100000
set_option maxHeartbeats 4000000
/-! dicts of the top with tuples of texts as keys; text * n; text[::-1]. -/
namespace DL
open PySem PySem.Spec L2
/-! ### a dict of the top with tuple keys -/
def tkv : Value → Option Str
  | .str x _ => some x
  | _ => none
theorem tkv_ok {v : Value} {x : Str} (h : tkv v = some x) : ∃ t, v = .str x t := by
  unfold tkv at h
  split at h
  · cases h
    exact ⟨_, rfl⟩
  · cases h
def tkK (K : PySem.W.Frag) (v : Value) : Option (List (Option Str)) := match v with
  | .ref t => (match K.lookup t with
    | some ⟨.type c, _, .seq its _, _⟩ => (match decide (c = "tuple") with
      | true => some (its.toList.map tkv)
      | false => none)
    | _ => none)
  | _ => none
abbrev TtO : Type := Option (List (Int × Option (List (Option Str)) × Option Str))
def ttObs (K : PySem.W.Frag) (a : Addr) : TtO := match K.lookup a with
  | some ⟨.type c, none, .dict es _, sl⟩ => (match decide (c = "dict") && (sl.isEmpty && !(a == sysModules)) with
    | true => some (es.toList.map fun e => (e.hash, tkK K e.key, tkv e.val))
    | false => none)
  | _ => none
def ttHash (w : World) (ks : List Str) : Int := reduceHash (Builtin.Tuple.tupleHashOf (ks.map (PyData.keyHash w.params)))
def ttDue (w : World) (kvs : List (List Str × Str)) : TtO := some (kvs.map fun q => (ttHash w q.1, some (q.1.map some), some q.2))
abbrev Xs := List (List Key × Addr × Value)
/-- the table as its entries -/
structure KTT (K : PySem.W.Frag) (w : World) (a : Addr) (kvs : List (List Str × Str)) : Prop where
  ex : ∃ (es : Array DictEntry) (n : Nat) (xs : Xs), K.lookup a = some ⟨.type "dict", none, .dict es n, #[]⟩ ∧ es.toList = xs.map (fun x => ⟨reduceHash (Builtin.Tuple.tupleHashOf (x.1.map (keyH w))), .ref x.2.1, x.2.2⟩) ∧
    (∀ x ∈ xs, ∃ od its m sl, K.lookup x.2.1 = some ⟨.type "tuple", od, .seq its m, sl⟩ ∧ its.toList.map tkv = x.1.map (fun k => match k with | .inr z => some z | .inl _ => none)) ∧
    xs.map (fun x => (x.1, tkv x.2.2)) = kvs.map fun q => (q.1.map Sum.inr, some q.2)
  low : (a == sysModules) = false
theorem keyH_str (w : World) (z : Str) : keyH w (.inr z) = PyData.keyHash w.params z := rfl
theorem tkK_ok {K : PySem.W.Frag} {v : Value} {l : List (Option Str)} (h : tkK K v = some l) : ∃ t od its m sl, v = .ref t ∧ K.lookup t = some ⟨.type "tuple", od, .seq its m, sl⟩ ∧ its.toList.map tkv = l := by
  unfold tkK at h
  split at h
  · rename_i t
    split at h
    · rename_i c od its m sl q
      split at h
      · rename_i e
        cases h
        have e2 : c = "tuple" := of_decide_eq_true e
        subst e2
        exact ⟨t, od, its, m, sl, rfl, q, rfl⟩
      · cases h
    · cases h
  · cases h
theorem tt_xs {K : PySem.W.Frag} {w : World} : ∀ {l : List DictEntry} {kvs : List (List Str × Str)}, l.map (fun e => (e.hash, tkK K e.key, tkv e.val)) = kvs.map (fun q => (ttHash w q.1, some (q.1.map some), some q.2)) →
    ∃ xs : Xs, l = xs.map (fun x => ⟨reduceHash (Builtin.Tuple.tupleHashOf (x.1.map (keyH w))), .ref x.2.1, x.2.2⟩) ∧
      (∀ x ∈ xs, ∃ od its m sl, K.lookup x.2.1 = some ⟨.type "tuple", od, .seq its m, sl⟩ ∧ its.toList.map tkv = x.1.map (fun k => match k with | .inr z => some z | .inl _ => none)) ∧
      xs.map (fun x => (x.1, tkv x.2.2)) = kvs.map fun q => (q.1.map Sum.inr, some q.2)
  | [], [], _ => ⟨[], rfl, fun x hx => absurd hx List.not_mem_nil, rfl⟩
  | [], _ :: _, h => by cases h
  | _ :: _, [], h => by cases h
  | e :: l, q :: kvs, h => by
    rw [List.map_cons, List.map_cons] at h
    injection h with h1 h2
    obtain ⟨xs, x1, x2, x3⟩ := tt_xs h2
    injection h1 with h3 h4
    injection h4 with h5 h6
    obtain ⟨t, od, its, m, sl, ek, lk, ei⟩ := tkK_ok h5
    obtain ⟨hh, kk, vv⟩ := e
    dsimp only at h3 h5 h6 ek
    subst ek
    refine ⟨(q.1.map Sum.inr, t, vv) :: xs, ?_, ?_, ?_⟩
    · rw [List.map_cons, ← x1, h3]
      have e1 : (q.1.map (Sum.inr : Str → Key)).map (keyH w) = q.1.map (PyData.keyHash w.params) := by
        rw [List.map_map]
        rfl
      rw [e1]
      rfl
    · intro x hx
      rcases List.mem_cons.mp hx with rfl | hx
      · refine ⟨od, its, m, sl, lk, ?_⟩
        rw [ei, List.map_map]
        rfl
      · exact x2 x hx
    · rw [List.map_cons, List.map_cons, x3, h6]
theorem ktt_of {K : PySem.W.Frag} {w : World} {a : Addr} {kvs : List (List Str × Str)} (h : ttObs K a = ttDue w kvs) : KTT K w a kvs := by
  unfold ttObs ttDue at h
  split at h
  · rename_i c es n sl q
    split at h
    · rename_i z
      obtain ⟨z1, z2⟩ := Bool.and_eq_true_iff.mp z
      obtain ⟨z3, z4⟩ := Bool.and_eq_true_iff.mp z2
      have e1 : c = "dict" := of_decide_eq_true z1
      have e2 : sl = #[] := Array.isEmpty_iff.mp z3
      subst e1 e2
      obtain ⟨xs, x1, x2, x3⟩ := tt_xs (Option.some.inj h)
      exact ⟨⟨es, n, xs, q, x1, x2, x3⟩, by simpa using z4⟩
    · cases h
  · cases h
def ttGet (kvs : List (List Str × Str)) (ks : List Str) : Option Str := (kvs.find? fun q => decide (q.1 = ks)).map (·.2)
theorem map_inr_inj {a b : List Str} : (a.map (Sum.inr : Str → Key) = b.map Sum.inr) ↔ a = b := by
  constructor
  · intro h
    exact (List.map_inj_right (fun x y e => Sum.inr.inj e)).mp h
  · intro h
    rw [h]
theorem tt_find (ks : List Str) : ∀ {xs : Xs} {kvs : List (List Str × Str)}, xs.map (fun x => (x.1, tkv x.2.2)) = kvs.map (fun q => (q.1.map Sum.inr, some q.2)) →
    (ttGet kvs ks = none ∧ atKey xs (ks.map Sum.inr) = none) ∨ ∃ p z t, ttGet kvs ks = some z ∧ atKey xs (ks.map Sum.inr) = some (p, .str z t)
  | [], [], _ => .inl ⟨rfl, rfl⟩
  | [], _ :: _, h => by cases h
  | _ :: _, [], h => by cases h
  | (k, p, v) :: xs, q :: kvs, h => by
    rw [List.map_cons, List.map_cons] at h
    injection h with h1 h2
    injection h1 with h3 h4
    dsimp only at h3 h4
    obtain ⟨t, ev⟩ := tkv_ok h4
    subst h3 ev
    unfold ttGet atKey
    rw [List.find?_cons, List.find?_cons]
    by_cases c : q.1 = ks
    · right
      have c2 : (q.1.map (Sum.inr : Str → Key)) = ks.map Sum.inr := by rw [c]
      dsimp only
      rw [decide_eq_true c, decide_eq_true c2]
      exact ⟨p, q.2, t, rfl, rfl⟩
    · have c2 : ¬ (q.1.map (Sum.inr : Str → Key)) = ks.map Sum.inr := fun z => c (map_inr_inj.mp z)
      dsimp only
      rw [decide_eq_false c, decide_eq_false c2]
      exact tt_find ks h2
theorem items_strs {P : Program} {w : World} : ∀ {zs : List Str} {its : List Value}, its.map tkv = zs.map some → ItemsAre (mixKind P w) (zs.map Sum.inr) its
  | [], [], _ => .nil
  | [], _ :: _, h => by cases h
  | _ :: _, [], h => by cases h
  | z :: zs, v :: its, h => by
    rw [List.map_cons, List.map_cons] at h
    injection h with h1 h2
    obtain ⟨t, rfl⟩ := tkv_ok h1
    exact .cons (kV_is (k := Sum.inr z) ⟨t, rfl⟩) (items_strs h2)
theorem unInr : ∀ {k : List Key} {zs : List Str}, k = zs.map Sum.inr → k.map (fun k => match k with | .inr z => some z | .inl _ => none) = zs.map some
  | _, zs, rfl => by
    rw [List.map_map]
    rfl
theorem ktt_dict {P : Program} {K : PySem.W.Frag} {w : World} {a : Addr} {kvs : List (List Str × Str)} {h : Heap} (X : K.In h) (T : KTT K w a kvs) (nd : (kvs.map (·.1)).Nodup) :
    ∃ xs : Xs, h.DictOfH (tupleKind (mixKind P w)) a xs ∧ xs.map (fun x => (x.1, tkv x.2.2)) = kvs.map fun q => (q.1.map Sum.inr, some q.2) := by
  obtain ⟨⟨es, n, xs, lk, e1, e2, e3⟩, low⟩ := T
  have ek : xs.map (·.1) = kvs.map fun q => q.1.map Sum.inr := by
    have := congrArg (List.map (·.1)) e3
    rw [List.map_map, List.map_map] at this
    exact this
  refine ⟨xs, ⟨_, es, n, X _ _ lk, ⟨rfl, rfl, rfl⟩, rfl, e1, fun x hx => ?_, ?_⟩, e3⟩
  · obtain ⟨od, its, m, sl, l, ei⟩ := e2 x hx
    have hm : x.1 ∈ kvs.map fun q => q.1.map Sum.inr := ek ▸ List.mem_map_of_mem hx
    obtain ⟨q, _, eq⟩ := List.mem_map.mp hm
    rw [unInr eq.symm] at ei
    exact ⟨_, its, m, X _ _ l, rfl, rfl, by rw [← eq]; exact items_strs ei⟩
  · rw [ek]
    have : (kvs.map fun q => q.1.map (Sum.inr : Str → Key)) = (kvs.map (·.1)).map (List.map Sum.inr) := by
      rw [List.map_map]
      rfl
    rw [this]
    exact List.Pairwise.map _ (fun a b hab z => hab (map_inr_inj.mp z)) nd
/-! ### in, [] -/
def KTTab (K : PySem.W.Frag) (w : World) (mg : Str → Option Value) (x : Str) (kvs : List (List Str × Str)) : Prop := ∃ a, mg x = some (.ref a) ∧ KTT K w a kvs ∧ (kvs.map (·.1)).Nodup
section
variable {X : Cx} {W : WX} {e i : Expr} {de di : DE} {pos p : Pos} {x : Str} {d : Addr} {kvs : List (List Str × Str)}
def rInTT (K : PySem.W.Frag) (d : Addr) (kvs : List (List Str × Str)) : R2 := fun x y H Q => ∃ b ks, x = .ref b ∧ y = .ref d ∧ SqT K H b (ks.map V.str) ∧ Q (.bl (ttGet kvs ks).isSome) H
def rIxTT (K : PySem.W.Frag) (d : Addr) (kvs : List (List Str × Str)) : R2 := fun x y H Q => ∃ b ks z, x = .ref d ∧ y = .ref b ∧ SqT K H b (ks.map V.str) ∧ ttGet kvs ks = some z ∧ Q (.str z) H
theorem key_sqt {pins : List (Addr × Obj)} {σ : L2.St} {H : Hp} {s : Shared} {b : Addr} {ks : List Str} (I : Inv X pins σ H s) (h : SqT X.K H b (ks.map V.str)) : (tupleKind (mixKind X.prog X.w)).is s.heap (ks.map Sum.inr) b := by
  obtain ⟨its, r, ⟨o, ho, hc, n, hd⟩, _⟩ := I.tuple h
  refine ⟨o, its.toArray, n, ho, hc, hd, ?_⟩
  have e : ks.map V.str = (ks.map (Sum.inr : Str → Key)).map kV := by
    rw [List.map_map]
    rfl
  rw [e] at r
  exact items_are r
theorem op_inTT (hu : X.A.units + 1 < cLine) (T : KTT X.K X.w d kvs) (nd : (kvs.map (·.1)).Nodup) : OpR X (compareOp .In) (rInTT X.K d kvs) := by
  intro pins s σ H x y v u Q I rx ry h
  obtain ⟨b, ks, rfl, rfl, sq, q⟩ := h
  cases rx
  cases ry
  obtain ⟨xs, dd, e3⟩ := ktt_dict (P := X.prog) I.kIn T nd
  refine wpAny_in_heap (tupleKind_room_in1 hu) (key_sqt I sq) T.low dd ?_
  have e : (atKey xs (ks.map Sum.inr)).isSome = (ttGet kvs ks).isSome := by
    rcases tt_find ks e3 with ⟨n1, n2⟩ | ⟨p, z, t, g1, g2⟩
    · rw [n1, n2]; rfl
    · rw [g1, g2]; rfl
  rw [e]
  exact ⟨.bl _, H, I.tok _, rfl, q⟩
open PyProof.Rows in
theorem ix_TT (hu : X.A.units + 1 < cLine) (T : KTT X.K X.w d kvs) (nd : (kvs.map (·.1)).Nodup) : IxR X (rIxTT X.K d kvs) := by
  intro value slice pins s σ H x y v u Q I rx ry h hs
  obtain ⟨b, ks, z, rfl, rfl, sq, g, q⟩ := h
  obtain rfl : v = Value.ref d := rx
  obtain rfl : u = Value.ref b := ry
  obtain ⟨xs, dd, e3⟩ := ktt_dict (P := X.prog) I.kIn T nd
  rcases tt_find ks e3 with ⟨n1, _⟩ | ⟨p, z2, t, g1, g2⟩
  · rw [n1] at g
    cases g
  · rw [g1] at g
    cases g
    exact tail_any dd.typeIs slot_dict_getitem.lookup (wpAny_getItem_heap (tupleKind_room_in1 hu) (key_sqt I sq) dd g2 ⟨.str z, H, I.tok _, ⟨t, rfl⟩, q⟩) hs
/-- a tuple of texts, as data -/
def tupS (d : D) : Option (List Str) := match d with
  | .tup ds => strB ds
  | _ => none
theorem tupS_of {K : PySem.W.Frag} {H : Hp} {M : DM} {v : V} {d : D} {ks : List Str} (r : R K H M v d) (h : tupS d = some ks) : ∃ b, v = .ref b ∧ SqT K H b (ks.map V.str) := by
  unfold tupS at h
  split at h
  · obtain ⟨a, xs, ev, sq, ra⟩ := r.tup_v
    have := strB_of ra h
    subst this
    exact ⟨a, ev, sq⟩
  · cases h
def dInT (kvs : List (List Str × Str)) (di : DE) : DE := fun ρ M Q Xd => di ρ M (fun y M1 => onO (tupS y) fun ks => Q (.bl (ttGet kvs ks).isSome) M1) Xd
def dIxTT (kvs : List (List Str × Str)) (di : DE) : DE := fun ρ M Q Xd => di ρ M (fun y M1 => onO (tupS y) fun ks => onO (ttGet kvs ks) fun z => Q (.str z) M1) Xd
theorem inT_in (d : Addr) (σ : L2.St) (H : Hp) (Q : VK) : uE X.K W (dInT kvs di) σ H Q → tOp (rInTT X.K d kvs) (uE X.K W di) (tC (.ref d)) σ H Q := fun ⟨ρ, M, Qd, Xd, en, hr, h, q, x⟩ => by
  refine ⟨ρ, M, _, Xd, en, hr, h, fun v H1 y M1 s1 r1 hr1 h1 => ?_, x⟩
  obtain ⟨ks, e1, h2⟩ := onO_of h1
  obtain ⟨b, ev, sq⟩ := tupS_of r1 e1
  exact ⟨b, ks, ev, rfl, sq, q _ H1 _ M1 s1 R.blI hr1 h2⟩
theorem dd_inT (hu : X.A.units + 1 < cLine) (hg : Gl X x) (T : KTTab X.K X.w X.mg x kvs) (hi : PE X i (uE X.K W di)) (hd : (x == ("__debug__" : Str)) = false := by decide) (hb : behindInMarks .In (.Name x p) = false := by rfl) : PE X (.Compare i [.In] [.Name x p] pos) (uE X.K W (dInT kvs di)) := by
  obtain ⟨a, hm, T, nd⟩ := T
  exact pe_imp (pe_cmpR (op_inTT hu T nd) hi (pe_glob (v := .ref a) hg hm rfl hd) hb) (inT_in a)
theorem dt_inT (hu : X.A.units + 1 < cLine) (hg : Gl X x) (T : KTTab X.K X.w X.mg x kvs) (hi : PE X i (uE X.K W di)) (hd : (x == ("__debug__" : Str)) = false := by decide) (hb : behindInMarks .In (.Name x p) = false := by rfl) : PT X (.Compare i [.In] [.Name x p] pos) (uT X.K W (dTest (dInT kvs di))) := by
  obtain ⟨a, hm, T, nd⟩ := T
  refine pt_imp (pt_cmpR (op_inTT hu T nd) hi (pe_glob (v := .ref a) hg hm rfl hd) hb) fun σ H Q h => ?_
  have := bl_in σ H Q h
  exact inT_in a σ H _ this
theorem dd_ixTT (hu : X.A.units + 1 < cLine) (hg : Gl X x) (T : KTTab X.K X.w X.mg x kvs) (hi : PE X i (uE X.K W di)) (hs : PlainIx i) (hd : (x == ("__debug__" : Str)) = false := by decide) : PE X (.Subscript (.Name x p) i pos) (uE X.K W (dIxTT kvs di)) := by
  obtain ⟨a, hm, T, nd⟩ := T
  refine pe_imp (pe_ix (ix_TT hu T nd) (pe_glob (v := .ref a) hg hm rfl hd) hi hs) fun σ H Q ⟨ρ, M, Qd, Xd, en, hr, h, q, x⟩ => ?_
  refine ⟨ρ, M, _, Xd, en, hr, h, fun v H1 y M1 s1 r1 hr1 h1 => ?_, x⟩
  obtain ⟨ks, e1, h2⟩ := onO_of h1
  obtain ⟨z, e2, h3⟩ := onO_of h2
  obtain ⟨b, ev, sq⟩ := tupS_of r1 e1
  exact ⟨b, ks, z, rfl, ev, sq, e2, q _ H1 _ M1 s1 R.strI hr1 h3⟩
end
end DL

set_option Elab.async false
set_option linter.all false
set_option maxRecDepth 100000
set_option maxHeartbeats 4000000
/-! text * n, text[::-1]. -/
namespace DL
open PySem PySem.Spec L2
/-! ### text * n -/
def rMulS : R2 := fun x y H Q => ∃ z n, x = .str z ∧ y = .int n ∧ -(2 ^ 31) < n ∧ n < 2 ^ 31 ∧ z.length * n.toNat ≤ sizeLine ∧ Q (.str (Txt.mul z n)) H
theorem mulOk_of {z : Str} {n : Int} (h1 : -(2 ^ 31) < n) (h2 : n < 2 ^ 31) (h3 : z.length * n.toNat ≤ sizeLine) : MulOk z n := by
  refine ⟨?_, fun c _ z2 => ?_, fun _ _ => ?_⟩
  · rw [decide_eq_false (by omega), decide_eq_false (by omega)]
    rfl
  · have hn : 0 < n := by omega
    have e : (z.length : Int) * n ≤ 2 ^ 24 := by
      have e1 : ((z.length * n.toNat : Nat) : Int) = (z.length : Int) * n := by
        rw [Int.natCast_mul, Int.toNat_of_nonneg (by omega)]
      rw [← e1]
      rw [sizeLine_eq] at h3
      omega
    have := Int.le_ediv_of_mul_le hn (show (z.length : Int) * n ≤ 2 ^ 63 - 1 by omega)
    omega
  · unfold Builtin.Str.tooLong
    exact decide_eq_false (by omega)
section
variable {X : Cx} {W : WX} {e : Expr} {de : DE} {pos : Pos} {K : PySem.W.Frag}
theorem op_mulS : OpR X (binaryOp .Mult) rMulS := by
  intro pins s σ H x y v u Q I rx ry h
  obtain ⟨z, n, rfl, rfl, h1, h2, h3, q⟩ := h
  obtain ⟨t, rfl⟩ := rx
  obtain ⟨t2, rfl⟩ := ry
  exact SB.mul (mulOk_of h1 h2 h3) fun t3 k => ⟨.str _, H, I.tok _, ⟨t3, rfl⟩, q⟩
def mulSF : F2 := fun x y M Q => match x, y with
  | .str z, .int n => -(2 ^ 31) < n ∧ n < 2 ^ 31 ∧ z.length * n.toNat ≤ sizeLine ∧ Q (.str (Txt.mul z n)) M
  | _, _ => False
theorem ov_mulS : OpV K rMulS mulSF := by
  intro H M v w x y Q Qd hr rx ry h1 q
  unfold mulSF at h1
  split at h1
  · exact ⟨_, _, rx.str_v, ry.int_v, h1.1, h1.2.1, h1.2.2.1, q _ H _ M .refl R.strI hr h1.2.2.2⟩
  · exact h1.elim
/-! ### text[::-1] -/
def revStr (z : Str) : Str := ⟨z.cps.toList.reverse.toArray⟩
theorem revStr_len (z : Str) : (revStr z).length = z.length := by
  show (revStr z).cps.size = z.cps.size
  simp [revStr]
theorem by_rev (z : Str) (u : Tok) : Txt.sliceBy z none none (-1, u) = revStr z := by
  have e := PyProof.Rows.step_rev_list z u
  have e2 : ((List.range z.length).map fun k => z.cps.getD (z.length - 1 - k) 0) = z.cps.toList.reverse := by
    refine List.ext_getElem ?_ fun i h1 h2 => ?_
    · rw [List.length_map, List.length_range, List.length_reverse]
      rfl
    · rw [List.getElem_map, List.getElem_range, List.getElem_reverse]
      rw [List.length_map, List.length_range] at h1
      have h3 : z.length - 1 - i < z.cps.size := by
        show _ < z.length
        omega
      simp only [Array.getD, h3, dif_pos]
      rfl
  rw [e2] at e
  unfold revStr
  rw [← e]
theorem made_rev (z : Str) (tk tt : Tok) : sliceMade z tk none none (some (-1, tt)) = Made.str (revStr z) := by
  have e := by_rev z tt
  have f : ((-1 : Int) == 1) = false := rfl
  unfold Txt.sliceBy at e
  rw [if_neg (by show ¬ (((-1 : Int) == 1) && _) = true; rw [f, Bool.false_and]; exact Bool.false_ne_true)] at e
  unfold sliceMade
  rw [if_neg (by show ¬ (((-1 : Int) == 1) && _) = true; rw [f, Bool.false_and]; exact Bool.false_ne_true), e]
def tRevS (te : TE) : TE := fun σ H Q => te σ H fun x H1 => ∃ z, x = .str z ∧ z.length ≤ sizeLine ∧ Q (.str (revStr z)) H1
open PyProof.Rows in
theorem pe_revS {te : TE} {k : Nat} {p1 p2 p3 : Pos} (he : PE X e te) : PE X (.Subscript e (.Slice none none (some (.UnaryOp .USub (.Constant (.int 1) k p1) p2)) p3) pos) (tRevS te) := by
  refine ⟨fun pn r0 ρ G Q I h => ?_⟩
  refine Subscript_ (thn (he.run pn r0 ρ G _ I h) fun v r1 ⟨x, G1, I1, rx, z, ex, hz, q⟩ => ?_)
  subst ex
  obtain ⟨tk, ev⟩ := rx
  subst ev
  have hst : PO X (some (.UnaryOp .USub (.Constant (.int 1) k p1) p2)) (tPart (tUn (rU fun i => .int (-i)) (tC (.int 1)))) := po_some (pe_un un_neg pe_int)
  refine wpAny_Slice (thn (po_none.run pn r1 ρ G1 (fun o J => o = none ∧ J = G1) I1 ⟨rfl, rfl⟩) fun vl r2 ⟨l, G2, I2, pl, el, e2⟩ => ?_)
  subst el e2
  refine thn (po_none.run pn r2 ρ G2 (fun o J => o = none ∧ J = G2) I2 ⟨rfl, rfl⟩) fun vu r3 ⟨u, G3, I3, pu, eu, e3⟩ => ?_
  subst eu e3
  refine thn (hst.run pn r3 ρ G3 (fun o J => o = some (-1) ∧ J = G3) I3 ⟨1, rfl, -1, rfl, rfl, rfl⟩) fun vs r4 ⟨o, G4, I4, ps, eo, e4⟩ => ?_
  subst eo e4
  obtain ⟨l1, rfl, el⟩ := IsPart.raw pl
  obtain ⟨l2, rfl, eu⟩ := IsPart.raw pu
  obtain ⟨l3, rfl, es⟩ := IsPart.raw ps
  cases l1 with
  | some a => cases el
  | none =>
    cases l2 with
    | some a => cases eu
    | none =>
      cases l3 with
      | none => cases es
      | some a =>
        obtain ⟨i, tt⟩ := a
        cases es
        have I5 : Inv X pn ρ G4 { r4 with heap := r4.heap.push { cls := .type "slice", data := .fields #[partValue none, partValue none, partValue (some (-1, tt))] } } := I4.kept (t' := r4.toks) fun b ob q => Heap.get?_push_of_some _ q
        refine PyProof.Rows.tail_any (ops := [.str z tk, .ref r4.heap.objs.size]) (typeIs_str _ _ _) (PySem.F.slot_str_getitem.lookup) ?_ (by with_unfolding_all rfl)
        refine wpAny_getItem_str_slice (l := none) (u := none) (st := some (-1, tt)) ⟨_, Heap.get?_push_size _ rfl, rfl, rfl⟩ rfl ?_
        rw [made_rev z tk tt]
        exact ⟨by rw [revStr_len]; exact hz, .str _, _, I5.tok _, ⟨_, rfl⟩, q⟩
def dRevS (de : DE) : DE := fun ρ M Q Xd => de ρ M (fun x M1 => onS x fun z => z.length ≤ sizeLine ∧ Q (.str (revStr z)) M1) Xd
theorem dd_revS {k : Nat} {p1 p2 p3 : Pos} (he : PE X e (uE X.K W de)) : PE X (.Subscript e (.Slice none none (some (.UnaryOp .USub (.Constant (.int 1) k p1) p2)) p3) pos) (uE X.K W (dRevS de)) :=
  pe_imp (pe_revS he) fun σ H Q ⟨ρ, M, Qd, Xd, en, hr, h, q, x⟩ => by
    refine ⟨ρ, M, _, Xd, en, hr, h, fun v H1 d M1 s1 r1 hr1 h1 => ?_, x⟩
    obtain ⟨z, ez, h2⟩ := onS_of r1 h1
    exact ⟨z, ez, h2.1, q _ H1 _ M1 s1 R.strI hr1 h2.2⟩
end
end DL

set_option Elab.async false
set_option linter.all false
set_option maxRecDepth 100000
set_option maxHeartbeats 4000000
/-! text in text. -/
namespace DL
open PySem PySem.Spec L2
/-- the text within the other -/
def hasS (y x : Str) : Bool := !(Builtin.Str.occurrences y x 0 y.length 1).isEmpty
def rInT : R2 := fun x y H Q => ∃ i j, x = .str i ∧ y = .str j ∧ Q (.bl (hasS j i)) H
def rNotInT : R2 := fun x y H Q => ∃ i j, x = .str i ∧ y = .str j ∧ Q (.bl (!hasS j i)) H
section
variable {X : Cx} {K : PySem.W.Frag}
theorem op_inT : OpR X (compareOp .In) rInT := op_in_str
theorem op_notInT : OpR X (compareOp .NotIn) rNotInT := op_notin_str
def hasF (f : Bool → Bool) : F2 := fun x y M Q => match x, y with
  | .str x, .str y => Q (.bl (f (hasS y x))) M
  | _, _ => False
theorem ov_inT : OpV K rInT (hasF id) := by
  intro H M v w x y Q Qd hr rx ry h1 q
  unfold hasF at h1
  split at h1
  · exact ⟨_, _, rx.str_v, ry.str_v, q _ H _ M .refl R.blI hr h1⟩
  · exact h1.elim
theorem ov_notInT : OpV K rNotInT (hasF not) := by
  intro H M v w x y Q Qd hr rx ry h1 q
  unfold hasF at h1
  split at h1
  · exact ⟨_, _, rx.str_v, ry.str_v, q _ H _ M .refl R.blI hr h1⟩
  · exact h1.elim
end
theorem hasS_mid {a b c : List Nat} : hasS ⟨(a ++ b ++ c).toArray⟩ ⟨b.toArray⟩ = true := by
  refine (StrLaws.found_iff _ _).mpr ⟨a.length, ?_, ?_⟩
  · show a.length + b.toArray.size ≤ (a ++ b ++ c).toArray.size
    simp
  · unfold Builtin.Str.subAt
    simp
    show List.take b.toArray.size (b ++ c) = b
    simp
end DL

set_option Elab.async false
set_option linter.all false
set_option maxRecDepth 100000
set_option maxHeartbeats 4000000
/-! a dict by display with tuples of texts as keys; .get with a tuple. -/
namespace DL
open PySem PySem.Spec L2
open PySem.Sem (wp)
section
variable {prog : Program} {w : World} {K : Type} [DecidableEq K] {knd : HeapKind prog w K} {A : Around} {E : Value → Shared → Prop} {s : Shared} {env : Env}
theorem Dict_walkH {keys : List (Option Expr)} {values : List Expr} {pos : Pos} {Q : Value → Shared → Prop} (hu : knd.room A)
    (hall : keys.all (·.isSome) = true) (hl : keys.length = values.length) (h0 : keys ≠ []) (hlen : keys.length ≤ 15)
    (h : wpAny (model prog w) A (evalPairs (pairTrees keys values env pos)) (fun vs s₁ => ∃ ps, CarriesH knd s₁.heap vs ps ∧ s₁.heap.DictOfH knd s.heap.objs.size [] ∧
      ∀ h' tk, h'.DictOfH knd s.heap.objs.size (storedAllH [] ps) → Heap.SameBut s.heap.objs.size s₁.heap h' → Q (.ref s.heap.objs.size) { s₁ with heap := h', toks := tk }) E
      { s with heap := s.heap.push { cls := .type "dict", data := .dict #[] } }) :
    wpAny (model prog w) A (eval (.Dict keys values pos) env) Q E s := by
  have hn := pairTrees_length keys values env pos hall hl
  have h0' : pairTrees keys values env pos ≠ [] := by
    intro he
    rw [he] at hn
    exact h0 (List.length_eq_zero_iff.mp hn.symm)
  rw [arm_eval_Dict, zip_pairTrees keys values env pos hall hl, dictDisplay_pairs _ h0' (by omega)]
  exact wpAny_bind (wpAny_standAt (wpAny_bind (wpAny_subDictH (knd := knd) (Q := fun d s' => wpAny (model prog w) A (pure (Value.ref d)) Q E s') hu (by omega)
    (wpAny_mono h (fun vs s₁ h₁ => by obtain ⟨ps, hc, hm, hq⟩ := h₁; exact ⟨ps, hc, hm, fun h' tk a b => wpAny_pure (hq h' tk a b)⟩) fun _ _ e => e))))
end
theorem storedAll_nodup {K : Type} [DecidableEq K] : ∀ (ps acc : List (K × Addr × Value)), (ps.map (·.1)).Nodup → (∀ p ∈ ps, ∀ b ∈ acc, b.1 ≠ p.1) → storedAllH acc ps = acc ++ ps
  | [], acc, _, _ => (List.append_nil acc).symm
  | (k, a, v) :: ps, acc, hn, hd => by
    have e : storedH acc k a v = acc ++ [(k, a, v)] := by
      refine storedH_new ?_ a v
      unfold atKey
      rw [Option.map_eq_none_iff, List.find?_eq_none]
      intro b hb z
      exact hd _ List.mem_cons_self b hb (of_decide_eq_true z)
    show storedAllH (storedH acc k a v) ps = _
    rw [List.map_cons, List.nodup_cons] at hn
    rw [e, storedAll_nodup ps _ hn.2, List.append_assoc]
    · rfl
    · intro g2 h2 b hb
      rcases List.mem_append.mp hb with hb | hb
      · exact hd g2 (List.mem_cons_of_mem _ h2) b hb
      · rw [List.mem_singleton.mp hb]
        intro z
        exact hn.1 (z ▸ List.mem_map_of_mem h2)
abbrev Lk : Type := List (List Key × Addr × V)
def tDispT (trs : List (TE × TE)) : TE := fun σ H Q => ∀ p, H p = none → tPairs trs σ (upd H p (.dT [])) fun ps H2 => H2 p = some (.dT []) ∧ ∃ L : Lk, ps = L.map (fun q => (V.ref q.2.1, q.2.2)) ∧ (∀ q ∈ L, H2 q.2.1 = some (.tup (q.1.map kV))) ∧ L.length ≤ 15 ∧ (L.map (·.1)).Nodup ∧ Q (.ref p) (upd H2 p (.dT (L.map fun q => (q.1, q.2.2))))
theorem carriesH_of {P : Program} {w : World} {H : Hp} {h : Heap} (ok : HOk P w H h) : ∀ {L : Lk} {ws : List (Value × Value)}, VV (L.map fun q => (V.ref q.2.1, q.2.2)) ws → (∀ q ∈ L, H q.2.1 = some (.tup (q.1.map kV))) →
    ∃ ps, CarriesH (tupleKind (mixKind P w)) h ws ps ∧ Paired (fun (p : List Key × Addr × V) (q : List Key × Addr × Value) => p.1 = q.1 ∧ p.2.1 = q.2.1 ∧ RelV p.2.2 q.2.2) L ps
  | [], _, r, _ => by rw [List.map_nil] at r; cases r; exact ⟨[], True.intro, .nil⟩
  | q :: L, _, r, hk => by
    rw [List.map_cons] at r
    cases r with
    | @cons a b as bs h1 t =>
      obtain ⟨ps, c, pr⟩ := carriesH_of ok t fun q hq => hk q (List.mem_cons_of_mem _ hq)
      obtain ⟨b1, b2⟩ := b
      obtain ⟨r1, r2⟩ := h1
      have e1 : b1 = Value.ref q.2.1 := r1
      exact ⟨(q.1, q.2.1, b2) :: ps, ⟨e1, rfl, key_of ok (hk q List.mem_cons_self), c⟩, .cons ⟨rfl, rfl, r2⟩ pr⟩
abbrev PrL : Lk → List (List Key × Addr × Value) → Prop := Paired (fun (p : List Key × Addr × V) (q : List Key × Addr × Value) => p.1 = q.1 ∧ p.2.1 = q.2.1 ∧ RelV p.2.2 q.2.2)
theorem prL_keys : ∀ {L : Lk} {rs : List (List Key × Addr × Value)}, PrL L rs → rs.map (·.1) = L.map (·.1)
  | _, _, .nil => rfl
  | _, _, .cons h t => by rw [List.map_cons, List.map_cons, prL_keys t, h.1]
theorem prL_kt {H : Hp} : ∀ {L : Lk} {rs : List (List Key × Addr × Value)}, PrL L rs → (∀ q ∈ L, H q.2.1 = some (.tup (q.1.map kV))) →
      Paired (fun (p : List Key × V) (q : List Key × Addr × Value) => p.1 = q.1 ∧ H q.2.1 = some (.tup (p.1.map kV)) ∧ RelV p.2 q.2.2) (L.map fun q => (q.1, q.2.2)) rs
  | _, _, .nil, _ => .nil
  | _, _, .cons h t, hk => .cons ⟨h.1, by rw [← h.2.1]; exact hk _ List.mem_cons_self, h.2.2⟩ (prL_kt t fun q hq => hk q (List.mem_cons_of_mem _ hq))
theorem pe_dispT {X : Cx} {pos : Pos} {keys : List (Option Expr)} {values : List Expr} {trs : List (TE × TE)} (hu : X.A.units + 1 < cLine) (h : PPs X pos keys values trs) (hall : keys.all (·.isSome) = true) (hl : keys.length = values.length) (h0 : keys ≠ [])
    (h15 : keys.length ≤ 15) : PE X (.Dict keys values pos) (tDispT trs) := by
  refine ⟨fun pins s σ H Q I q => ?_⟩
  have hn := I.hok.fresh (Nat.le_refl s.heap.objs.size)
  have I1 := I.laid (a := s.heap.objs.size) (o := .dT []) (h' := s.heap.push { cls := .type "dict", data := .dict #[] }) (t' := s.toks) (fun _ _ q => Heap.get?_push_of_some _ q) (Nat.le_refl _) (dt_empty s.heap I.big)
  refine Dict_walkH (knd := tupleKind (mixKind X.prog X.w)) (show X.A.units < cLine from Nat.lt_of_succ_lt hu) hall hl h0 h15 (thn (h.run pins _ σ _ _ I1 (q _ hn)) fun ws s2 ⟨ps, H2, I2, rel, e, L, ep, hk, lk, nd, q2⟩ => ?_)
  subst ep
  obtain ⟨rs, c, rk⟩ := carriesH_of (P := X.prog) (w := X.w) I2.hok rel hk
  obtain ⟨z, hd, vs0, r0, dd⟩ := dt_of I2.hok e
  cases r0
  have nd2 : (rs.map (·.1)).Nodup := by
    rw [prL_keys rk]
    exact nd
  refine ⟨rs, c, dd, fun h' tk dd' hs => ⟨.ref s.heap.objs.size, _, ?_, rfl, q2⟩⟩
  rw [storedAll_nodup rs [] nd2 (fun _ _ b hb => absurd hb List.not_mem_nil), List.nil_append] at dd'
  obtain ⟨o, es, ep, hq, h2, h3, h4, _, h5⟩ := dd'
  refine d_write I2 (by rw [e]; exact True.intro) hs ⟨o, hq⟩ ⟨by rw [List.length_map, sizeLine_eq]; omega, hd, rs, ?_, o, es, ep, hq, h2, h3, h4, h5⟩
  refine prL_kt rk fun q hq => ?_
  rw [upd_ne (ne_of (hk q hq) e (fun z => nomatch z))]
  exact hk q hq
theorem RA.strs {K : PySem.W.Frag} {H : Hp} {M : DM} : ∀ zs : List Str, RA K H M (zs.map V.str) (zs.map D.str)
  | [] => RA.nil
  | z :: zs => RA.cons R.strI (RA.strs zs)
/-! ### the pairs of constants -/
def taC (zs : List Str) : TA := zs.foldr (fun z t => tCons (tC (.str z)) t) tNil
theorem taC_run (σ : L2.St) (H : Hp) : ∀ (zs : List Str) (Q : List V → Hp → Prop), Q (zs.map V.str) H → taC zs σ H Q
  | [], Q, q => q
  | z :: zs, Q, q => taC_run σ H zs (fun xs H2 => Q (.str z :: xs) H2) q
def trC (kvs : List (List Str × Str)) : List (TE × TE) := kvs.map fun q => (tTup (taC q.1), tC (.str q.2))
theorem kV_strs (zs : List Str) : (zs.map (Sum.inr : Str → Key)).map kV = zs.map V.str := by
  rw [List.map_map]
  rfl
theorem pairs_c {K : PySem.W.Frag} {σ : L2.St} {M : DM} : ∀ (kvs : List (List Str × Str)) (H : Hp) (Q : List (V × V) → Hp → Prop), HR K H M → (∀ q ∈ kvs, q.1.length ≤ sizeLine) →
    (∀ (H2 : Hp) (L : Lk), Stp K H M H2 M → HR K H2 M → (∀ b o, H b = some o → H2 b = some o) → L.map (fun q => (q.1, q.2.2)) = kvs.map (fun q => (q.1.map Sum.inr, V.str q.2)) → (∀ q ∈ L, H2 q.2.1 = some (.tup (q.1.map kV))) → Q (L.map fun q => (V.ref q.2.1, q.2.2)) H2) →
    tPairs (trC kvs) σ H Q
  | [], H, Q, hr, _, q => q H [] .refl hr (fun _ _ z => z) rfl fun _ h => absurd h List.not_mem_nil
  | (zs, v) :: kvs, H, Q, hr, hl, q => by
    show tTup (taC zs) σ H _
    refine taC_run σ H zs _ ⟨by rw [List.length_map]; exact hl _ List.mem_cons_self, fun p hp => ?_⟩
    obtain ⟨s1, r1, hr1⟩ := newTup (xs := zs.map V.str) (ds := zs.map D.str) hr hp (RA.strs zs)
    refine pairs_c kvs _ _ hr1 (fun q hq => hl q (List.mem_cons_of_mem _ hq)) fun H2 L s2 hr2 kp e hk => ?_
    refine q H2 ((zs.map Sum.inr, p, .str v) :: L) (s1.trans s2) hr2 (fun b o z => kp b o (by rw [upd_ne (ne_of_none z hp)]; exact z)) (by rw [List.map_cons, List.map_cons, e]) fun x hx => ?_
    rcases List.mem_cons.mp hx with rfl | hx
    · rw [kp p _ upd_same, kV_strs]
    · exact hk x hx
section
variable {X : Cx} {W : WX} {e i : Expr} {de di : DE} {pos p apos cpos : Pos} {x : Str}
def dDispT (kvs : List (List Str × Str)) : DE := fun _ M Q _ => Q (.dtt kvs) M
theorem dd_dispT {keys : List (Option Expr)} {values : List Expr} {kvs : List (List Str × Str)} (hu : X.A.units + 1 < cLine) (h : PPs X pos keys values (trC kvs)) (hall : keys.all (·.isSome) = true) (hl : keys.length = values.length) (h0 : keys ≠ []) (h15 : keys.length ≤ 15)
    (nd : (kvs.map (·.1)).Nodup) (hs : ∀ q ∈ kvs, q.1.length ≤ sizeLine) (h15' : kvs.length ≤ 15) : PE X (.Dict keys values pos) (uE X.K W (dDispT kvs)) :=
  pe_imp (pe_dispT hu h hall hl h0 h15) fun σ H Q ⟨ρ, M, Qd, Xd, en, hr, h, q, x⟩ => by
    intro p hp
    obtain ⟨s0, hr1⟩ := Stp.new (o := .dT []) hp hr
    have hMp := hr.none hp
    refine pairs_c kvs _ _ hr1 hs fun H2 L s2 hr2 kp e hk => ?_
    have e2 := kp p _ upd_same
    have el : L.length = kvs.length := by
      have := congrArg List.length e
      rwa [List.length_map, List.length_map] at this
    have ek : L.map (·.1) = kvs.map fun q => q.1.map Sum.inr := by
      have := congrArg (List.map (·.1)) e
      rw [List.map_map, List.map_map] at this
      exact this
    refine ⟨e2, L, rfl, hk, by omega, ?_, ?_⟩
    · rw [ek]
      have : (kvs.map fun q => q.1.map (Sum.inr : Str → Key)) = (kvs.map (·.1)).map (List.map Sum.inr) := by
        rw [List.map_map]
        rfl
      rw [this]
      exact List.Pairwise.map _ (fun a b hab z => hab (map_inr_inj.mp z)) nd
    have s02 := s0.trans s2
    rw [e]
    have tt : ∀ a ys, SqT X.K H2 a ys → SqT X.K (upd H2 p (.dT (kvs.map fun q => (q.1.map Sum.inr, V.str q.2)))) a ys := sqT_upd fun ys z => by
      rcases z with z | ⟨o, z⟩ <;> (rw [e2] at z; cases z)
    generalize hdd : (HO.dT (kvs.map fun q => (q.1.map Sum.inr, V.str q.2))) = o at tt
    have s3 : Stp X.K H M (upd H2 p o) M := ⟨fun a ys z => tt a ys (s02.t a ys z), fun a u z0 z z2 => by
      have z3 := s02.g a u z0 z z2
      exact ⟨by rw [upd_ne (ne_of_none z hp)]; exact z3.1, z3.2⟩, fun a fs z => by
      rw [upd_ne (ne_of_none z hp)]
      exact s02.x a fs z, fun a u v z => by
      rw [upd_ne (ne_of_none z hp)]
      exact s02.f a u v z⟩
    have hr3 : HR X.K (upd H2 p o) M := fun a u z => (hr2 a u z).flat tt (upd_ne fun z2 => by
      rw [z2, hMp] at z
      cases z)
    refine q (.ref p) (upd H2 p o) _ M s3 ?_ hr3 h
    unfold R
    exact ⟨p, rfl, by rw [← hdd]; exact upd_same, hMp⟩
/-! ### .get -/
def tGetS (K : PySem.W.Frag) (td ty : TE) : TE := fun σ H Q => td σ H fun x H1 => ∃ a, x = .ref a ∧ IsD H1 a ∧ ty σ H1 fun y H2 => ∃ (b : Addr) (ks : List Str) (kvs : List (List Key × V)), y = .ref b ∧ SqT K H2 b (ks.map V.str) ∧ Rd H2 a (.dT kvs) ∧ Q ((valV kvs (ks.map Sum.inr)).getD .non) H2
theorem pe_getS {td ty : TE} (hu : X.A.units + 1 < cLine) (ho : PE X e td) (he : PE X i ty) (m : M1 X e "get" apos i cpos) : PE X (.Call (.Attribute e "get" apos) [i] [] cpos) (tGetS X.K td ty) := by
  refine ⟨fun pins s σ H Q I h => ?_⟩
  refine wpAny_Call_method m.base m.few m.line PySem.F.plainAttrs_dict PySem.F.slot_dict_get PySem.F.type_dict_get (thn (ho.run pins s σ H _ I h) fun u s1 ⟨x, H1, I1, rx, a, ex, d, q1⟩ => ?_)
  subst ex
  obtain rfl : u = Value.ref a := rx
  obtain ⟨t1, t2, _⟩ := isD_at I1 d
  refine ⟨t1, t2, ?_⟩
  rw [m.trees]
  refine Calls.callWith_builtin rfl (Calls.evalArgs_plain (Calls.spliced_cons (thn (he.run pins s1 σ H1 _ I1 q1) fun iv s2 ⟨y, H2, I2, ry, b, ks, kvs, ey, sq, hd, q2⟩ => Calls.spliced_nil ?_)))
  subst ey
  obtain rfl : iv = Value.ref b := ry
  obtain ⟨z, hsy, xs, rel, dd⟩ := dt_rd I2.hok hd
  refine call_meetsIn PySem.F.slot_dict_get dd.typeIs PySem.F.entry_dict_get (PySem.F.args_dict_get_2 _ _) (meetsH_dict_get (tupleKind (mixKind X.prog X.w)) a b hsy) ⟨tupleKind_room_in1 hu, ks.map Sum.inr, xs, key_sqt I2 sq, dd, ?_⟩
  exact ⟨(valV kvs (ks.map Sum.inr)).getD .non, H2, I2.tok _, (rel.val _).getD (show RelV .non .none from rfl), q2⟩
def tGetG (K : PySem.W.Frag) (kvs : List (List Str × Str)) (ty : TE) : TE := fun σ H Q => ty σ H fun y H2 => ∃ (b : Addr) (ks : List Str), y = .ref b ∧ SqT K H2 b (ks.map V.str) ∧ Q (match ttGet kvs ks with | some z => .str z | none => .non) H2
theorem pe_getG {ty : TE} {d : Addr} {kvs : List (List Str × Str)} (hu : X.A.units + 1 < cLine) (T : KTT X.K X.w d kvs) (nd : (kvs.map (·.1)).Nodup) (ho : PE X e (tC (.ref d))) (he : PE X i ty) (m : M1 X e "get" apos i cpos) : PE X (.Call (.Attribute e "get" apos) [i] [] cpos) (tGetG X.K kvs ty) := by
  refine ⟨fun pins s σ H Q I h => ?_⟩
  refine wpAny_Call_method m.base m.few m.line PySem.F.plainAttrs_dict PySem.F.slot_dict_get PySem.F.type_dict_get (thn (ho.run pins s σ H (fun x H1 => x = .ref d ∧ H1 = H) I ⟨rfl, rfl⟩) fun u s1 ⟨x, H1, I1, rx, ex, eH⟩ => ?_)
  subst ex eH
  obtain rfl : u = Value.ref d := rx
  obtain ⟨xs0, dd0, _⟩ := ktt_dict (P := X.prog) I1.kIn T nd
  obtain ⟨o0, es0, ep0, g1, g2, _⟩ := id dd0
  refine ⟨dd0.typeIs, fun b z => ?_, ?_⟩
  · cases z
    exact ⟨o0, g1, g2.2.1⟩
  rw [m.trees]
  refine Calls.callWith_builtin rfl (Calls.evalArgs_plain (Calls.spliced_cons (thn (he.run pins s1 σ H1 _ I1 h) fun iv s2 ⟨y, H2, I2, ry, b, ks, ey, sq, q2⟩ => Calls.spliced_nil ?_)))
  subst ey
  obtain rfl : iv = Value.ref b := ry
  obtain ⟨xs, dd, e3⟩ := ktt_dict (P := X.prog) I2.kIn T nd
  refine call_meetsIn PySem.F.slot_dict_get dd.typeIs PySem.F.entry_dict_get (PySem.F.args_dict_get_2 _ _) (meetsH_dict_get (tupleKind (mixKind X.prog X.w)) d b T.low) ⟨tupleKind_room_in1 hu, ks.map Sum.inr, xs, key_sqt I2 sq, dd, ?_⟩
  rcases tt_find ks e3 with ⟨n1, n2⟩ | ⟨p, z, t, h1, h2⟩
  · rw [n1] at q2
    rw [n2]
    exact ⟨.non, H2, I2.tok _, rfl, q2⟩
  · rw [h1] at q2
    rw [h2]
    exact ⟨.str z, H2, I2.tok _, ⟨t, rfl⟩, q2⟩
def getD (kvs : List (List Str × Str)) (ks : List Str) : D := match ttGet kvs ks with
  | some z => .str z
  | none => .non
def dGetTT (kvs : List (List Str × Str)) (di : DE) : DE := fun ρ M Q Xd => di ρ M (fun y M1 => onO (tupS y) fun ks => Q (getD kvs ks) M1) Xd
theorem dd_getTT {kvs : List (List Str × Str)} (hu : X.A.units + 1 < cLine) (hg : Gl X x) (T : KTTab X.K X.w X.mg x kvs) (hi : PE X i (uE X.K W di)) (m : M1 X (.Name x p) "get" apos i cpos) (hd : (x == ("__debug__" : Str)) = false := by decide) :
    PE X (.Call (.Attribute (.Name x p) "get" apos) [i] [] cpos) (uE X.K W (dGetTT kvs di)) := by
  obtain ⟨a, hm, T, nd⟩ := T
  refine pe_imp (pe_getG hu T nd (pe_glob (v := .ref a) hg hm rfl hd) hi m) fun σ H Q ⟨ρ, M, Qd, Xd, en, hr, h, q, x⟩ => ?_
  refine ⟨ρ, M, _, Xd, en, hr, h, fun v H1 y M1 s1 r1 hr1 h1 => ?_, x⟩
  obtain ⟨ks, e1, h2⟩ := onO_of h1
  obtain ⟨b, ev, sq⟩ := tupS_of r1 e1
  refine ⟨b, ks, ev, sq, ?_⟩
  unfold getD at h2
  cases g : ttGet kvs ks with
  | none =>
    rw [g] at h2
    exact q _ H1 _ M1 s1 R.nonI hr1 h2
  | some z =>
    rw [g] at h2
    exact q _ H1 _ M1 s1 R.strI hr1 h2
def dttV : D → Option (List (List Str × Str))
  | .dtt kvs => some kvs
  | _ => none
def dGetT (de di : DE) : DE := fun ρ M Q Xd => de ρ M (fun x M1 => onO (dttV x) fun kvs => di ρ M1 (fun y M2 => onO (tupS y) fun ks => Q (getD kvs ks) M2) Xd) Xd
theorem tt_val (ks : List Str) : ∀ kvs : List (List Str × Str), valV (kvs.map fun q => (q.1.map (Sum.inr : Str → Key), V.str q.2)) (ks.map Sum.inr) = (ttGet kvs ks).map V.str
  | [] => rfl
  | q :: kvs => by
    have ih := tt_val ks kvs
    unfold valV ttGet at *
    rw [List.map_cons, List.find?_cons, List.find?_cons]
    by_cases c : q.1 = ks
    · have c2 : (q.1.map (Sum.inr : Str → Key)) = ks.map Sum.inr := by rw [c]
      dsimp only
      rw [decide_eq_true c, decide_eq_true c2]
      rfl
    · have c2 : ¬ (q.1.map (Sum.inr : Str → Key)) = ks.map Sum.inr := fun z => c (map_inr_inj.mp z)
      dsimp only
      rw [decide_eq_false c, decide_eq_false c2]
      exact ih
theorem dtt_of {K : PySem.W.Frag} {H : Hp} {M : DM} {v : V} {d : D} {kvs : List (List Str × Str)} (r : R K H M v d) (h : dttV d = some kvs) : d = .dtt kvs ∧ ∃ a, v = .ref a ∧ H a = some (.dT (kvs.map fun q => (q.1.map Sum.inr, V.str q.2))) ∧ M a = none := by
  unfold dttV at h
  split at h
  · cases h
    unfold R at r
    exact ⟨rfl, r⟩
  · cases h
theorem dd_getT (hu : X.A.units + 1 < cLine) (he : PE X e (uE X.K W de)) (hi : PE X i (uE X.K W di)) (m : M1 X e "get" apos i cpos) : PE X (.Call (.Attribute e "get" apos) [i] [] cpos) (uE X.K W (dGetT de di)) :=
  pe_imp (pe_getS hu he hi m) fun σ H Q ⟨ρ, M, Qd, Xd, en, hr, h, q, x⟩ => by
    refine ⟨ρ, M, _, Xd, en, hr, h, fun v H1 d M1 s1 r1 hr1 h1 => ?_, x⟩
    obtain ⟨kvs, e1, h2⟩ := onO_of h1
    obtain ⟨ed, a, ev, eh, em⟩ := dtt_of r1 e1
    refine ⟨a, ev, .inr ⟨_, .inl eh⟩, ρ, M1, _, Xd, en.stp s1, hr1, h2, fun v2 H2 y M2 s2 r2 hr2 h3 => ?_, x.stp s1⟩
    obtain ⟨ks, e3, h4⟩ := onO_of h3
    obtain ⟨b, ev2, sq⟩ := tupS_of r2 e3
    refine ⟨b, ks, _, ev2, sq, .inl (s2.g a _ rfl eh em).1, ?_⟩
    rw [tt_val]
    unfold getD at h4
    cases g : ttGet kvs ks with
    | none =>
      rw [g] at h4
      exact q _ H2 _ M2 (s1.trans s2) R.nonI hr2 h4
    | some z =>
      rw [g] at h4
      exact q _ H2 _ M2 (s1.trans s2) R.strI hr2 h4
end
end DL

set_option Elab.async false
set_option linter.all false
set_option maxRecDepth 100000
set_option maxHeartbeats 2000000
/-! zip of two texts, strict. -/
namespace ZS
open PySem RZ PySem.Builtin
open PySem.Sem (wp)
abbrev IsZipS (h : Heap) (z TI TO : Addr) (f0 : Value) : Prop :=
  h.get? z = some { cls := .type "zip", dict := none, data := .fields #[f0, .bool false, .bool true, .ref TI, .ref TO], slots := #[] }
abbrev It (h : Heap) (a : Addr) (x : Str) (t : Tok) (i : Nat) : Prop := h.IsStrIter a "str_ascii_iterator" x t i
theorem It.at' {h h' : Heap} {a : Addr} {x : Str} {t : Tok} {i : Nat} (y : It h a x t i) (k : ∀ o, h.get? a = some o → h'.get? a = some o) : It h' a x t i := by
  obtain ⟨o, e, r⟩ := y
  exact ⟨o, k o e, r⟩
structure Apart (z TI TO i1 i2 : Addr) : Prop where
  TIz : TI ≠ z
  TOz : TO ≠ z
  i1z : i1 ≠ z
  i2z : i2 ≠ z
  TITO : TI ≠ TO
  TIi1 : TI ≠ i1
  TIi2 : TI ≠ i2
  TOi1 : TO ≠ i1
  TOi2 : TO ≠ i2
  i12 : i1 ≠ i2
section
variable {prog : Program} {w : World} {A : Around} {E : Value → Shared → Prop} {s : Shared}
theorem orEnd_item {it : Addr} {x : Str} {t : Tok} {i c : Nat} {Q : Option Value → Shared → Prop} (hit : It s.heap it x t i) (hx : x.cps[i]? = some c)
    (hQ : ∀ h', It h' it x t (i + 1) → Heap.SameBut it s.heap h' → Q (some (.str ⟨#[c]⟩ s.toks)) { s with heap := h', toks := s.toks + 1 }) :
    wpAny (model prog w) A (SmallTypes.nextOrEnd (.ref it)) Q E s := by
  unfold SmallTypes.nextOrEnd
  refine wpAny_bind (wpAny_attempt (wpAny_nextOf_ascii_item hit hx fun h' a b => ?_))
  exact wpAny_pure (hQ h' a b)
theorem orEnd_end {it : Addr} {x : Str} {t : Tok} {i : Nat} {Q : Option Value → Shared → Prop} (hh : A.handled = none) (hit : It s.heap it x t i) (hx : x.cps[i]? = none)
    (hQ : ∀ h', Heap.ExtBut it s.heap h' → Q none { s with heap := h' }) :
    wpAny (model prog w) A (SmallTypes.nextOrEnd (.ref it)) Q E s := by
  unfold SmallTypes.nextOrEnd
  refine wpAny_bind (wpAny_attempt (wpAny_nextOf_ascii_end hh hit hx fun h' e hb he => ?_))
  obtain ⟨o, ho, hc⟩ := he
  refine wpAny_bind (wpAny_isInstance (T := "StopIteration") (b := true) ⟨o, ho, hc⟩ isSubtype_stop ?_)
  exact wpAny_pure (hQ h' hb)
theorem next_item {z TI TO i1 i2 : Addr} {x y : Str} {t u : Tok} {k c d : Nat} {a b : Value} {Q : Value → Shared → Prop} (D : Apart z TI TO i1 i2)
    (hz : IsZipS s.heap z TI TO .none) (hTI : IsPair s.heap TI (.ref i1) (.ref i2)) (hTO : IsPair s.heap TO a b)
    (h1 : It s.heap i1 x t k) (h2 : It s.heap i2 y u k) (hx : x.cps[k]? = some c) (hy : y.cps[k]? = some d)
    (hQ : ∀ h' p q tk, IsZipS h' z TI TO (rawInt s.heap.objs.size) → IsPair h' TO (.str ⟨#[c]⟩ p) (.str ⟨#[d]⟩ q) → It h' i1 x t (k + 1) → It h' i2 y u (k + 1) → IsPair h' s.heap.objs.size (.str ⟨#[c]⟩ p) (.str ⟨#[d]⟩ q) → h'.objs.size = s.heap.objs.size + 1 →
      (∀ c o, c ≠ z → c ≠ TO → c ≠ i1 → c ≠ i2 → s.heap.get? c = some o → h'.get? c = some o) → Q (.ref s.heap.objs.size) { s with heap := h', toks := tk }) :
    wpAny (model prog w) A (Builtin.«zip.__next__» ⟨[.ref z], []⟩) (fun fin s' => ∃ v, fin = .done (.ret v) ∧ Q v s') E s := by
  show wpAny _ _ (field (.ref z) 2 >>= _) _ _ _
  refine wpAny_bind (wpAny_field hz rfl (x := .bool true) rfl ?_)
  show wpAny _ _ (field (.ref z) 3 >>= _) _ _ _
  refine wpAny_bind (wpAny_field hz rfl (x := .ref TI) rfl ?_)
  refine wpAny_bind (wpAny_seqItems hTI rfl ?_)
  show wpAny _ _ (Builtin.SmallTypes.ownedTupleIsFree (.ref z) >>= _) _ _ _
  refine wpAny_bind ?_
  unfold Builtin.SmallTypes.ownedTupleIsFree
  refine wpAny_bind (wpAny_field hz rfl (x := .none) rfl (wpAny_pure ?_))
  simp only [if_true]
  refine wpAny_bind (wpAny_rule ?_)
  refine wpAny_bind (wpAny_field hz rfl (x := .ref TO) rfl ?_)
  refine wpAny_bind (wpAny_setField_rec hz (by simp) fun h₁ hz₁ hs₁ => ?_)
  replace hz₁ : IsZipS h₁ z TI TO .ellipsis := hz₁
  refine wpAny_bind ?_
  simp only [List.zipIdx_cons, List.zipIdx_nil, List.forIn_cons, List.forIn_nil]
  refine wpAny_bind (wpAny_bind (wpAny_onRaise ?_))
  show wpAny _ _ (SmallTypes.nextOrEnd (.ref i1)) _ _ _
  refine orEnd_item (h1.extBut hs₁.extBut D.i1z) hx fun h₂ h1₂ hs₂ => ?_
  have hTO₂ : IsPair h₂ TO a b := hs₂.extBut _ _ D.TOi1 (hs₁.extBut _ _ D.TOz hTO)
  refine wpAny_bind (wpAny_seqItems hTO₂ rfl ?_)
  refine wpAny_bind (wpAny_updateSeq_pair hTO₂ fun h₃ hTO₃ hs₃ => ?_)
  replace hTO₃ : IsPair h₃ TO (.str ⟨#[c]⟩ s.toks) b := hTO₃
  refine wpAny_bind (wpAny_letGo (wpAny_pure ?_))
  refine wpAny_bind (wpAny_bind (wpAny_onRaise ?_))
  show wpAny _ _ (SmallTypes.nextOrEnd (.ref i2)) _ _ _
  refine orEnd_item (((h2.extBut hs₁.extBut D.i2z).extBut hs₂.extBut D.i12.symm).extBut hs₃.extBut D.TOi2.symm) hy fun h₄ h2₄ hs₄ => ?_
  have hTO₄ : IsPair h₄ TO (.str ⟨#[c]⟩ s.toks) b := hs₄.extBut _ _ D.TOi2 hTO₃
  refine wpAny_bind (wpAny_seqItems hTO₄ rfl ?_)
  refine wpAny_bind (wpAny_updateSeq_pair hTO₄ fun h₅ hTO₅ hs₅ => ?_)
  replace hTO₅ : IsPair h₅ TO (.str ⟨#[c]⟩ s.toks) (.str ⟨#[d]⟩ (s.toks + 1)) := hTO₅
  refine wpAny_bind (wpAny_letGo (wpAny_pure (wpAny_pure ?_)))
  refine wpAny_bind (wpAny_seqItems hTO₅ rfl ?_)
  refine wpAny_bind (wpAny_newTuple ?_)
  have hsz : h₅.objs.size = s.heap.objs.size := by rw [hs₅.1, hs₄.1, hs₃.1, hs₂.1, hs₁.1]
  have hz₅ : IsZipS h₅ z TI TO .ellipsis := hs₅.extBut _ _ D.TOz.symm (hs₄.extBut _ _ D.i2z.symm (hs₃.extBut _ _ D.TOz.symm (hs₂.extBut _ _ D.i1z.symm hz₁)))
  have hk₅ : ∀ c o, c ≠ z → c ≠ TO → c ≠ i1 → c ≠ i2 → s.heap.get? c = some o → h₅.get? c = some o := fun c o c1 c2 c3 c4 e =>
    hs₅.extBut _ _ c2 (hs₄.extBut _ _ c4 (hs₃.extBut _ _ c2 (hs₂.extBut _ _ c3 (hs₁.extBut _ _ c1 e))))
  have h1₅ : It h₅ i1 x t (k + 1) := ((h1₂.extBut hs₃.extBut D.TOi1.symm).extBut hs₄.extBut D.i12).extBut hs₅.extBut D.TOi1.symm
  have h2₅ : It h₅ i2 y u (k + 1) := h2₄.extBut hs₅.extBut D.TOi2.symm
  have hzlt : z < h₅.objs.size := Heap.lt_size hz₅
  have hTOlt : TO < h₅.objs.size := Heap.lt_size hTO₅
  have hi1lt : i1 < h₅.objs.size := by obtain ⟨_, e, _⟩ := h1₅; exact Heap.lt_size e
  have hi2lt : i2 < h₅.objs.size := by obtain ⟨_, e, _⟩ := h2₅; exact Heap.lt_size e
  show wpAny _ _ (Builtin.SmallTypes.ownedTupleHandOut (.ref z) (.ref h₅.objs.size) >>= _) _ _ _
  refine wpAny_bind ?_
  unfold Builtin.SmallTypes.ownedTupleHandOut
  have hz₆ : IsZipS (h₅.push { cls := .type "tuple", data := .seq #[.str ⟨#[c]⟩ s.toks, .str ⟨#[d]⟩ (s.toks + 1)] }) z TI TO .ellipsis := Heap.get?_push_of_some _ hz₅
  refine wpAny_bind (wpAny_setField_rec hz₆ (by simp) fun h₇ hz₇ hs₇ => ?_)
  replace hz₇ : IsZipS h₇ z TI TO (rawInt h₅.objs.size) := hz₇
  refine wpAny_setField_rec hz₇ (by simp) fun h₈ hz₈ hs₈ => ?_
  replace hz₈ : IsZipS h₈ z TI TO (rawInt h₅.objs.size) := hz₈
  have up : ∀ c o, c ≠ z → h₅.get? c = some o → h₈.get? c = some o := fun c o c1 e => hs₈.extBut _ _ c1 (hs₇.extBut _ _ c1 (Heap.get?_push_of_some _ e))
  have hT₈ : IsPair h₈ h₅.objs.size (.str ⟨#[c]⟩ s.toks) (.str ⟨#[d]⟩ (s.toks + 1)) := hs₈.extBut _ _ (Nat.ne_of_gt hzlt) (hs₇.extBut _ _ (Nat.ne_of_gt hzlt) (Heap.get?_push_size _ rfl))
  have hz8 : h₈.objs.size = h₅.objs.size + 1 := by rw [hs₈.1, hs₇.1, Heap.size_push]
  rw [hsz] at hz₈ hT₈ hz8
  refine wpAny_pure ⟨_, rfl, ?_⟩
  show Q (.ref h₅.objs.size) _
  rw [hsz]
  exact hQ h₈ _ _ _ hz₈ (up _ _ D.TOz hTO₅) (h1₅.at' fun o e => up _ o D.i1z e) (h2₅.at' fun o e => up _ o D.i2z e) hT₈ hz8 fun c o c1 c2 c3 c4 e => up c o c1 (hk₅ c o c1 c2 c3 c4 e)
theorem stop {Q : Fin → Shared → Prop} (hh : A.handled = none) (hE : ∀ h' e, (∀ c o, s.heap.get? c = some o → h'.get? c = some o) → (∃ o, h'.get? e = some o ∧ o.cls = .type "StopIteration") → E (.ref e) { s with heap := h' }) :
    wpAny (model prog w) A (SmallTypes.stopIteration : Sem Fin) Q E s := by
  show wpAny _ _ (newExc (.type "StopIteration") [] >>= _) _ _ _
  refine wpAny_bind ?_
  simp only [newExc, newTuple]
  refine wpAny_bind (wpAny_newObj_type ?_ (by size_fits))
  refine wpAny_bind (m := firstArgMember _ _) (wpAny_of_eq (a := Value.none) (by first | rfl | (simp only [firstArgMember]; rfl)) ?_)
  refine wpAny_newObj_type ?_ (by size_fits)
  simp only [raiseNew]
  refine wpAny_bind (wpAny_handled ?_)
  first | rw [show A.in1.handled = none from hh] | rw [hh]
  refine wpAny_bind (wpAny_pure (wpAny_throw ?_))
  exact hE _ _ (fun c o e => Heap.get?_push_of_some _ (Heap.get?_push_of_some _ e)) ⟨_, Heap.get?_push_size _ rfl, rfl⟩
theorem next_end {z TI TO i1 i2 : Addr} {x y : Str} {t u : Tok} {k : Nat} {a b : Value} {Q : Fin → Shared → Prop} (hh : A.handled = none) (D : Apart z TI TO i1 i2)
    (hz : IsZipS s.heap z TI TO .none) (hTI : IsPair s.heap TI (.ref i1) (.ref i2)) (hTO : IsPair s.heap TO a b)
    (h1 : It s.heap i1 x t k) (h2 : It s.heap i2 y u k) (hx : x.cps[k]? = none) (hy : y.cps[k]? = none)
    (hE : ∀ h' e, (∀ c o, c ≠ z → c ≠ TO → c ≠ i1 → c ≠ i2 → s.heap.get? c = some o → h'.get? c = some o) → (∃ o, h'.get? e = some o ∧ o.cls = .type "StopIteration") → E (.ref e) { s with heap := h' }) :
    wpAny (model prog w) A (Builtin.«zip.__next__» ⟨[.ref z], []⟩) Q E s := by
  show wpAny _ _ (field (.ref z) 2 >>= _) _ _ _
  refine wpAny_bind (wpAny_field hz rfl (x := .bool true) rfl ?_)
  show wpAny _ _ (field (.ref z) 3 >>= _) _ _ _
  refine wpAny_bind (wpAny_field hz rfl (x := .ref TI) rfl ?_)
  refine wpAny_bind (wpAny_seqItems hTI rfl ?_)
  show wpAny _ _ (Builtin.SmallTypes.ownedTupleIsFree (.ref z) >>= _) _ _ _
  refine wpAny_bind ?_
  unfold Builtin.SmallTypes.ownedTupleIsFree
  refine wpAny_bind (wpAny_field hz rfl (x := .none) rfl (wpAny_pure ?_))
  simp only [if_true]
  refine wpAny_bind (wpAny_rule ?_)
  refine wpAny_bind (wpAny_field hz rfl (x := .ref TO) rfl ?_)
  refine wpAny_bind (wpAny_setField_rec hz (by simp) fun h₁ hz₁ hs₁ => ?_)
  replace hz₁ : IsZipS h₁ z TI TO .ellipsis := hz₁
  refine wpAny_bind ?_
  simp only [List.zipIdx_cons, List.zipIdx_nil, List.forIn_cons, List.forIn_nil]
  refine wpAny_bind (wpAny_bind (wpAny_onRaise ?_))
  show wpAny _ _ (SmallTypes.nextOrEnd (.ref i1)) _ _ _
  refine orEnd_end hh (h1.extBut hs₁.extBut D.i1z) hx fun h₂ hs₂ => ?_
  have hz₂ : IsZipS h₂ z TI TO .ellipsis := hs₂ _ _ D.i1z.symm hz₁
  refine wpAny_bind (wpAny_setField_rec hz₂ (by simp) fun h₃ hz₃ hs₃ => ?_)
  refine wpAny_bind ?_
  show wpAny _ _ (_ >>= _) _ _ _
  refine wpAny_bind ?_
  simp only [List.drop_succ_cons, List.drop_zero, List.zipIdx_cons, List.zipIdx_nil, List.forIn_cons, List.forIn_nil]
  have h2₃ : It h₃ i2 y u k := ((h2.extBut hs₁.extBut D.i2z).extBut hs₂ D.i12.symm).extBut hs₃.extBut D.i2z
  refine wpAny_bind (wpAny_bind (orEnd_end hh h2₃ hy fun h₄ hs₄ => ?_))
  simp only [Option.isSome_none, Bool.false_eq_true, if_false]
  refine wpAny_pure (wpAny_pure ?_)
  refine wpAny_bind (wpAny_rule (stop hh fun h₅ e hs₅ he => ?_))
  exact hE h₅ e (fun c o c1 c2 c3 c4 q => hs₅ _ _ (hs₄ _ _ c4 (hs₃.extBut _ _ c1 (hs₂ _ _ c3 (hs₁.extBut _ _ c1 q))))) he
theorem pyNext_item {z TI TO i1 i2 : Addr} {x y : Str} {t u : Tok} {k c d : Nat} {a b : Value} {Q : Option Value → Shared → Prop} (D : Apart z TI TO i1 i2)
    (hz : IsZipS s.heap z TI TO .none) (hTI : IsPair s.heap TI (.ref i1) (.ref i2)) (hTO : IsPair s.heap TO a b)
    (h1 : It s.heap i1 x t k) (h2 : It s.heap i2 y u k) (hx : x.cps[k]? = some c) (hy : y.cps[k]? = some d)
    (hQ : ∀ h' p q tk, IsZipS h' z TI TO (rawInt s.heap.objs.size) → IsPair h' TO (.str ⟨#[c]⟩ p) (.str ⟨#[d]⟩ q) → It h' i1 x t (k + 1) → It h' i2 y u (k + 1) → IsPair h' s.heap.objs.size (.str ⟨#[c]⟩ p) (.str ⟨#[d]⟩ q) → h'.objs.size = s.heap.objs.size + 1 →
      (∀ c o, c ≠ z → c ≠ TO → c ≠ i1 → c ≠ i2 → s.heap.get? c = some o → h'.get? c = some o) → Q (some (.ref s.heap.objs.size)) { s with heap := h', toks := tk }) :
    wpAny (model prog w) A (pyNext (.ref z)) Q E s := by
  have hT : s.TypeIs (.ref z) "zip" := ⟨_, hz, rfl⟩
  unfold pyNext
  exact wpAny_bind (wpAny_attempt (wpAny_callSpecial?_slot (name := Str.ofString "__next__") hT F.slot_zip_next
    (wpAny_call_entry F.slot_zip_next hT F.entry_zip_next
      (next_item D hz hTI hTO h1 h2 hx hy fun h' p q tk a1 a2 a3 a4 a5 a6 a7 => wpAny_pure (hQ h' p q tk a1 a2 a3 a4 a5 a6 a7)) (F.args_zip_next_1 _))))
theorem pyNext_end {z TI TO i1 i2 : Addr} {x y : Str} {t u : Tok} {k : Nat} {a b : Value} {Q : Option Value → Shared → Prop} (hh : A.handled = none) (D : Apart z TI TO i1 i2)
    (hz : IsZipS s.heap z TI TO .none) (hTI : IsPair s.heap TI (.ref i1) (.ref i2)) (hTO : IsPair s.heap TO a b)
    (h1 : It s.heap i1 x t k) (h2 : It s.heap i2 y u k) (hx : x.cps[k]? = none) (hy : y.cps[k]? = none)
    (hQ : ∀ h', (∀ c o, c ≠ z → c ≠ TO → c ≠ i1 → c ≠ i2 → s.heap.get? c = some o → h'.get? c = some o) → Q none { s with heap := h' }) : wpAny (model prog w) A (pyNext (.ref z)) Q E s := by
  have hT : s.TypeIs (.ref z) "zip" := ⟨_, hz, rfl⟩
  unfold pyNext
  refine wpAny_bind (wpAny_attempt (wpAny_callSpecial?_slot (name := Str.ofString "__next__") hT F.slot_zip_next
    (wpAny_call_entry F.slot_zip_next hT F.entry_zip_next (next_end hh D hz hTI hTO h1 h2 hx hy fun h' e hk he => ?_) (F.args_zip_next_1 _))))
  obtain ⟨o, ho, hc⟩ := he
  refine wpAny_bind (wpAny_isInstance (T := "StopIteration") (b := true) ⟨o, ho, hc⟩ isSubtype_stop ?_)
  exact wpAny_pure (hQ _ hk)
end
/-! ### made -/
abbrev H1 (h : Heap) (x : Str) (t : Tok) : Heap := h.push { cls := .type "str_ascii_iterator", data := .fields #[.str x t, .int 0 0] }
abbrev H2 (h : Heap) (x y : Str) (t u : Tok) : Heap := (H1 h x t).push { cls := .type "str_ascii_iterator", data := .fields #[.str y u, .int 0 0] }
abbrev H3 (h : Heap) (x y : Str) (t u : Tok) : Heap := (H2 h x y t u).push { cls := .type "tuple", data := .seq #[.ref h.objs.size, .ref (H1 h x t).objs.size] }
abbrev H4 (h : Heap) (x y : Str) (t u : Tok) : Heap := (H3 h x y t u).push { cls := .type "tuple", data := .seq #[.none, .none] }
abbrev H5 (h : Heap) (x y : Str) (t u : Tok) : Heap := (H4 h x y t u).push { cls := .type "zip", data := .fields #[.none, .bool false, .bool true, .ref (H2 h x y t u).objs.size, .ref (H3 h x y t u).objs.size] }
theorem meets_new (x y : Str) (t u : Tok) (hx : x.cps.all (· < 128) = true) (hy : y.cps.all (· < 128) = true) :
    Meets (Builtin.«zip.__new__» ⟨[.type "zip", .str x t, .str y u], [("strict", .bool true)]⟩) (fun _ R s =>
      R (.ok (.ret (.ref (H4 s.heap x y t u).objs.size))) { s with heap := H5 s.heap x y t u }) :=
  .of_wp fun prog w A R s h => by
    obtain ⟨hp, g, d, tk, os⟩ := s
    have hsub := sub_zip
    wp_walk using wpAny_pyIter_ascii hx, wpAny_pyIter_ascii hy
    exact ⟨_, rfl, h⟩
section
variable {prog : Program} {w : World} {A : Around} {E : Value → Shared → Prop} {s : Shared}
theorem callType_kw {T newId initId : String} {Bn Bi : Builtin} {args : List Value} {kw : List (Str × Value)} {S : Spec} {Q Q₁ : Value → Shared → Prop} (ft : TypeCalled T newId initId)
    (hct : checkTypeCall T ⟨args, kw⟩ = pure ()) (hcn : checkBuiltinCall newId ⟨.type T :: args, kw⟩ = pure ())
    (entryN : entryFor table newId = some Bn) (entryI : entryFor table initId = some Bi) (g : Meets (Bn ⟨.type T :: args, kw⟩) S)
    (h : S A.in1 (wants Q₁ E) s)
    (hnext : ∀ obj s₁, Q₁ obj s₁ → s₁.TypeIs obj T ∧ argsOk initId ⟨obj :: args, kw⟩ ∧ ∃ Si, Meets (Bi ⟨obj :: args, kw⟩) Si ∧ Si A.in1 (wants (fun r s₂ => r = .none ∧ Q obj s₂) E) s₁) :
    wpAny (model prog w) A (call (.type T) args kw) Q E s := by
  obtain ⟨c, tl, hmro⟩ := ft.mro
  have hmade := ft.made
  have hsub := ft.sub
  refine wpAny_call (codeAny_of_tree ?_)
  show wpAny _ _ (callAny (.type T) _) _ _ _
  refine wpAny_pure ⟨Code.quiet_builtin _ (by decide +kernel), codeAny_builtin F.entry_type_call ?_⟩
  rw [Around.under_plain (weight_type_call_type T args kw) (units_type_call_type T args kw)]
  have h1 := ft.notType
  have h2 := ft.canCreate
  repeat (any_goals (first | assumption | wp_step))
  refine codeAny_mono (codeAny_call_builtin ft.plain entryN (wpAny_of_eq hcn (g prog w A.in1 _ s h))) fun r s₁ hr => ?_
  cases r with
  | error e => exact hr
  | ok fl =>
    cases fl with
    | ret obj =>
      obtain ⟨hT, hok, Si, gi, hsi⟩ := hnext _ _ hr
      have hli := ft.init.lookup
      have hbi := ft.init.bind obj
      repeat (any_goals (first | assumption | wp_step))
      refine codeAny_mono (codeAny_call_builtin ft.init.plain entryI (ft.init.check _ _ _ _ _ _ _ _ hT hok (gi prog w A.in1 _ s₁ hsi))) fun r₂ s₂ hr₂ => ?_
      cases r₂ with
      | error e => exact hr₂
      | ok fl₂ =>
        cases fl₂ with
        | ret r =>
          obtain ⟨rfl, hq⟩ := hr₂
          repeat (any_goals (first | assumption | wp_step))
        | _ => exact hr₂.elim
    | _ => exact hr.elim
theorem init_kw {T newId : String} {self : Value} {rest : List Value} {kw : List (Str × Value)} (hr : rest ≠ []) (hl : typeLookup (.type T) "__init__" = pure (some (.builtin "object.__init__")))
    (hm : Bind.madeBy (.type T) = pure (some newId)) (hne : (some newId != some "object.__new__") = true) :
    Meets (Builtin.«object.__init__» ⟨self :: rest, kw⟩) (fun _ R s => s.TypeIs self T ∧ R (.ok (.ret .none)) s) := by
  refine Meets.of_wp fun prog w A R s hs => ?_
  obtain ⟨hT, hq⟩ := hs
  cases rest with
  | nil => exact absurd rfl hr
  | cons a rest =>
    repeat (any_goals (first | assumption | wp_step))
    exact ⟨_, rfl, hq⟩
theorem typeCall_zipS (a b : Value) : checkTypeCall "zip" ⟨[a, b], [("strict", .bool true)]⟩ = pure () := by kernel_rfl
theorem newCall_zipS (a b : Value) : checkBuiltinCall "zip.__new__" ⟨[.type "zip", a, b], [("strict", .bool true)]⟩ = pure () := by kernel_rfl
theorem args_initS (a b c : Value) : argsOk "object.__init__" ⟨[a, b, c], [("strict", .bool true)]⟩ := by
  unfold argsOk; rw [signature?_of (id := "object.__init__") (n := ['_', '_', 't', 'i', 'n', 'i', '_', '_']) (o := ['t', 'c', 'e', 'j', 'b', 'o']) (by kernel_rfl) F.owner_object]; kernel_rfl
theorem call_zipS {x y : Str} {t u : Tok} {Q : Value → Shared → Prop} (hx : x.cps.all (· < 128) = true) (hy : y.cps.all (· < 128) = true)
    (h : ∀ h', IsZipS h' (s.heap.objs.size + 4) (s.heap.objs.size + 2) (s.heap.objs.size + 3) .none → IsPair h' (s.heap.objs.size + 2) (.ref s.heap.objs.size) (.ref (s.heap.objs.size + 1)) →
      IsPair h' (s.heap.objs.size + 3) .none .none → It h' s.heap.objs.size x t 0 → It h' (s.heap.objs.size + 1) y u 0 → h'.objs.size = s.heap.objs.size + 5 →
      (∀ c o, s.heap.get? c = some o → h'.get? c = some o) → Q (.ref (s.heap.objs.size + 4)) { s with heap := h' }) :
    wpAny (model prog w) A (call (.type "zip") [.str x t, .str y u] [("strict", .bool true)]) Q E s := by
  refine callType_kw (Q₁ := fun obj s₁ => s₁.TypeIs obj "zip" ∧ Q obj s₁) F.called_zip (typeCall_zipS _ _) (newCall_zipS _ _) F.entry_zip_new F.entry_object_init
    (meets_new x y t u hx hy) ?_ fun obj _ hq => ⟨hq.1, args_initS obj _ _, _, init_kw (by simp) F.called_zip.init.lookup F.called_zip.made (by decide), hq.1, rfl, hq.2⟩
  have z1 : (H1 s.heap x t).objs.size = s.heap.objs.size + 1 := Heap.size_push ..
  have z2 : (H2 s.heap x y t u).objs.size = s.heap.objs.size + 2 := by rw [Heap.size_push, z1]
  have z3 : (H3 s.heap x y t u).objs.size = s.heap.objs.size + 3 := by rw [Heap.size_push, z2]
  have z4 : (H4 s.heap x y t u).objs.size = s.heap.objs.size + 4 := by rw [Heap.size_push, z3]
  have z5 : (H5 s.heap x y t u).objs.size = s.heap.objs.size + 5 := by rw [Heap.size_push, z4]
  have g5 : (H5 s.heap x y t u).get? (H4 s.heap x y t u).objs.size = some _ := Heap.get?_push_size _ rfl
  have g4 : (H5 s.heap x y t u).get? (H3 s.heap x y t u).objs.size = some _ := Heap.get?_push_of_some _ (Heap.get?_push_size _ rfl)
  have g3 : (H5 s.heap x y t u).get? (H2 s.heap x y t u).objs.size = some _ := Heap.get?_push_of_some _ (Heap.get?_push_of_some _ (Heap.get?_push_size _ rfl))
  have g2 : (H5 s.heap x y t u).get? (H1 s.heap x t).objs.size = some _ := Heap.get?_push_of_some _ (Heap.get?_push_of_some _ (Heap.get?_push_of_some _ (Heap.get?_push_size _ rfl)))
  have g1 : (H5 s.heap x y t u).get? s.heap.objs.size = some _ := Heap.get?_push_of_some _ (Heap.get?_push_of_some _ (Heap.get?_push_of_some _ (Heap.get?_push_of_some _ (Heap.get?_push_size _ rfl))))
  show _ ∧ _
  rw [z2, z3, z4] at g5
  rw [z1, z2] at g3
  rw [z3] at g4
  rw [z1] at g2
  rw [z4]
  exact ⟨⟨_, g5, rfl⟩, h _ g5 g3 g4 ⟨_, g1, rfl, rfl⟩ ⟨_, g2, rfl, rfl⟩ z5 fun c o x =>
    Heap.get?_push_of_some _ (Heap.get?_push_of_some _ (Heap.get?_push_of_some _ (Heap.get?_push_of_some _ (Heap.get?_push_of_some _ x))))⟩
end
end ZS

set_option Elab.async false
set_option linter.all false
set_option maxRecDepth 100000
set_option maxHeartbeats 4000000
/-! for a, b in zip(x, y, strict=True), texts. -/
namespace DL
open PySem PySem.Spec L2
open PySem.Sem (wp)
def Itzs (x y : Str) : It :=
  ⟨fun i _ => i < x.cps.size ∧ i < y.cps.size, fun i H v H' => ∃ T c d, v = .ref T ∧ H T = none ∧ H' = upd H T (.tup [.str ⟨#[c]⟩, .str ⟨#[d]⟩]) ∧ x.cps[i]? = some c ∧ y.cps[i]? = some d, fun i _ => x.cps.size ≤ i ∧ y.cps.size ≤ i⟩
section
variable {prog : Program} {w : World} {A : Around} {E : Value → Shared → Prop} {s : Shared}
theorem letOwned_zipS {elts : List Expr} {x1} {pos : Pos} {z TI TO T : Addr} {Q : Unit → Shared → Prop} (hz : ZS.IsZipS s.heap z TI TO (rawInt T))
    (hQ : ∀ h', ZS.IsZipS h' z TI TO .none → Heap.SameBut z s.heap h' → Q () { s with heap := h' }) :
    wpAny (model prog w) A (letOwnedTupleGo (.Tuple elts x1 pos) (.ref z) (.ref T)) Q E s := by
  unfold letOwnedTupleGo
  refine wpAny_bind (wpAny_load hz ?_)
  show wpAny _ _ (if (["enumerate", "zip", "dict_itemiterator", "dict_reverseitemiterator", "odict_iterator", "itertools.zip_longest", "itertools.pairwise"].contains "zip" &&
      (#[rawInt T, .bool false, .bool true, .ref TI, .ref TO] : Array Value)[0]? == some (rawInt T)) = true then _ else _) Q E s
  rw [if_pos (by simp)]
  refine wpAny_bind (wpAny_rule ?_)
  show wpAny _ _ (setField (.ref z) 0 .none) Q E s
  exact wpAny_setField_rec hz (by simp) fun h' hz' hs' => hQ h' hz' hs'
theorem pyIter_zipS {z TI TO : Addr} {f0 : Value} {Q : Value → Shared → Prop} (hz : ZS.IsZipS s.heap z TI TO f0) (h : Q (.ref z) s) : wpAny (model prog w) A (pyIter (.ref z)) Q E s := by
  have hT : s.TypeIs (.ref z) "zip" := ⟨_, hz, rfl⟩
  refine wpAny_pyIter_slot hT F.slot_zip_iter (wpAny_call_entry F.slot_zip_iter hT F.entry_zip_iter ?_ (F.args_zip_iter_1 _))
  show wpAny _ _ (ret (.ref z)) _ _ s
  exact wpAny_pure ⟨_, rfl, "zip", _, hT, F.slot_zip_next.lookup, h⟩
theorem callWith_typeKw {T : String} {pos : Pos} {first : List Value} {args : List (Bool × Sem Value)} {keywords : List (Option Str × Sem Value)} {M : Model} {Q : Value → Shared → Prop}
    (hplain : args.any (·.1) = false) (hkw : keywords.any (·.1.isNone) = false)
    (h : wpAny M A (evalArgs (.type T) true args keywords) (fun a s₁ => wpAny M A (call (.type T) (first ++ a.pos) a.kw) Q E s₁) E s) :
    wpAny M A (callWith pos (.type T) first args keywords) Q E s := by
  unfold callWith
  refine wpAny_bind (wpAny_holding (wpAny_mono h (fun a s₁ h₁ => wpAny_bind (wpAny_standAt ?_)) fun _ _ x => x))
  simp only [hplain, hkw, Bool.or_false]
  refine wpAny_bind (wpAny_pure ?_)
  exact wpAny_bind (wpAny_mono h₁ (fun r s₂ hr => wpAny_bind (wpAny_holding (wpAny_point (wpAny_pure hr)))) fun _ _ x => x)
end
theorem turn_zipS {P : Program} {w : World} {K : PySem.W.Frag} {elts : List Expr} {kk : Nat} {tpos : Pos} {x y : Str} {t u : Tok} {z TI TO i1 i2 : Addr} (D : ZS.Apart z TI TO i1 i2) :
    Turn P w K (.Tuple elts kk tpos) (Itzs x y) [z, TI, TO, i1, i2] z (fun i h => ZS.IsZipS h z TI TO .none ∧ IsPair h TI (.ref i1) (.ref i2) ∧ (∃ a b, IsPair h TO a b) ∧ ZS.It h i1 x t i ∧ ZS.It h i2 y u i) where
  mem := by simp
  obj := fun i h st c hc => by
    obtain ⟨hz, hTI, ⟨a, b, hTO⟩, ⟨o1, e1, _, d1⟩, ⟨o2, e2, _, d2⟩⟩ := st
    have e' : c = z ∨ c = TI ∨ c = TO ∨ c = i1 ∨ c = i2 := by simpa using hc
    rcases e' with q | q | q | q | q
    · rw [q]; exact ⟨_, hz, fun v q => nomatch q⟩
    · rw [q]; exact ⟨_, hTI, fun v q => nomatch q⟩
    · rw [q]; exact ⟨_, hTO, fun v q => nomatch q⟩
    · rw [q]; exact ⟨o1, e1, fun v q => by rw [d1] at q; cases q⟩
    · rw [q]; exact ⟨o2, e2, fun v q => by rw [d2] at q; cases q⟩
  keep := fun i h h' st k => by
    obtain ⟨hz, hTI, ⟨a, b, hTO⟩, h1, h2⟩ := st
    exact ⟨k z (by simp) _ hz, k TI (by simp) _ hTI, ⟨a, b, k TO (by simp) _ hTO⟩, h1.at' fun o q => k i1 (by simp) o q, h2.at' fun o q => k i2 (by simp) o q⟩
  item := by
    intro X hP hw hK hc i pins s σ H E I hf st hg
    subst hP hw hK
    obtain ⟨hz, hTI, ⟨x0, y0, hTO⟩, h1, h2⟩ := st
    obtain ⟨lx, ly⟩ := hg
    obtain ⟨c, hx⟩ : ∃ c, x.cps[i]? = some c := ⟨_, Array.getElem?_eq_getElem lx⟩
    obtain ⟨d, hy⟩ : ∃ d, y.cps[i]? = some d := ⟨_, Array.getElem?_eq_getElem ly⟩
    have hzl : z < s.heap.objs.size := Heap.lt_size hz
    refine ZS.pyNext_item D hz hTI hTO h1 h2 hx hy fun h' p q tk z' TO' h1' h2' hT hsz hk => ?_
    refine ⟨_, rfl, letOwned_zipS (s := { s with heap := h', toks := tk }) z' fun h'' z'' sb => ?_⟩
    have hT2 : h''.get? s.heap.objs.size = some { cls := .type "tuple", data := .seq #[.str ⟨#[c]⟩ p, .str ⟨#[d]⟩ q] } := (sb.2 _ (Nat.ne_of_gt hzl)).trans hT
    have new : ObjOk X.prog X.w (upd H s.heap.objs.size (.tup [.str ⟨#[c]⟩, .str ⟨#[d]⟩])) h'' s.heap.objs.size (.tup [.str ⟨#[c]⟩, .str ⟨#[d]⟩]) :=
      ⟨by show 2 ≤ sizeLine; decide, [.str ⟨#[c]⟩ p, .str ⟨#[d]⟩ q], .cons ⟨_, rfl⟩ (.cons ⟨_, rfl⟩ .nil), ⟨_, hT2, rfl, _, rfl⟩⟩
    have I1 : Inv X pins σ (upd H s.heap.objs.size (.tup [.str ⟨#[c]⟩, .str ⟨#[d]⟩])) { s with heap := h'', toks := tk } :=
      I.turnedNew (t' := tk) (ch := [z, TI, TO, i1, i2]) (fun c o hb q => (sb.2 c (fun q' => hb (by simp [q']))).trans (hk c o (fun q' => hb (by simp [q'])) (fun q' => hb (by simp [q'])) (fun q' => hb (by simp [q'])) (fun q' => hb (by simp [q'])) q)) hf (Nat.le_refl _) new
    refine ⟨.ref s.heap.objs.size, _, I1, rfl, ⟨_, c, d, rfl, I.hok.fresh (Nat.le_refl _), rfl, hx, hy⟩, ⟨z'', ?_, ⟨.str ⟨#[c]⟩ p, .str ⟨#[d]⟩ q, ?_⟩, ?_, ?_⟩, fun b hcm => ?_⟩
    · exact (sb.2 _ D.TIz).trans (hk _ _ D.TIz D.TITO D.TIi1 D.TIi2 hTI)
    · exact (sb.2 _ D.TOz).trans TO'
    · exact h1'.at' fun o q => (sb.2 _ D.i1z).trans q
    · exact h2'.at' fun o q => (sb.2 _ D.i2z).trans q
    · have hlt : b < s.heap.objs.size := by
        have e' : b = z ∨ b = TI ∨ b = TO ∨ b = i1 ∨ b = i2 := by simpa using hcm
        rcases e' with q | q | q | q | q
        · rw [q]; exact hzl
        · rw [q]; exact Heap.lt_size hTI
        · rw [q]; exact Heap.lt_size hTO
        · rw [q]; obtain ⟨_, e1, _⟩ := h1; exact Heap.lt_size e1
        · rw [q]; obtain ⟨_, e2, _⟩ := h2; exact Heap.lt_size e2
      rw [upd_ne (Nat.ne_of_lt hlt)]
      exact (hf b hcm).1
  done := by
    intro X hP hw hK hc i pins s σ H E I hf st hg
    subst hP hw hK
    obtain ⟨hz, hTI, ⟨x0, y0, hTO⟩, h1, h2⟩ := st
    obtain ⟨lx, ly⟩ := hg
    exact ZS.pyNext_end (I.ok.hd hc) D hz hTI hTO h1 h2 (Array.getElem?_eq_none lx) (Array.getElem?_eq_none ly) fun h' hk => ⟨rfl, I.turnedL (t' := s.toks) (ch := [z, TI, TO, i1, i2]) (fun c o hb q =>
      hk c o (fun q' => hb (by simp [q'])) (fun q' => hb (by simp [q'])) (fun q' => hb (by simp [q'])) (fun q' => hb (by simp [q'])) q) hf⟩
  self := fun A i s Q E st h => pyIter_zipS st.1 h
def iZipS (ta : TA) : TI := fun σ H R => ta σ H fun vs H1 => ∃ x y, vs = [.str x, .str y] ∧ x.cps.all (· < 128) = true ∧ y.cps.all (· < 128) = true ∧ R (Itzs x y) H1
theorem apartN (n : Nat) : ZS.Apart (n + 4) (n + 2) (n + 3) n (n + 1) :=
  ⟨Nat.ne_of_lt (by omega), Nat.ne_of_lt (by omega), Nat.ne_of_lt (by omega), Nat.ne_of_lt (by omega), Nat.ne_of_lt (by omega), Nat.ne_of_gt (by omega), Nat.ne_of_gt (by omega), Nat.ne_of_gt (by omega), Nat.ne_of_gt (by omega), Nat.ne_of_lt (by omega)⟩
open PyProof.Rows in
theorem pi_zipS {X : Cx} {e e2 : Expr} {ta : TA} {p pos tpos q1 q2 : Pos} {elts : List Expr} {kk j : Nat} (hg : Gl X "zip") (hm : X.mg "zip" = none) (ha : PA X [e, e2] ta)
    (he : backTo pos (starEach [e, e2] X.env) = (false, eval e X.env) :: backTo pos (starEach [e2] X.env) := by rfl)
    (hpl : (backTo pos (starEach [e, e2] X.env)).any (·.1) = false := by rfl) :
    PI X (.Tuple elts kk tpos) (.Call (.Name "zip" p) [e, e2] [⟨some "strict", .Constant (.bool true) j q2, q1⟩] pos) (iZipS ta) := by
  refine ⟨fun pins s σ H R I h => ?_⟩
  refine wpAny_Call_Name_kw (ld_blt I hg hm PyProof.Rows.boot_zip (callWith_typeKw hpl rfl ?_))
  rw [he]
  refine evalArgs_kwB rfl ?_
  rw [← he]
  refine thn (ha.run pos pins s σ H _ I h) fun us s1 ⟨vs, H1, I1, r1, x, y, ex, hx, hy, q⟩ => ?_
  have hkw : PK X [⟨some "strict", .Constant (.bool true) j q2, q1⟩] (tCons (tC (.bl true)) tNil) := pk_cons pe_bl pk_nil
  refine thn (hkw.run pos pins s1 σ H1 (fun zs H2 => zs = [.bl true] ∧ H2 = H1) I1 ⟨rfl, rfl⟩) fun ws s2 ⟨zs, H2, I2, rz, ez, eH⟩ => ?_
  subst ex ez eH
  cases rz with
  | cons ra rr =>
    cases rr
    cases ra
    cases r1 with
    | cons r r2 =>
      cases r2 with
      | cons r' r3 =>
        cases r3
        obtain ⟨t, rfl⟩ := r
        obtain ⟨u, rfl⟩ := r'
        show wpAny _ _ (call (.type "zip") [.str x t, .str y u] [("strict", .bool true)]) _ _ _
        refine ZS.call_zipS hx hy fun h' hz hTI hTO h1 h2 hsz hk => pyIter_zipS hz ?_
        have I3 : Inv X pins σ H2 { s2 with heap := h' } := I2.kept (t' := s2.toks) hk
        have D : ZS.Apart (s2.heap.objs.size + 4) (s2.heap.objs.size + 2) (s2.heap.objs.size + 3) s2.heap.objs.size (s2.heap.objs.size + 1) := by
          exact apartN _
        refine ⟨s2.heap.objs.size + 4, [s2.heap.objs.size + 4, s2.heap.objs.size + 2, s2.heap.objs.size + 3, s2.heap.objs.size, s2.heap.objs.size + 1], _, _, H2, rfl, I3, turn_zipS D, ⟨hz, hTI, ⟨_, _, hTO⟩, h1, h2⟩, fun c hcm => ?_, q⟩
        have e' : c = s2.heap.objs.size + 4 ∨ c = s2.heap.objs.size + 2 ∨ c = s2.heap.objs.size + 3 ∨ c = s2.heap.objs.size ∨ c = s2.heap.objs.size + 1 := by simpa using hcm
        have hle : s2.heap.objs.size ≤ c := by
          rcases e' with z | z | z | z | z
          · rw [z]; exact Nat.le_add_right _ _
          · rw [z]; exact Nat.le_add_right _ _
          · rw [z]; exact Nat.le_add_right _ _
          · rw [z]; exact Nat.le_refl _
          · rw [z]; exact Nat.le_add_right _ _
        exact I2.fpOk hle (I2.hok.fresh hle)
/-! ### as data -/
def zipD (x y : Str) : List D := (x.cps.toList.zip y.cps.toList).map fun q => D.tup [.str ⟨#[q.1]⟩, .str ⟨#[q.2]⟩]
theorem itZS {K : PySem.W.Frag} {H0 : Hp} {M0 : DM} {x y : Str} (hl : x.cps.size = y.cps.size) : ItOk K (Itzs x y) H0 M0 (zipD x y) fun _ => True := by
  intro i H M s hr _
  refine ⟨fun e => ?_, fun d hd => ?_⟩
  · unfold zipD at e
    rw [List.length_map, List.length_zip, Array.length_toList, Array.length_toList, hl, Nat.min_self] at e
    exact ⟨by omega, by omega⟩
  · unfold zipD at hd
    rw [List.getElem?_map] at hd
    cases q : (x.cps.toList.zip y.cps.toList)[i]? with
    | none => rw [q] at hd; cases hd
    | some c =>
      rw [q] at hd
      cases hd
      obtain ⟨q1, q2⟩ := List.getElem?_zip_eq_some.mp q
      have q3 : x.cps[i]? = some c.1 := by simpa using q1
      have q4 : y.cps[i]? = some c.2 := by simpa using q2
      refine ⟨⟨(Array.getElem?_eq_some_iff.mp q3).1, (Array.getElem?_eq_some_iff.mp q4).1⟩, fun v H' ⟨T, a, b, e1, e2, e3, e4, e5⟩ => ?_⟩
      rw [q3] at e4
      rw [q4] at e5
      cases e4
      cases e5
      subst e1 e3
      obtain ⟨z1, z2, z3⟩ := newTup (xs := [.str ⟨#[c.1]⟩, .str ⟨#[c.2]⟩]) (ds := [.str ⟨#[c.1]⟩, .str ⟨#[c.2]⟩]) hr e2 (RA.cons R.strI (RA.cons R.strI RA.nil))
      exact ⟨z1, z3, z2⟩
section
variable {X : Cx} {W : WX} {e e2 : Expr} {dag : DA} {pos p tpos q1 q2 : Pos} {elts : List Expr} {kk j : Nat}
def asc (x : Str) : Bool := x.cps.all (· < 128)
def zipP : List D → (List D → Prop) → Prop
  | [.str x, .str y], k => asc x = true ∧ asc y = true ∧ x.length = y.length ∧ k (zipD x y)
  | _, _ => False
theorem zipP_of {ds : List D} {k : List D → Prop} (h : zipP ds k) : ∃ x y, ds = [.str x, .str y] ∧ asc x = true ∧ asc y = true ∧ x.length = y.length ∧ k (zipD x y) := by
  unfold zipP at h
  split at h
  · exact ⟨_, _, rfl, h⟩
  · exact h.elim
def diZipS (dag : DA) : DI := fun ρ M Q Xd => dag ρ M (fun ds M1 => zipP ds fun es => Q es (fun _ => True) M1) Xd
theorem di_zipS (hg : Gl X "zip") (hm : X.mg "zip" = none) (ha : PA X [e, e2] (uA X.K W dag))
    (he : backTo pos (starEach [e, e2] X.env) = (false, eval e X.env) :: backTo pos (starEach [e2] X.env) := by rfl)
    (hpl : (backTo pos (starEach [e, e2] X.env)).any (·.1) = false := by rfl) :
    PI X (.Tuple elts kk tpos) (.Call (.Name "zip" p) [e, e2] [⟨some "strict", .Constant (.bool true) j q2, q1⟩] pos) (uI X.K W (diZipS dag)) :=
  pi_imp (pi_zipS hg hm ha he hpl) fun σ H Rr ⟨ρ, M, Qd, Xd, en, hr, h, q, x⟩ => ⟨ρ, M, _, Xd, en, hr, h, fun vs H1 ds M1 s1 r1 hr1 h1 => by
    obtain ⟨a, b, e0, h2, h3, h4, h5⟩ := zipP_of h1
    subst e0
    unfold RA at r1
    obtain ⟨v, r, e1, ra, rb⟩ := r1
    unfold RA at rb
    obtain ⟨v2, r2, e3, ra2, rb2⟩ := rb
    unfold RA at rb2
    subst e1 e3 rb2
    exact ⟨a, b, by rw [ra.str_v, ra2.str_v], h2, h3, q H1 M1 _ _ _ s1 hr1 (itZS h4) h5⟩, x⟩
end
end DL

set_option Elab.async false
set_option linter.all false
set_option maxRecDepth 100000
set_option maxHeartbeats 4000000
/-! The head of a program with a table of tuple keys at its top: the top's run in pieces, the table's searches told by what each comparison answers. -/
noncomputable section
namespace HT
open PySem PySem.W PySem.Calls PyProof.Rows HandSHeadRun

/-! ### runs of a piece -/
section
variable (st : SharedT → Thread → Option (SharedT × Thread)) (n0 : Nat) (ann : Option Value)
def segT (b : Nat) : Nat → SharedT → Thread → Option (Flow × SharedT × Code × Pos)
  | 0, _, _ => none
  | m + 1, s, t => match endAt b t with
    | some f => some (f, s, t.code, t.pos)
    | none => match stepOk n0 ann t with
      | false => none
      | true => match st s t with
        | some (s', t') => frS s' fun s' => segT b m s' t'
        | none => none
end
theorem segT_ok {tb : String → Option Builtin} {p : Program} {w : World} {n0 : Nat} {ann : Option Value} {b : Nat} : ∀ {m : Nat} {s s' : SharedT} {t : Thread} {f : Flow} {c : Code} {q : Pos},
    segT (stepT (denote tb) p w) n0 ann b m s t = some (f, s', c, q) → segRun tb p w n0 ann b m s.abs t = some (f, s'.abs, c, q)
  | 0, _, _, _, _, _, _, h => by cases h
  | m + 1, s, s', t, f, c, q, h => by
    unfold segT at h
    unfold segRun
    cases he : endAt b t with
    | some g =>
      rw [he] at h
      cases h
      rfl
    | none =>
      rw [he] at h
      cases hk : stepOk n0 ann t with
      | false => rw [hk] at h; cases h
      | true =>
        rw [hk] at h
        cases hs : stepT (denote tb) p w s t with
        | none => rw [hs] at h; cases h
        | some r =>
          obtain ⟨s2, t2⟩ := r
          rw [hs] at h
          have h3 : (frS s2 fun s' => segT (stepT (denote tb) p w) n0 ann b m s' t2) = some (f, s', c, q) := h
          rw [frS_eq] at h3
          have z := segT_ok h3
          rw [stepT_spec hs]
          exact z

/-- where the top stands -/
abbrev Sg := SharedT × Code × Pos
/-- the run comes from σ with x at its front to σ' with x's answer a, in m steps or fewer -/
def RT (p : Program) (w : World) (n0 : Nat) (ann : Option Value) (B : List Frame) (m : Nat) (lv : List Value → List Value) {α : Type} (σ : Sg) (x : Sem α) (a : α) (σ' : Sg) : Prop :=
  ∀ (K : α → Sem Fin) (H : Value → Sem Fin) (N : Nat) (r : Shared), topRun treeTable p w n0 ann N σ'.1.abs ⟨K a, σ'.2.1, σ'.2.2, B⟩ = some r →
    topRun treeTable p w n0 ann (m + N) σ.1.abs ⟨x.wrap K H id lv, σ.2.1, σ.2.2, B⟩ = some r
abbrev ST (p : Program) (w : World) := stepT (denote treeTable) p w
/-- the run of a piece, its answer told as a flow -/
def goR (st : SharedT → Thread → Option (SharedT × Thread)) (n0 : Nat) (ann : Option Value) (B : List Frame) {α : Type} (res : α → Flow) (lv : List Value → List Value) (x : Sem α) (σ : Sg) : Option (Flow × Sg) :=
  segT st n0 ann B.length 8000 σ.1 ⟨x.wrap (fun a => .pure (.done (res a))) deadEnd id lv, σ.2.1, σ.2.2, B⟩
section
variable {p : Program} {w : World} {n0 : Nat} {ann : Option Value} {B : List Frame} {lv : List Value → List Value} {α β : Type} {m m1 m2 : Nat}
theorem RT.go {res : α → Flow} {x : Sem α} {σ σ' : Sg} {f : Flow} {a : α} (hi : ∀ b, res b = f → b = a) (h : goR (stepT (denote treeTable) p w) n0 ann B res lv x σ = some (f, σ')) (hB : splitAtGen B = none := by rfl) : RT p w n0 ann B 8000 lv σ x a σ' := by
  obtain ⟨s, c, q⟩ := σ
  obtain ⟨s', c', q'⟩ := σ'
  have e := segT_ok h
  intro K H N r
  obtain ⟨b, hb, z⟩ := seg_top (res := res) (K' := K) (H' := H) (gd := id) (lv := lv) hB 8000 s.abs ⟨x.wrap (fun a => .pure (.done (res a))) deadEnd id lv, c, q, B⟩ ⟨x.wrap K H id lv, c, q, B⟩ f s'.abs c' q' ⟨rfl, rfl, .inl ⟨rfl, rfl, x, rfl, rfl⟩⟩ e
  obtain rfl := hi b hb
  exact z N r
theorem RT.pure {σ : Sg} (a : α) : RT p w n0 ann B 0 lv σ (Pure.pure a) a σ := fun K H N r h => by rw [Nat.zero_add]; exact h
theorem RT.mono {σ σ' : Sg} {x : Sem α} {a : α} (h : RT p w n0 ann B m lv σ x a σ') (l : m ≤ m1) : RT p w n0 ann B m1 lv σ x a σ' := fun K H N r q => by
  have z := topRun_mono (m1 - m) _ _ _ _ (h K H N r q)
  rw [show m + N + (m1 - m) = m1 + N by omega] at z
  exact z
theorem wrap_bind (x : Sem α) (f : α → Sem β) (K : β → Sem Fin) (H : Value → Sem Fin) (gd : Bool → Bool) (lv : List Value → List Value) : (x >>= f).wrap K H gd lv = x.wrap (fun a => (f a).wrap K H gd lv) H gd lv := by
  rw [Sem.bind_eq_wrap', Sem.wrap_wrap]
  rfl
theorem RT.bind {σ σ1 σ2 : Sg} {x : Sem α} {f : α → Sem β} {a : α} {b : β} (h : RT p w n0 ann B m1 lv σ x a σ1) (k : RT p w n0 ann B m2 lv σ1 (f a) b σ2) : RT p w n0 ann B (m1 + m2) lv σ (x >>= f) b σ2 := fun K H N r q => by
  rw [wrap_bind, Nat.add_assoc]
  exact h _ H _ r (k K H N r q)
theorem RT.bind2 {γ : Type} {σ σ1 σ2 : Sg} {x : Sem γ} {f : γ → Sem α} {g : α → Sem β} {a : α} {b : β} (h : RT p w n0 ann B m1 lv σ (x >>= f) a σ1) (k : RT p w n0 ann B m2 lv σ1 (g a) b σ2) : RT p w n0 ann B (m1 + m2) lv σ (x >>= fun u => f u >>= g) b σ2 := by
  rw [← bind_assoc]
  exact h.bind k
def isR : Value → Bool
  | .ref _ => true
  | _ => false
def hold (vs : List Value) (lv : List Value → List Value) : List Value → List Value := fun l => lv (vs.filter isR ++ l)
theorem RT.holding {σ σ' : Sg} {x : Sem α} {a : α} {vs : List Value} (h : RT p w n0 ann B m (hold vs lv) σ x a σ') : RT p w n0 ann B m lv σ (holding vs x) a σ' := fun K H => by
  have e : (PySem.holding vs x).wrap K H id lv = x.wrap K H id (hold vs lv) := by
    show (match vs.filter isR with | [] => x | refs => x.keep refs).wrap K H id lv = x.wrap K H id (fun l => lv (vs.filter isR ++ l))
    generalize vs.filter isR = u
    cases u with
    | nil => rfl
    | cons v r =>
      show (x.keep (v :: r)).wrap K H id lv = _
      rw [Sem.keep_eq_wrap, Sem.wrap_wrap]
      rfl
  rw [e]
  exact h K H
theorem top_step {n : Nat} {s s' r : Shared} {t t' : Thread} (ht : through t = false) (hk : stepOk n0 ann t = true) (hs : step (denote treeTable) p w s t = .go s' t') (h : topRun treeTable p w n0 ann n s' t' = some r) :
    topRun treeTable p w n0 ann (n + 1) s t = some r := by
  unfold topRun
  rw [ht, hk, hs]
  exact h
theorem RT.rule {σ : Sg} {t : String} : RT p w n0 ann B 1 lv σ (PySem.rule t) () σ := fun K H N r h => by
  rw [Nat.add_comm]
  refine top_step ?_ ?_ rfl h
  · show (_ && false) = false
    rw [Bool.and_false]
  · rfl
theorem RT.loadPart {σ : Sg} {d : Addr} {part : Option Value} {o : Obj} (g : σ.1.abs.heap.get? d = some o) : RT p w n0 ann B 1 lv σ (PySem.loadPart d part) o σ := fun K H N r h => by
  rw [Nat.add_comm]
  obtain ⟨⟨T, n, life, gens, drawn, toks, os⟩, c, q⟩ := σ
  refine top_step (s' := (SharedT.abs ⟨T, n, life, gens, drawn, toks, os⟩)) (t' := ⟨K o, c, q, B⟩) ?_ ?_ ?_ h
  · show (_ && false) = false
    rw [Bool.and_false]
  · rfl
  · show (match (absHeap T n life).get? d with | some o => Step.go _ _ | none => _) = _
    rw [show (absHeap T n life).get? d = some o from g]
    rfl
theorem RT.entries {σ : Sg} {d : Addr} {part : Option Value} {o : Obj} {es : Array DictEntry} {ep : Nat} (g : σ.1.abs.heap.get? d = some o) (e : o.data = .dict es ep) : RT p w n0 ann B 1 lv σ (dictEntries d part) es σ := by
  unfold dictEntries
  refine (RT.loadPart g).bind (m2 := 0) ?_
  rw [e]
  exact RT.pure es
theorem RT.epoch {σ : Sg} {d : Addr} {part : Option Value} {o : Obj} {es : Array DictEntry} {ep : Nat} (g : σ.1.abs.heap.get? d = some o) (e : o.data = .dict es ep) : RT p w n0 ann B 1 lv σ (dictEpoch d part) ep σ := by
  unfold dictEpoch
  refine (RT.loadPart g).bind (m2 := 0) ?_
  rw [e]
  exact RT.pure ep
theorem RT.ite {σ σ' : Sg} {c : Prop} [Decidable c] {x y : Sem α} {a : α} (h1 : c → RT p w n0 ann B m lv σ x a σ') (h2 : ¬ c → RT p w n0 ann B m lv σ y a σ') : RT p w n0 ann B m lv σ (if c then x else y) a σ' := by
  split
  · exact h1 ‹_›
  · exact h2 ‹_›
/-! ### a loop that changes nothing -/
theorem RT.forIn {σ : Sg} {γ δ : Type} (l : List γ) (f : γ → δ → Sem (ForInStep δ)) (d : δ) (h : ∀ x ∈ l, RT p w n0 ann B m lv σ (f x d) (.yield d) σ) : RT p w n0 ann B (l.length * m) lv σ (forIn l d f) d σ := by
  induction l with
  | nil =>
    rw [List.forIn_nil]
    exact (RT.pure d).mono (Nat.zero_le _)
  | cons x r ih =>
    rw [List.forIn_cons]
    refine ((h x List.mem_cons_self).bind (ih fun y hy => h y (List.mem_cons_of_mem _ hy))).mono ?_
    rw [List.length_cons, Nat.succ_mul]
    omega

/-! ### the table's search: no stored key is the new one -/
theorem RT.tells {σ : Sg} {key : Value} {stored : List Value} (hk : RT p w n0 ann B 8000 lv σ (eqIsQuiet 8 key) true σ) (hs : ∀ v ∈ stored, RT p w n0 ann B 8000 lv σ (eqIsQuiet 8 v) true σ) (hl : stored.length ≤ 16) : RT p w n0 ann B 140000 lv σ (tableMayTell key stored) false σ := by
  unfold tableMayTell
  split
  · exact (RT.pure false).mono (Nat.zero_le _)
  · refine (hk.bind (m2 := stored.length * 8000) ?_).mono (by omega)
    simp only [Bool.not_true, Bool.false_eq_true, if_false]
    refine RT.mono (m := stored.length * 8000 + 0) ((RT.forIn (m := 8000) stored _ _ fun v hv => ?_).bind (RT.pure false)) (by omega)
    refine ((hs v hv).bind (m2 := 0) ?_).mono (by omega)
    simp only [Bool.not_true, Bool.false_eq_true, if_false]
    exact RT.pure _
theorem places_len {n : Nat} {f : Nat → Option Int} {h : Int} : (placesWithHash n f h).length ≤ n := by
  unfold placesWithHash
  refine Nat.le_trans (List.length_filter_le _ _) ?_
  rw [List.length_range]
  exact Nat.le_refl _
theorem RT.find {σ : Sg} {d a : Addr} {h : Int} {o : Obj} {es : Array DictEntry} {ep : Nat} (g : σ.1.abs.heap.get? d = some o) (e : o.data = .dict es ep)
    (hsz : es.size ≤ 16) (hne : ∀ x ∈ es.toList, (x.key == Value.ref a) = false) (hq : RT p w n0 ann B 8000 (hold [.ref a] lv) σ (eqIsQuiet 8 (.ref a)) true σ)
    (hs : ∀ x ∈ es.toList, RT p w n0 ann B 8000 (hold [.ref a] lv) σ (eqIsQuiet 8 x.key) true σ ∧ RT p w n0 ann B 8000 (hold [.ref a] lv) σ (eqBool x.key (.ref a)) false σ) :
    RT p w n0 ann B 400000 lv σ (dictFind d (.ref a) h) none σ := by
  have hany : ¬ (es.any fun x => x.key == Value.ref a && x.hash != h) = true := by
    rw [← Array.any_toList, List.any_eq_true]
    rintro ⟨x, hx, c⟩
    rw [hne x hx] at c
    cases c
  have hst : ∀ v ∈ (placesWithHash es.size (fun i => es[i]?.map (·.hash)) h).filterMap (fun i => es[i]?.map (·.key)), RT p w n0 ann B 8000 (hold [.ref a] lv) σ (eqIsQuiet 8 v) true σ := by
    intro v hv
    obtain ⟨i, _, hi⟩ := List.mem_filterMap.mp hv
    cases hei : es[i]? with
    | none => rw [hei] at hi; cases hi
    | some x =>
      rw [hei] at hi
      cases hi
      exact (hs x (Array.mem_toList_iff.mpr (Array.mem_of_getElem? hei))).1
  have hl1 : (placesWithHash es.size (fun i => es[i]?.map (·.hash)) h).length ≤ 16 := Nat.le_trans places_len hsz
  have hl2 : ((placesWithHash es.size (fun i => es[i]?.map (·.hash)) h).filterMap (fun i => es[i]?.map (·.key))).length ≤ 16 := Nat.le_trans (List.length_filterMap_le _ _) hl1
  unfold dictFind
  refine RT.holding ?_
  refine ((RT.entries g e).bind (m2 := 300000) ?_).mono (by omega)
  dsimp only
  rw [if_neg (show ¬ ((Value.ref a :: (placesWithHash es.size (fun i => es[i]?.map (·.hash)) h).filterMap (fun i => es[i]?.map (·.key))).all carriedByValue) = true by simp [carriedByValue])]
  rw [if_neg hany]
  by_cases hone : (((placesWithHash es.size (fun i => es[i]?.map (·.hash)) h).filterMap (fun i => es[i]?.map (·.key))) == [Value.ref a]) = true <;>
  (first | rw [if_pos hone] | rw [if_neg hone]) <;> (first | refine ((RT.pure false).bind (m2 := 130000) ?_).mono (by omega) | refine ((RT.tells hq hst hl2).bind (m2 := 130000) ?_).mono (by omega)) <;> (
    rw [if_neg (by simp)]
    refine RT.mono (m := (placesWithHash es.size (fun i => es[i]?.map (·.hash)) h).length * 8003 + 0) ((RT.forIn (m := 8003) _ _ _ fun i _ => ?_).bind (RT.pure none)) (by omega)
    split
    · rename_i x hx
      have hx2 := (hs x (Array.mem_toList_iff.mpr (Array.mem_of_getElem? hx))).2
      refine RT.ite (fun _ => ?_) fun _ => (RT.pure _).mono (Nat.zero_le _)
      refine ((RT.epoch g e).bind (hx2.bind ((RT.epoch g e).bind (m2 := 1) ?_))).mono (by omega)
      rw [if_neg (by simp)]
      simp only [Bool.false_eq_true, if_false]
      refine (RT.rule.bind (m2 := 0) ?_).mono (by omega)
      simp only [Bool.false_and, Bool.false_eq_true, if_false]
      exact RT.pure _
    · exact (RT.pure _).mono (Nat.zero_le _))
end

end HT

set_option Elab.async false
set_option linter.all false
set_option maxRecDepth 100000
set_option maxHeartbeats 4000000
noncomputable section
namespace HT
open PySem PySem.W PySem.Calls PyProof.Rows HandSHeadRun
/-! ### a key's hash -/
/-- the hash as it is stored -/
abbrev redI (i : Int) : Int := reduceHash i
def resO : Option Value → Flow
  | some v => .ret v
  | none => .next
def resP (a : Addr) : Option (Value × List Value) → Flow
  | some (g, [.ref b]) => (match Nat.beq b a with
    | true => .ret g
    | false => .next)
  | _ => .brk
def goHash (st : SharedT → Thread → Option (SharedT × Thread)) (n0 : Nat) (ann : Option Value) (B : List Frame) (lv : List Value → List Value) (a : Addr) (σ : Sg) : Option (Int × Sg) :=
  match goR st n0 ann B (fun _ : Unit => .next) lv (cRoomFor "hash" [.ref a]) σ with
  | some (.next, σ1) => (match goR st n0 ann B resO lv (specialOf (.ref a) "__hash__") σ1 with
    | some (.ret u, σ2) => (match u == .none, goR st n0 ann B resO lv (specialOf (.ref a) "__hash__") σ2 with
      | false, some (.ret _, σ3) => (match goR st n0 ann B (resP a) (hold [.ref a] lv) (bindSpecialIfBound? (.ref a) "__hash__") σ3 with
        | some (.ret g, σ4) => (match g == .none, goR st n0 ann B Flow.ret (hold [.ref a] lv) (call g [.ref a]) σ4 with
          | false, some (.ret (.int i _), σ5) => some (redI i, σ5)
          | _, _ => none)
        | _ => none)
      | _, _ => none)
    | _ => none)
  | _ => none
section
variable {p : Program} {w : World} {n0 : Nat} {ann : Option Value} {B : List Frame} {lv : List Value → List Value}
theorem RT.red {σ : Sg} {i : Int} : RT p w n0 ann B 1 lv σ (pyHashByItsType.reduced i) (redI i) σ := by
  unfold pyHashByItsType.reduced redI reduceHash
  by_cases h : (decide (-(2 ^ 63 : Int) ≤ i) && decide (i < 2 ^ 63)) = true
  · rw [if_pos h, if_pos h]
    exact RT.mono (m := 0) (RT.pure _) (Nat.zero_le _)
  · rw [if_neg h, if_neg h]
    exact RT.mono (m := 1 + 0) (RT.rule.bind (RT.pure _)) (Nat.le_refl _)
theorem RT.bound {σ σ1 σ2 : Sg} {a : Addr} {g r : Value} {nm : PySem.Str} {refuse : Sem Value} (a4 : RT p w n0 ann B 8000 (hold [.ref a] lv) σ (bindSpecialIfBound? (.ref a) nm) (some (g, [.ref a])) σ1)
    (eg : (g == Value.none) = false) (a5 : RT p w n0 ann B 8000 (hold [.ref a] lv) σ1 (call g [.ref a]) r σ2) : RT p w n0 ann B (8000 + (8000 + 0)) lv σ (callSpecialIfBoundUnlessNone? (.ref a) nm refuse) (some r) σ2 := by
  unfold callSpecialIfBoundUnlessNone?
  refine RT.holding (a4.bind ?_)
  dsimp only
  rw [if_neg (by rw [eg]; exact Bool.false_ne_true)]
  exact a5.bind (RT.pure _)
theorem RT.hash {σ σ' : Sg} {a : Addr} {h : Int} (hB : splitAtGen B = none) (e : goHash (stepT (denote treeTable) p w) n0 ann B lv a σ = some (h, σ')) : RT p w n0 ann B 50000 lv σ (pyHash (.ref a)) h σ' := by
  unfold goHash at e
  split at e
  · rename_i σ1 e1
    split at e
    · rename_i u σ2 e2
      split at e
      · rename_i v σ3 eu e3
        split at e
        · rename_i g σ4 e4
          split at e
          · rename_i i tk σ5 eg e5
            cases e
            have io : ∀ u : Value, ∀ b : Option Value, resO b = .ret u → b = some u := fun u b hb => by
              cases b with
              | none => cases hb
              | some x =>
                injection hb with hb
                rw [hb]
            have ip : ∀ b : Option (Value × List Value), resP a b = .ret g → b = some (g, [.ref a]) := fun b hb => by
              unfold resP at hb
              split at hb
              · split at hb
                · rename_i x g2 b2 q
                  injection hb with hb
                  rw [hb, Nat.eq_of_beq_eq_true q]
                · cases hb
              · cases hb
            have a1 := RT.go (a := ()) (fun _ _ => rfl) e1 hB
            have a2 := RT.go (io u) e2 hB
            have a3 := RT.go (io v) e3 hB
            have a4 := RT.go ip e4 hB
            have a5 := RT.go (a := Value.int i tk) (fun b hb => by injection hb) e5 hB
            show RT p w n0 ann B 50000 lv σ (pyHashByItsType (.ref a)) (redI i) _
            unfold pyHashByItsType
            refine RT.mono (m := 8000 + (8000 + 34000)) (a1.bind (a2.bind ?_)) (Nat.le_refl _)
            rw [if_neg (by
              intro z
              have z2 : u = .none := Option.some.inj (beq_iff_eq.mp z)
              rw [z2] at eu
              cases eu)]
            refine RT.mono (m := 8000 + 20000) (a3.bind ?_) (by decide)
            dsimp only
            rw [if_neg (show ¬ ((some v).isNone = true) from Bool.false_ne_true)]
            exact RT.mono (m := 8000 + (8000 + 0) + 1) (RT.bind (RT.bound a4 eg a5) RT.red) (by decide)
          · cases e
        · cases e
      · cases e
    · cases e
  · cases e
end
end HT

set_option Elab.async false
set_option linter.all false
set_option maxRecDepth 100000
set_option maxHeartbeats 4000000
noncomputable section
namespace HT
open PySem PySem.W PySem.Calls PyProof.Rows HandSHeadRun
/-! ### the table's statement -/
def resV : Value → Flow := Flow.ret
def resI : Int → Flow := fun i => .ret (.int i 0)
def resA : Addr → Flow := fun a => .ret (.ref a)
def resB : Bool → Flow
  | true => .brk
  | false => .next
def resU : Unit → Flow := fun _ => .next
def resF : Flow → Flow := fun f => f
/-- the new row -/
def addRow (d : Addr) (h : Int) (k v : Value) : Sem Unit := do
  rule "dict.set.new-key-at-the-end"
  updateDictKeys d (fun rows => rows.push ⟨h, k, v⟩) (keyPart k)
/-- the name is bound -/
def lastStep (ts : List Expr) (value : Expr) (env : Env) (d : Addr) : Sem Flow := do
  let sw ← swappedStores ts value env
  assignStores env (.ref d) sw ((assignEach ts env).map (·.2))
section
variable (st : SharedT → Thread → Option (SharedT × Thread)) (n0 : Nat) (ann : Option Value) (B : List Frame)
abbrev Ob := List (Option (Flow × Sg))
def obs1 (lv : List Value → List Value) (key : Value) (es : List DictEntry) (σ : Sg) : Ob :=
  goR st n0 ann B resB lv (eqIsQuiet 8 key) σ :: es.flatMap fun e => [goR st n0 ann B resB lv (eqIsQuiet 8 e.key) σ, goR st n0 ann B resB lv (eqBool e.key key) σ]
def due1 (es : List DictEntry) (σ : Sg) : Ob := some (.brk, σ) :: es.flatMap fun _ => [some (.brk, σ), some (.next, σ)]
def store1 (lv : List Value → List Value) (d a : Addr) (v : Value) (σ : Sg) : Option (Sg × Ob × Ob) := match goHash st n0 ann B (hold [.ref a, v] lv) a σ with
  | some (h, σ1) => (match getT σ1.1 d with
    | some ⟨_, _, .dict es _, _⟩ => (match Nat.ble es.size 16 && es.toList.all fun e => !(e.key == Value.ref a) with
      | true => (match goR st n0 ann B resU (hold [.ref a, v] (hold [.ref a, v] lv)) (addRow d h (.ref a) v) σ1 with
        | some (.next, σ2) => some (σ2, obs1 st n0 ann B (hold [.ref a] (hold [.ref a, v] (hold [.ref a, v] lv))) (.ref a) es.toList σ1, due1 es.toList σ1)
        | _ => none)
      | false => none)
    | _ => none)
  | _ => none
def refOf : Value → Option Addr
  | .ref a => some a
  | _ => none
def stores (lv : List Value → List Value) (d : Addr) : List (Value × Value) → Sg → Option (Sg × Ob × Ob)
  | [], σ => some (σ, [], [])
  | x :: r, σ => match refOf x.1 with
    | some a => (match store1 st n0 ann B lv d a x.2 σ with
      | some (σ2, x1, y1) => (match stores lv d r σ2 with
        | some (σ3, x2, y2) => some (σ3, x1 ++ x2, y1 ++ y2)
        | none => none)
      | none => none)
    | none => none
def pairsT (lv : List Value → List Value) : List (Sem Value × Sem Value) → Sg → Option (List (Value × Value) × Sg)
  | [], σ => some ([], σ)
  | (k, v) :: r, σ => match goR st n0 ann B resV lv k σ with
    | some (.ret kv, σ1) => (match goR st n0 ann B resV (hold [kv] lv) v σ1 with
      | some (.ret vv, σ2) => (match pairsT (hold [kv, vv] lv) r σ2 with
        | some (l, σ3) => some ((kv, vv) :: l, σ3)
        | none => none)
      | _ => none)
    | _ => none
def tableT (lv : List Value → List Value) (env : Env) (s : Stmt) (σ : Sg) : Option (Sg × Ob × Ob) := match s with
  | .Assign ts (.Dict keys vals dpos) pos => (match keys.all (·.isSome) && (Nat.beq keys.length vals.length && (!keys.isEmpty && Nat.ble keys.length 15)) with
    | true => (match goR st n0 ann B resB lv (do standAt pos; swapsWithSole ts (.Dict keys vals dpos) pos.line env) σ with
      | some (.next, σ1) => (match goR st n0 ann B resA lv (do standAt dpos; alloc { cls := .type "dict", data := .dict #[] }) σ1 with
        | some (.ret (.ref d), σ2) => (match pairsT st n0 ann B (hold [.ref d] lv) (pairTrees keys vals env dpos) σ2 with
          | some (vs, σ3) => (match stores st n0 ann B (hold (vs.flatMap fun x => [x.1, x.2]) (hold [.ref d] lv)) d vs σ3 with
            | some (σ4, x, y) => (match goR st n0 ann B resF lv (lastStep ts (.Dict keys vals dpos) env d) σ4 with
              | some (.next, σ5) => some (σ5, x, y)
              | _ => none)
            | none => none)
          | none => none)
        | _ => none)
      | _ => none)
    | false => none)
  | _ => none
end
section
variable {p : Program} {w : World} {n0 : Nat} {ann : Option Value} {B : List Frame} {lv : List Value → List Value}
theorem resB_t {b : Bool} (h : resB b = .brk) : b = true := by cases b <;> first | rfl | cases h
theorem resB_f {b : Bool} (h : resB b = .next) : b = false := by cases b <;> first | rfl | cases h
theorem RT.add {σ σ1 σ2 : Sg} {d a : Addr} {h : Int} {v : Value} {es : Array DictEntry} {oc : Value} {od : Option Addr} {ep : Nat} {sl : Array (Option Value)} (hB : splitAtGen B = none)
    (e1 : goHash (ST p w) n0 ann B (hold [.ref a, v] lv) a σ = some (h, σ1)) (e2 : getT σ1.1 d = some ⟨oc, od, .dict es ep, sl⟩) (e3 : (Nat.ble es.size 16 && es.toList.all fun e => !(e.key == Value.ref a)) = true)
    (e4 : goR (ST p w) n0 ann B resU (hold [.ref a, v] (hold [.ref a, v] lv)) (addRow d h (.ref a) v) σ1 = some (.next, σ2))
    (eo : obs1 (ST p w) n0 ann B (hold [.ref a] (hold [.ref a, v] (hold [.ref a, v] lv))) (.ref a) es.toList σ1 = due1 es.toList σ1) :
    RT p w n0 ann B 460000 lv σ (dictSet d (.ref a) v) () σ2 := by
  obtain ⟨e0, e3⟩ := Bool.and_eq_true_iff.mp e3
  have e0 := Nat.le_of_ble_eq_true e0
  have g : σ1.1.abs.heap.get? d = some ⟨oc, od, .dict es ep, sl⟩ := (getT_eq _ _).symm.trans e2
  unfold obs1 due1 at eo
  obtain ⟨o1, o2⟩ := List.cons.inj eo
  have o3 : ∀ l : List DictEntry, (l.flatMap fun e => [goR (ST p w) n0 ann B resB (hold [.ref a] (hold [.ref a, v] (hold [.ref a, v] lv))) (eqIsQuiet 8 e.key) σ1, goR (ST p w) n0 ann B resB (hold [.ref a] (hold [.ref a, v] (hold [.ref a, v] lv))) (eqBool e.key (.ref a)) σ1]) =
      (l.flatMap fun _ => [some (Flow.brk, σ1), some (Flow.next, σ1)]) → ∀ e ∈ l, RT p w n0 ann B 8000 (hold [.ref a] (hold [.ref a, v] (hold [.ref a, v] lv))) σ1 (eqIsQuiet 8 e.key) true σ1 ∧ RT p w n0 ann B 8000 (hold [.ref a] (hold [.ref a, v] (hold [.ref a, v] lv))) σ1 (eqBool e.key (.ref a)) false σ1 := by
    intro l
    induction l with
    | nil => exact fun _ e he => absurd he (List.not_mem_nil)
    | cons x r ih =>
      intro q e he
      rw [List.flatMap_cons, List.flatMap_cons] at q
      obtain ⟨q1, q⟩ := List.cons.inj q
      obtain ⟨q2, q⟩ := List.cons.inj q
      rcases List.mem_cons.mp he with rfl | he
      · exact ⟨RT.go (fun b => resB_t) q1 hB, RT.go (fun b => resB_f) q2 hB⟩
      · exact ih q e he
  unfold dictSet
  refine RT.holding (((RT.hash hB e1).bind (m2 := 410000) ?_).mono (by omega))
  unfold dictSetHashed
  refine RT.holding (((RT.find g rfl e0 (fun x hx => ?_) (RT.go (fun b => resB_t) o1 hB) (o3 _ o2)).bind (m2 := 8000) ?_).mono (by omega))
  · have := List.all_eq_true.mp e3 x hx
    rw [Bool.not_eq_true'] at this
    exact this
  · exact RT.go (fun _ _ => rfl) e4 hB
theorem obs_len {lv : List Value → List Value} {k : Value} {es : List DictEntry} {σ : Sg} : (obs1 (ST p w) n0 ann B lv k es σ).length = (due1 es σ).length := by
  unfold obs1 due1
  rw [List.length_cons, List.length_cons]
  congr 1
  induction es with
  | nil => rfl
  | cons e r ih =>
    rw [List.flatMap_cons, List.flatMap_cons, List.length_append, List.length_append, ih]
    rfl
theorem pairs_len : ∀ (l : List (Sem Value × Sem Value)) (lv : List Value → List Value) (σ σ' : Sg) (vs : List (Value × Value)), pairsT (ST p w) n0 ann B lv l σ = some (vs, σ') → vs.length = l.length
  | [], lv, σ, σ', vs, h => by
    cases h
    rfl
  | (k, v) :: r, lv, σ, σ', vs, h => by
    unfold pairsT at h
    split at h
    · split at h
      · split at h
        · rename_i e3
          cases h
          rw [List.length_cons, List.length_cons, pairs_len r _ _ _ _ e3]
        · cases h
      · cases h
    · cases h
theorem RT.pairs (hB : splitAtGen B = none) : ∀ (l : List (Sem Value × Sem Value)) (lv : List Value → List Value) (σ σ' : Sg) (vs : List (Value × Value)), pairsT (ST p w) n0 ann B lv l σ = some (vs, σ') → RT p w n0 ann B (l.length * 16000) lv σ (evalPairs l) vs σ'
  | [], lv, σ, σ', vs, h => by
    cases h
    rw [evalPairs]
    exact (RT.pure _).mono (Nat.zero_le _)
  | (k, v) :: r, lv, σ, σ', vs, h => by
    unfold pairsT at h
    split at h
    · rename_i kv σ1 e1
      split at h
      · rename_i vv σ2 e2
        split at h
        · rename_i l σ3 e3
          cases h
          rw [evalPairs]
          refine RT.mono (m := 8000 + (8000 + (r.length * 16000 + 0))) ((RT.go (a := kv) (fun b hb => ?_) e1 hB).bind ((RT.holding (RT.go (a := vv) (fun b hb => ?_) e2 hB)).bind ((RT.holding (RT.pairs hB r _ _ _ _ e3)).bind (RT.pure _)))) (by rw [List.length_cons]; omega)
          · injection hb
          · injection hb
        · cases h
      · cases h
    · cases h
theorem RT.store1 (hB : splitAtGen B = none) {d a : Addr} {v : Value} {lv : List Value → List Value} {σ σ' : Sg} {x y : Ob} (h : HT.store1 (ST p w) n0 ann B lv d a v σ = some (σ', x, y)) : x.length = y.length ∧ (x = y → RT p w n0 ann B 460000 lv σ (dictSet d (.ref a) v) () σ') := by
  unfold HT.store1 at h
  split at h
  · rename_i hh σ1 e1
    split at h
    · rename_i oc od es ep sl e2
      split at h
      · rename_i e3
        split at h
        · rename_i σ2 e4
          cases h
          exact ⟨obs_len, RT.add hB e1 e2 e3 e4⟩
        · cases h
      · cases h
    · cases h
  · cases h
theorem RT.stores (hB : splitAtGen B = none) {d : Addr} : ∀ (vs : List (Value × Value)) (lv : List Value → List Value) (σ σ' : Sg) (x y : Ob), HT.stores (ST p w) n0 ann B lv d vs σ = some (σ', x, y) → x = y → RT p w n0 ann B (vs.length * 460000) lv σ (storeAll d vs) PUnit.unit σ'
  | [], lv, σ, σ', x, y, h, _ => by
    cases h
    unfold storeAll
    rw [List.forIn_nil]
    exact (RT.pure _).mono (Nat.zero_le _)
  | (k, v) :: r, lv, σ, σ', x, y, h, exy => by
    unfold HT.stores at h
    split at h
    · rename_i a ek
      have ek2 : k = .ref a := by
        cases k <;> first | (cases ek; rfl) | cases ek
      subst ek2
      split at h
      · rename_i σ2 x1 y1 e1
        split at h
        · rename_i σ3 x2 y2 e5
          cases h
          obtain ⟨hl, hs⟩ := RT.store1 hB e1
          obtain ⟨q1, q2⟩ := List.append_inj exy hl
          unfold storeAll
          rw [List.forIn_cons]
          refine RT.mono (m := 460000 + 0 + r.length * 460000) ?_ (by rw [List.length_cons, Nat.succ_mul, Nat.add_zero, Nat.add_comm]; exact Nat.le_refl _)
          exact RT.bind (RT.bind (hs q1) (RT.pure (ForInStep.yield PUnit.unit))) (RT.stores hB r lv _ _ _ _ e5 q2)
        · cases h
      · cases h
    · cases h
theorem RT.table (hB : splitAtGen B = none) {env : Env} {s : Stmt} {lv : List Value → List Value} {σ σ' : Sg} {x y : Ob} (h : tableT (ST p w) n0 ann B lv env s σ = some (σ', x, y)) (exy : x = y) : RT p w n0 ann B 8000000 lv σ (exec s env) .next σ' := by
  unfold tableT at h
  split at h
  · rename_i ts keys vals dpos pos
    split at h
    · rename_i ok
      obtain ⟨k1, ok⟩ := Bool.and_eq_true_iff.mp ok
      obtain ⟨k2, ok⟩ := Bool.and_eq_true_iff.mp ok
      obtain ⟨k3, k4⟩ := Bool.and_eq_true_iff.mp ok
      have k2 : keys.length = vals.length := Nat.eq_of_beq_eq_true k2
      have k4 : keys.length ≤ 15 := Nat.le_of_ble_eq_true k4
      have k3 : keys ≠ [] := by
        rintro rfl
        cases k3
      have hn := pairTrees_length keys vals env dpos k1 k2
      have hp0 : pairTrees keys vals env dpos ≠ [] := by
        intro he
        rw [he] at hn
        exact k3 (List.length_eq_zero_iff.mp hn.symm)
      split at h
      · rename_i σ1 e1
        split at h
        · rename_i d σ2 e2
          split at h
          · rename_i vs σ3 e3
            split at h
            · rename_i σ4 x2 y2 e4
              split at h
              · rename_i σ5 e5
                cases h
                have a1 := RT.go (a := false) (fun b => resB_f) e1 hB
                have a2 := RT.go (a := d) (fun b (hb : resA b = resA d) => by injection hb with hb; injection hb) e2 hB
                have a3 := RT.pairs hB _ _ _ _ _ e3
                have hv := pairs_len _ _ _ _ _ e3
                rw [hn] at hv
                have hv2 : vs.length * 460000 ≤ 6900000 := Nat.mul_le_mul_right 460000 (Nat.le_trans (Nat.le_of_eq hv) k4)
                have hv3 : (pairTrees keys vals env dpos).length * 16000 ≤ 240000 := Nat.mul_le_mul_right 16000 (Nat.le_trans (Nat.le_of_eq hn) k4)
                have a4 := RT.stores hB _ _ _ _ _ _ e4 exy
                have a5 := RT.go (a := Flow.next) (fun b hb => hb) e5 hB
                rw [arm_exec_Assign]
                have b1 : RT p w n0 ann B 7900000 lv σ1 (eval (.Dict keys vals dpos) env) (.ref d) σ4 := by
                  rw [arm_eval_Dict, zip_pairTrees keys vals env dpos k1 k2, dictDisplay_pairs _ hp0 (by rw [hn]; omega)]
                  unfold subDict
                  refine RT.mono (m := 8000 + 7500000 + 0) (RT.bind2 (a := d) (σ1 := σ4) (RT.bind2 (a := d) (σ1 := σ2) (m2 := 7500000) a2 ?_) (RT.pure _)) (by omega)
                  refine RT.mono (m := 7500000 + 0) (RT.bind (m1 := 7500000) (a := ()) (σ1 := σ4) (RT.holding ?_) (RT.pure d)) (by omega)
                  rw [if_pos (by rw [hn]; exact k4)]
                  exact (a3.bind (RT.holding (RT.bind a4 (RT.pure ())))).mono (by omega)
                refine (RT.bind2 (m2 := 7950000) a1 ?_).mono (by omega)
                rw [if_neg (by simp)]
                exact (b1.bind a5).mono (by omega)
              · cases h
            · cases h
          · cases h
        · cases h
      · cases h
    · cases h
  · cases h
end
/-! ### the whole top -/
def envT (p : Program) (code : Value) (fr : Addr) : Env := { scope := p.main.scope, locals := mainNs, globals := mainNs, cells := [], code := code, frame := some fr }
def headT (st : SharedT → Thread → Option (SharedT × Thread)) (n0 : Nat) (ann : Option Value) (p : Program) (i : Nat) (σ0 : Sg) : Option (Env × List Frame × Sg × Ob × Ob) :=
  match goR st n0 ann [] resV id (moduleCode p.main) σ0 with
  | some (.ret code, σ1) => (match goR st n0 ann [] resA id (newBodyFrame code mainNs mainNs) σ1 with
    | some (.ret (.ref fr), σ2) => (match goR st n0 ann [.ret topAfter none false [] σ2.2.1 σ2.2.2 []] resU id (blockStart (behindTheImports p) (envT p code fr)) (σ2.1, .body (behindTheImports p) (envT p code fr), σ2.2.2) with
      | some (.next, σ3) => (match goR st n0 ann [.ret topAfter none false [] σ2.2.1 σ2.2.2 []] resF id (execs ((behindTheImports p).take i) (envT p code fr)) σ3 with
        | some (.next, σ4) => (match (behindTheImports p).drop i with
          | s :: _ => (match tableT st n0 ann [.ret topAfter none false [] σ2.2.1 σ2.2.2 []] id (envT p code fr) s σ4 with
            | some (σ5, x, y) => some (envT p code fr, [.ret topAfter none false [] σ2.2.1 σ2.2.2 []], σ5, x, y)
            | none => none)
          | [] => none)
        | _ => none)
      | _ => none)
    | _ => none)
  | _ => none
def restT (st : SharedT → Thread → Option (SharedT × Thread)) (n0 : Nat) (ann : Option Value) (p : Program) (i : Nat) (r : Env × List Frame × Sg × Ob × Ob) : Option SharedT :=
  match goR st n0 ann r.2.1 resF id (execs ((behindTheImports p).drop (i + 1)) r.1) r.2.2.1 with
  | some (.next, σ6) => some σ6.1
  | _ => none
/-- more than the top's steps -/
abbrev topM : Nat := 8000 + (8000 + (8000 + (8000 + (8000000 + (8000 + 2))) + 1))
theorem top_end {p : Program} {w : World} {n0 : Nat} {ann : Option Value} {s : Shared} {c : Code} {q : Pos} {v : Flow} : topRun treeTable p w n0 ann 1 s ⟨.pure (.done v), c, q, []⟩ = some s := by
  unfold topRun
  rfl
theorem run_top {p : Program} {w : World} {n0 : Nat} {ann : Option Value} {i : Nat} {s0 s' : SharedT} {r : Env × List Frame × Sg × Ob × Ob} (h : headT (ST p w) n0 ann p i (s0, .builtin "claim.caller" {}, default) = some r)
    (exy : r.2.2.2.1 = r.2.2.2.2) (h2 : restT (ST p w) n0 ann p i r = some s') : topRun treeTable p w n0 ann topM s0.abs (topStub p) = some s'.abs := by
  unfold headT at h
  split at h
  · rename_i code σ1 e1
    split at h
    · rename_i fr σ2 e2
      split at h
      · rename_i σ3 e3
        split at h
        · rename_i σ4 e4
          split at h
          · rename_i s rest e5
            split at h
            · rename_i σ5 x y e6
              cases h
              unfold restT at h2
              split at h2
              · rename_i σ6 e7
                cases h2
                have hB : splitAtGen [Frame.ret topAfter none false [] σ2.2.1 σ2.2.2 []] = none := rfl
                have a1 := RT.go (a := code) (fun b hb => by injection hb) e1 rfl
                have a2 := RT.go (a := fr) (fun b (hb : resA b = resA fr) => by injection hb with hb; injection hb) e2 rfl
                have a3 := RT.go (a := ()) (fun b hb => rfl) e3 hB
                have a4 := RT.go (a := Flow.next) (fun b hb => hb) e4 hB
                have a6 := RT.table hB e6 exy
                have a7 := RT.go (a := Flow.next) (fun b hb => hb) e7 hB
                have er : (behindTheImports p).drop (i + 1) = rest := by
                  rw [← List.drop_drop, e5]
                  rfl
                rw [er] at a7
                have eb : behindTheImports p = (behindTheImports p).take i ++ (s :: rest) := by rw [← e5, List.take_append_drop]
                obtain ⟨s6, c6, q6⟩ := σ6
                have z6 : topRun treeTable p w n0 ann 2 s6.abs ⟨doneF .next, c6, q6, [.ret topAfter none false [] σ2.2.1 σ2.2.2 []]⟩ = some s6.abs := by
                  refine top_step rfl rfl rfl ?_
                  exact top_end
                have z5 := a7 doneF (leaveH (envT p code fr)) 2 _ z6
                have z4 := a6 (fun f => match f with | .next => (execs rest (envT p code fr)).wrap doneF (leaveH (envT p code fr)) id id | f => doneF f) (leaveH (envT p code fr)) _ _ z5
                have z4 : topRun treeTable p w n0 ann (8000000 + (8000 + 2)) σ4.1.abs ⟨(execs (s :: rest) (envT p code fr)).wrap doneF (leaveH (envT p code fr)) id id, σ4.2.1, σ4.2.2, [.ret topAfter none false [] σ2.2.1 σ2.2.2 []]⟩ = some s6.abs := by
                  rw [execs_cons_wrap]
                  exact z4
                have z3 := a4 (fun f => match f with | .next => (execs (s :: rest) (envT p code fr)).wrap doneF (leaveH (envT p code fr)) id id | f => doneF f) (leaveH (envT p code fr)) _ _ z4
                have z3 : topRun treeTable p w n0 ann (8000 + (8000000 + (8000 + 2))) σ3.1.abs ⟨(execs (behindTheImports p) (envT p code fr)).wrap doneF (leaveH (envT p code fr)) id id, σ3.2.1, σ3.2.2, [.ret topAfter none false [] σ2.2.1 σ2.2.2 []]⟩ = some s6.abs := by
                  rw [eb, execs_app_wrap]
                  exact z3
                have z2 := a3 (fun _ => (execs (behindTheImports p) (envT p code fr)).wrap doneF (leaveH (envT p code fr)) id id) .raise _ _ z3
                rw [← body_wrap (tb := treeTable)] at z2
                have z1 : topRun treeTable p w n0 ann (8000 + (8000 + (8000000 + (8000 + 2))) + 1) σ2.1.abs ⟨run (.body (behindTheImports p) (envT p code fr)) >>= fun _ => ret .none, σ2.2.1, σ2.2.2, []⟩ = some s6.abs :=
                  top_step rfl rfl rfl z2
                have z0 := a2 (fun fr => run (.body (behindTheImports p) (envT p code fr)) >>= fun _ => ret .none) .raise _ _ z1
                rw [← Sem.bind_eq_wrap'] at z0
                have y0 := a1 (fun code => newBodyFrame code mainNs mainNs >>= fun fr => run (.body (behindTheImports p) (envT p code fr)) >>= fun _ => ret .none) .raise _ _ z0
                rw [← Sem.bind_eq_wrap'] at y0
                exact y0
              · cases h2
            · cases h
          · cases h
        · cases h
      · cases h
    · cases h
  · cases h
end HT

set_option Elab.async false
set_option linter.all false
set_option maxRecDepth 100000
set_option maxHeartbeats 4000000
/-! LeftO of such a top, and the law's end over it. -/
noncomputable section
namespace HT
open PySem PySem.W PySem.Calls PyProof.Rows HandSHeadRun

def headB (st : SharedT → Thread → Option (SharedT × Thread)) (p : Program) (i : Nat) (w : World) (os : OsState) : Option (Env × List Frame × Sg × Ob × Ob) :=
  match putAll (boot_heap w.params).objs.toList .nil 0 with
  | some (t, n) => frNat n fun n0 => headT st n0 (bootAnn w) p i (bootT w os (t, n0), .builtin "claim.caller" {}, default)
  | none => none
def bothB (st : SharedT → Thread → Option (SharedT × Thread)) (p : Program) (i : Nat) (w : World) (os : OsState) : Option SharedT :=
  match putAll (boot_heap w.params).objs.toList .nil 0 with
  | some (t, n) => frNat n fun n0 => match headT st n0 (bootAnn w) p i (bootT w os (t, n0), .builtin "claim.caller" {}, default) with
    | some r => restT st n0 (bootAnn w) p i r
    | none => none
  | none => none
theorem both_ok {p : Program} {i : Nat} {w : World} {os : OsState} {s : SharedT} (h : bothB (ST p w) p i w os = some s)
    (e : (headB (ST p w) p i w os).map (fun r => r.2.2.2.1) = (headB (ST p w) p i w os).map (fun r => r.2.2.2.2)) :
    topRun treeTable p w (boot_heap w.params).objs.size (bootAnn w) topM ⟨boot_heap w.params, #[], boot_drawn, boot_toks, os⟩ (topStub p) = some s.abs := by
  unfold bothB at h
  unfold headB at e
  cases q : putAll (boot_heap w.params).objs.toList .nil 0 with
  | none =>
    rw [q] at h
    cases h
  | some r =>
    obtain ⟨t, n⟩ := r
    rw [q] at h e
    have h1 : (frNat n fun n0 => match headT (ST p w) n0 (bootAnn w) p i (bootT w os (t, n0), .builtin "claim.caller" {}, default) with
      | some r => restT (ST p w) n0 (bootAnn w) p i r
      | none => none) = some s := h
    have e1 : (frNat n fun n0 => headT (ST p w) n0 (bootAnn w) p i (bootT w os (t, n0), .builtin "claim.caller" {}, default)).map (fun r => r.2.2.2.1) =
      (frNat n fun n0 => headT (ST p w) n0 (bootAnn w) p i (bootT w os (t, n0), .builtin "claim.caller" {}, default)).map (fun r => r.2.2.2.2) := e
    rw [frNat_eq] at h1 e1
    cases z : headT (ST p w) n (bootAnn w) p i (bootT w os (t, n), .builtin "claim.caller" {}, default) with
    | none =>
      rw [z] at h1
      cases h1
    | some r =>
      rw [z] at h1 e1
      have k := run_top z (Option.some.inj e1) h1
      have eh := putAll_heap q
      have en : (boot_heap w.params).objs.size = n := by
        rw [← eh]
        exact absHeap_size t n _
      have eb : (bootT w os (t, n)).abs = ⟨boot_heap w.params, #[], boot_drawn, boot_toks, os⟩ := by
        show (⟨absHeap t n (boot_heap w.params).life, #[], boot_drawn, boot_toks, os⟩ : Shared) = _
        rw [eh]
      rw [eb] at k
      rw [en]
      exact k
theorem head_eq (p : Program) (i : Nat) (w : World) (os : OsState) : headB (ST p w) p i w os = headB (stepQ (denQ tabQ) p w) p i w os := by
  unfold ST
  rw [stepQ_eq, denQ_eq, tabQ_eq]
theorem both_eq (p : Program) (i : Nat) (w : World) (os : OsState) : bothB (ST p w) p i w os = bothB (stepQ (denQ tabQ) p w) p i w os := by
  unfold ST
  rw [stepQ_eq, denQ_eq, tabQ_eq]
/-- what the kernel is asked: the searches of the table -/
def FindEq (p : Program) (i : Nat) (w : World) : Prop := ∀ os, (headB (stepQ (denQ tabQ) p w) p i w os).map (fun r => r.2.2.2.1) = (headB (stepQ (denQ tabQ) p w) p i w os).map (fun r => r.2.2.2.2)
/-- what the kernel is asked: the run and the looks -/
def RunEqT (r : OpenRow) (i : Nat) (q : Program) (H : Hook) (ob : SharedT → H.α) (loose : List PySem.Str) (w : World) : Prop :=
  ∀ os : OsState, (bothB (stepQ (denQ tabQ) r.prog w) r.prog i w os).map (fun s => (looksF r.prog (boot_heap w.params) s.abs, seenQ q loose (importedModules r.prog.main.body) (fun s => xlAt q [] s && recOk r.toRowW.records s) s.abs, ob s)) = some (true, openGood q loose, H.val w)
theorem left_T {r : OpenRow} {i : Nat} {q : Program} {H : Hook} {ob : SharedT → H.α} {loose : List PySem.Str} (ho : ∀ s : SharedT, ob s = H.obs s.abs)
    (e : opening r.prog = plainProg r.prog.main.scope.names) (f : ∀ s, fenceModules? r.prog s = some s) (find : ∀ w, FindEq r.prog i w) (run : ∀ w, RunEqT r i q H ob loose w) :
    LeftO r.prog q loose (fun s => xlAt q [] s && recOk r.toRowW.records s) H.obs H.val (topM + 600) true := fun w => by
  obtain ⟨⟨h, gs, d, k, os⟩, a, a'⟩ := Option.map_eq_some_iff.mp (boot_open (N := topM + 600) e (Nat.ble_eq_true_of_le (Nat.le_add_left 600 topM)) f w)
  obtain ⟨rfl, rfl, rfl, rfl⟩ : h = boot_heap w.params ∧ gs = Array.mk [] ∧ d = boot_drawn ∧ k = boot_toks := by simpa using a'
  have hv0 := run w os
  rw [← both_eq] at hv0
  have hf := find w os
  rw [← head_eq] at hf
  obtain ⟨s, hs, hv⟩ := Option.map_eq_some_iff.mp hv0
  obtain ⟨l1, l2, l3⟩ : _ ∧ _ ∧ _ := by simpa only [Prod.mk.injEq] using hv
  rw [← seenQ_eq] at l2
  rw [ho] at l3
  have z := topRun_mono 600 _ _ _ _ (both_ok hs hf)
  have l1' : (staticsOk (importedModules r.prog.main.body) (boot_heap w.params) s.abs.heap && namesBound r.prog s.abs.heap && gensDone s.abs && laidKept (boot_heap w.params) s.abs.heap) = true := l1
  have t : topFrom treeTable r.prog w (topM + 600) ⟨boot_heap w.params, Array.mk [], boot_drawn, boot_toks, os⟩ = some s.abs := by
    unfold topFrom
    dsimp only
    rw [boot_ns]
    show (topRun treeTable r.prog w (boot_heap w.params).objs.size (bootAnn w) (topM + 600) ⟨boot_heap w.params, #[], boot_drawn, boot_toks, os⟩ (topStub r.prog)).bind _ = _
    rw [z]
    show (match staticsOk (importedModules r.prog.main.body) (boot_heap w.params) s.abs.heap && namesBound r.prog s.abs.heap && gensDone s.abs && laidKept (boot_heap w.params) s.abs.heap with | true => some s.abs | false => none) = _
    rw [l1']
  unfold openEnds
  rw [a]
  show (topFrom treeTable r.prog w (topM + 600) _).map _ = _
  rw [t]
  exact congrArg some (Prod.ext l2 l3)
theorem head_T {r : OpenRow} {i : Nat} {q : Program} {H : Hook} {ob : SharedT → H.α} {loose : List PySem.Str} {d : DefRec} {kwd : List (PySem.Str × PySem.Expr)} (ho : ∀ s : SharedT, ob s = H.obs s.abs)
    (e : opening r.prog = plainProg r.prog.main.scope.names) (f : ∀ s, fenceModules? r.prog s = some s) (find : ∀ w, FindEq r.prog i w) (run : ∀ w, RunEqT r i q H ob loose w)
    (hdef : defOf q r.name = some (d, kwd)) (hp : r.prog.theDef r.name = some (d.params, d.body, d.scope)) (hk : kwWritten? d.params.kwonlyargs d.params.kw_defaults = some kwd)
    (hwr : (!r.writes || r.records.isEmpty) = true) (k1 : r.wellSaid = true) (ok : (chainsOk q && opensWell r.prog && (frees r.toRowW && r.within.isEmpty)) = true) (hb : r.prog.bare) (hw : r.toRowW.promised)
    (call : WalkO q loose (XL q []) H.says r.toRowW d kwd fun f vs => PySem.call f vs) : r.Holds :=
  holds_open (r := r) (q := q) (loose := loose) (XP := XL q []) (YP := H.says) (d := d) (kwd := kwd) (left_T ho e f find run) H.of H.keeps (fun s z => xl_of s (Bool.and_eq_true_iff.mp z).1) XL.keeps hdef hp hk (fun s z => recFacts_of (Bool.and_eq_true_iff.mp z).2) hwr k1 ok hb hw call
end HT
noncomputable section
namespace HT
open PySem PySem.W
/-! ### a world by what it answers at one row -/
def ftW (w : World) (b : Bool) : World := { w with params := { w.params with followText := fun s => bif s == "special-get-raises" then b else w.params.followText s } }
theorem ftW_eq (w : World) : ftW w (w.params.followText "special-get-raises") = w := by
  have e : (fun s => bif s == "special-get-raises" then w.params.followText "special-get-raises" else w.params.followText s) = w.params.followText := by
    funext s
    by_cases h : s = "special-get-raises"
    · rw [h]
      rfl
    · rw [beq_false_of_ne h]
      rfl
  unfold ftW
  rw [e]
theorem of_ft {P : World → Prop} (h1 : ∀ w, P (ftW w true)) (h2 : ∀ w, P (ftW w false)) (w : World) : P w := by
  rw [← ftW_eq w]
  cases w.params.followText "special-get-raises"
  · exact h2 w
  · exact h1 w
end HT

set_option Elab.async false
set_option linter.all false
set_option maxRecDepth 100000
set_option maxHeartbeats 4000000
/-! what the top leaves behind, told by a Hook: defs, classes of exceptions, tables, tuples. -/
noncomputable section
namespace DL
open PySem PySem.Spec L2 He
/-! ### the Hook -/
abbrev AlX : Type := AlT × Bool × List TtO
abbrev TtT : Type := (PySem.W.Frag → Addr) × List (List Str × Str)
def obsX (fa : List Fa) (fn : List DefD) (ts : List Tab) (bs : List (PySem.W.Frag → Bool)) (tt : List TtT) (K : PySem.W.Frag) : AlX := (obsT fa fn ts K, bs.all fun b => b K, tt.map fun t => ttObs K (t.1 K))
def valX (fn : List DefD) (ts : List Tab) (tt : List TtT) (w : World) : AlX := (valT fn ts w, true, tt.map fun t => ttDue w t.2)
/-- the keys of the dicts, too -/
def keysO (o : Obj) : List Addr := match o.data with
  | .dict es _ => es.toList.flatMap fun e => refV e.key
  | _ => []
def asX (g : Addr → Option Obj) (n : Nat) : List Addr := asD g n ++ (asD g n).flatMap fun a => match g a with
  | some o => keysO o
  | none => []
def obsXG (n : Nat) (fa : List Fa) (fn : List DefD) (ts : List Tab) (bs : List (PySem.W.Frag → Bool)) (tt : List TtT) (g : Addr → Option Obj) : AlX := obsX fa fn ts bs tt (frG g (asX g n))
def SaysX (fa : List Fa) (fn : List DefD) (ts : List Tab) (bs : List (PySem.W.Frag → Bool)) (tt : List TtT) (w : World) (K : PySem.W.Frag) : Prop := obsX fa fn ts bs tt K = valX fn ts tt w
def hookX (n : Nat) (fa : List Fa) (fn : List DefD) (ts : List Tab) (bs : List (PySem.W.Frag → Bool)) (tt : List TtT) : PySem.W.Hook where
  α := AlX
  obs := fun s => obsXG n fa fn ts bs tt s.heap.get?
  val := fun w => valX fn ts tt w
  says := fun w h => ∃ K : PySem.W.Frag, K.In h ∧ SaysX fa fn ts bs tt w K
  of := fun _ _ e => ⟨_, frG_in, e⟩
  keeps := fun _ _ _ ⟨K, hK, c⟩ k => ⟨K, PySem.W.Frag.In.keeps hK k, c⟩
def obX (n : Nat) (fa : List Fa) (fn : List DefD) (ts : List Tab) (bs : List (PySem.W.Frag → Bool)) (tt : List TtT) (s : PySem.W.SharedT) : AlX := obsXG n fa fn ts bs tt (HandSHeadRun.getT s)
theorem obX_eq {n : Nat} {fa : List Fa} {fn : List DefD} {ts : List Tab} {bs : List (PySem.W.Frag → Bool)} {tt : List TtT} (s : PySem.W.SharedT) : obX n fa fn ts bs tt s = (hookX n fa fn ts bs tt).obs s.abs := by
  have e : HandSHeadRun.getT s = s.abs.heap.get? := funext (HandSHeadRun.getT_eq s)
  unfold obX
  rw [e] <;> rfl
section
variable {fa : List Fa} {fn : List DefD} {ts : List Tab} {bs : List (PySem.W.Frag → Bool)} {tt : List TtT} {w : World} {K : PySem.W.Frag}
theorem SaysX.t (c : SaysX fa fn ts bs tt w K) : SaysT fa fn ts w K := congrArg (fun z : AlX => z.1) c
theorem SaysX.b (c : SaysX fa fn ts bs tt w K) (i : Nat) {b : PySem.W.Frag → Bool} (h : bs[i]? = some b) : b K = true :=
  List.all_eq_true.mp (congrArg (fun z : AlX => z.2.1) c) b (List.mem_of_getElem? h)
theorem SaysX.tt_ (c : SaysX fa fn ts bs tt w K) (i : Nat) {t : TtT} (h : tt[i]? = some t) : KTT K w (t.1 K) t.2 := by
  have e : tt.map (fun t => ttObs K (t.1 K)) = tt.map fun t => ttDue w t.2 := congrArg (fun z : AlX => z.2.2) c
  have e2 : (tt.map fun t => ttObs K (t.1 K))[i]? = (tt.map fun t => ttDue w t.2)[i]? := by rw [e]
  rw [List.getElem?_map, List.getElem?_map, h] at e2
  exact ktt_of (Option.some.inj e2)
end
/-! ### defs -/
section
variable {K : PySem.W.Frag} {mg : Str → Option Value} {x q : Str} {st : Stmt} {f : Addr} {fd : FuncData} {kws : List (Str × V)}
theorem fun_of (F : FunD K x q (defArgs st) (defBody st) (defScope st) [] kws f fd) : Fun K x q st f fd := by
  obtain ⟨oc, od, dV, kV, doc, pm, an, cdv, ct, osl, e, lk, hcd, hD, _⟩ := F.ex
  rcases hD with ⟨_, rfl⟩ | ⟨z, _⟩
  · exact ⟨⟨oc, od, kV, doc, pm, an, cdv, ct, osl, e, lk, hcd⟩, F.kp⟩
  · exact absurd rfl z
theorem bd_of {ps : List Str} (F : FunD K x q (defArgs st) (defBody st) (defScope st) [] kws f fd) (h : ∀ (kV doc pm : Value) (an : Option Addr) (cdv ct : Value), Bd (PySem.W.fnOf x q (defArgs st) (defBody st) (defScope st) .none kV doc pm an cdv ct) ps) : Bd fd ps := by
  obtain ⟨oc, od, dV, kV, doc, pm, an, cdv, ct, osl, e, lk, hcd, hD, _⟩ := F.ex
  rcases hD with ⟨_, rfl⟩ | ⟨z, _⟩
  · rw [e]
    exact h kV doc pm an cdv ct
  · exact absurd rfl z
/-- a def of the top as a datum of the Hook -/
def dfD (x : Str) (st : Stmt) (kd : List (Str × Int)) : DefD := ⟨(x, none), x, x, defArgs st, defBody st, defScope st, [], kd.map fun q => (q.1, Dv.int q.2)⟩
theorem df_of {ps : List Str} (hm : mg x = some (.ref (ga K x))) (c : ∃ fd, FunD K (dfD x st []).name (dfD x st []).qual (dfD x st []).params (dfD x st []).body (dfD x st []).scope ((dfD x st []).dvs K) ((dfD x st []).kws K) (fAd K (dfD x st []).at_) fd)
    (h : ∀ (kV doc pm : Value) (an : Option Addr) (cdv ct : Value), Bd (PySem.W.fnOf x x (defArgs st) (defBody st) (defScope st) .none kV doc pm an cdv ct) ps) : Df K mg x st ps := by
  obtain ⟨fd, F⟩ := c
  have F2 : FunD K x x (defArgs st) (defBody st) (defScope st) [] [] (ga K x) fd := F
  exact ⟨_, fd, hm, fun_of F2, bd_of F2 h⟩
end
/-- one parameter and one that is keyword-only -/
theorem dfk_of {K : PySem.W.Frag} {mg : Str → Option Value} {x a l : Str} {i : Int} {st : Stmt} (hm : mg x = some (.ref (ga K x))) (c : ∃ fd, FunD K (dfD x st [(l, i)]).name (dfD x st [(l, i)]).qual (dfD x st [(l, i)]).params (dfD x st [(l, i)]).body (dfD x st [(l, i)]).scope ((dfD x st [(l, i)]).dvs K) ((dfD x st [(l, i)]).kws K) (fAd K (dfD x st [(l, i)]).at_) fd)
    (h0 : ∀ (D : Addr) (doc pm : Value) (an : Option Addr) (cdv ct u k : Value), KwChain D [(l, k)] (bindArgs (PySem.W.fnOf x x (defArgs st) (defBody st) (defScope st) .none (.ref D) doc pm an cdv ct) ⟨[u], []⟩) [(a, u), (l, k)])
    (h1 : ∀ (D : Addr) (doc pm : Value) (an : Option Addr) (cdv ct u k : Value), bindArgs (PySem.W.fnOf x x (defArgs st) (defBody st) (defScope st) .none (.ref D) doc pm an cdv ct) ⟨[u], [(l, k)]⟩ = pure [(a, u), (l, k)]) : DfK K mg x st [a, l] 1 [(l, i)] := by
  obtain ⟨fd, F⟩ := c
  have F2 : FunD K x x (defArgs st) (defBody st) (defScope st) [] [(l, V.int i)] (ga K x) fd := F
  have b0 := F2.binds0 (ps := [a, l]) 1 (by simp) rfl fun D doc pm an cdv ct us ks hu hk => match us, ks, hu, hk with
    | [u], [k], _, _ => h0 D doc pm an cdv ct u k
  obtain ⟨mv, b1⟩ := F2.kbinds0 (ps := [a, l]) 1 [l] [] (fun us _ ws => us ++ ws) (by simp) (fun _ z => absurd z List.not_mem_nil) (fun r1 _ r3 => r1.append r3) fun D doc pm an cdv ct us mv ws hu hm hk => match us, mv, ws, hu, hm, hk with
    | [u], [], [k], _, _, _ => h1 D doc pm an cdv ct u k
  exact ⟨_, fd, hm, fun_of F2, b0, b1⟩
/-! ### classes of exceptions -/
def ownB (K : PySem.W.Frag) (C : Addr) (T : List Value) (newId : String) : Bool := match K.lookup C with
  | some ⟨.type t, _, .cls cd, sl⟩ => decide (t = "type") && (match cd.mro, sl.toList with
    | .ref C2 :: bm, [_, _, _, _, some (.builtin n), _] => decide (C2 = C) && (decide (n = newId) && (decide (bm = T) && (!cd.hasDel && cd.hasDict)))
    | _, _ => false)
  | _ => false
theorem ownB_ok {K : PySem.W.Frag} {C : Addr} {T : List Value} {newId : String} (h : ownB K C T newId = true) : ∃ nm q N bs sn sub ab col dd k0 k1 k2 k3 k5, K.lookup C = some (PySem.excClassObj nm q C N bs T true sn sub ab col dd k0 k1 k2 k3 k5 newId) := by
  unfold ownB at h
  split at h
  · rename_i t dd cd sl ho
    obtain ⟨ht, h⟩ := ba h
    split at h
    · rename_i C2 bm k0 k1 k2 k3 n k5 hm hs
      obtain ⟨h1, h⟩ := ba h
      obtain ⟨h2, h⟩ := ba h
      obtain ⟨h3, h⟩ := ba h
      obtain ⟨h4, h5⟩ := ba h
      obtain ⟨nm, bs, mro, ns, qn, hd, sn, sub, ab, col, del⟩ := cd
      have e1 := of_decide_eq_true h1
      have e2 := of_decide_eq_true h2
      have e3 := of_decide_eq_true h3
      have e0 := of_decide_eq_true ht
      dsimp only at hm h4 h5
      have e4 : del = false := by
        cases del
        · rfl
        · cases h4
      subst e1 e2 e3 e4 h5 hm e0
      have e5 : sl = #[k0, k1, k2, k3, some (.builtin n), k5] := by
        obtain ⟨l⟩ := sl
        have hs2 : l = [k0, k1, k2, k3, some (.builtin n), k5] := hs
        rw [hs2]
      subst e5
      exact ⟨nm, qn, ns, bs, sn, sub, ab, col, dd, k0, k1, k2, k3, k5, ho⟩
    · cases h
  · cases h
/-- all that is told of a class of exceptions, its __init__ apart -/
def xB (x f : Str) (T : List Value) (newId : String) (K : PySem.W.Frag) : Bool :=
  eqO (PySem.W.nsIn K mainGlobals x) (some (some (.ref (ga K x)))) && (ownB K (ga K x) T newId && (eqO (PySem.W.findIn K (.ref (ga K x)) "__init__") (some (some (.ref (ma K (ga K x) "__init__")))) && (decide (PySem.W.typeIn K (.ref (ma K (ga K x) "__init__")) = some (.type "function")) &&
  (eqO (PySem.W.findIn K (.ref (ga K x)) "__setattr__") (some (some (.builtin "object.__setattr__"))) && (decide (PySem.W.subIn K (.ref (ga K x)) (.type "BaseException") = some true) && (decide (PySem.W.typeIn K (.ref (ga K x)) = some (.type "type")) && (PySem.W.keepIn K (.ref (ga K x)) &&
  (eqO (PySem.W.takerIn K (ga K x) f) (some none) && (eqO (PySem.W.findIn K (.ref (ga K x)) f) (some none) && (eqO (PySem.W.findIn K (.ref (ga K x)) "__getattribute__") (some (some (.builtin "BaseException.__getattribute__"))) && (eqO (PySem.W.findIn K (.ref (ga K x)) "__getattr__") (some none) && PySem.W.hasDictIn K (ga K x))))))))))))
def xDef (x : Str) (st : Stmt) (qual : Str) : DefD := ⟨(x, some "__init__"), "__init__", qual, defArgs st, defBody st, defScope st, [], []⟩
theorem xf_of {K : PySem.W.Frag} {h : Heap} {mg : Str → Option Value} {x f qual : Str} {B newId initId : String} {T : List Value} {st : Stmt} (Bx : BaseX B newId initId T) (X : K.In h) (G : h.Ns mainGlobals mg) (b : xB x f T newId K = true)
    (c : ∃ fd, FunD K (xDef x st qual).name (xDef x st qual).qual (xDef x st qual).params (xDef x st qual).body (xDef x st qual).scope ((xDef x st qual).dvs K) ((xDef x st qual).kws K) (fAd K (xDef x st qual).at_) fd)
    (hb : ∀ (kV doc pm : Value) (an : Option Addr) (cdv ct : Value), Bd (PySem.W.fnOf "__init__" qual (defArgs st) (defBody st) (defScope st) .none kV doc pm an cdv ct) ["self", f]) (tl : PySem.W.excTail T T = true := by decide) : Xf K mg x qual f B newId initId T st := by
  obtain ⟨b1, b⟩ := ba b
  obtain ⟨b2, b⟩ := ba b
  obtain ⟨b3, b⟩ := ba b
  obtain ⟨b4, b⟩ := ba b
  obtain ⟨b5, b⟩ := ba b
  obtain ⟨b6, b⟩ := ba b
  obtain ⟨b7, b⟩ := ba b
  obtain ⟨b8, b⟩ := ba b
  obtain ⟨b9, b⟩ := ba b
  obtain ⟨b10, b⟩ := ba b
  obtain ⟨b11, b⟩ := ba b
  obtain ⟨b12, b13⟩ := ba b
  obtain ⟨fd, F⟩ := c
  have F2 : FunD K "__init__" qual (defArgs st) (defBody st) (defScope st) [] [] (ma K (ga K x) "__init__") fd := F
  have oc := ownB_ok b2
  have hov : PySem.W.excOver K (ga K x) T = true := by
    obtain ⟨nm, q, N, bs, sn, sub, ab, col, dd, k0, k1, k2, k3, k5, l⟩ := oc
    exact ov_of l tl
  exact ⟨ga K x, ma K (ga K x) "__init__", fd, PySem.W.mg_of X G (eqO_ok b1), ⟨Bx.fb, Bx.st, oc, hov, eqO_ok b5, of_decide_eq_true b6, of_decide_eq_true b7, b8⟩, eqO_ok b3, of_decide_eq_true b4, fun_of F2, bd_of F2 hb, eqO_ok b9, eqO_ok b10, ⟨eqO_ok b11, eqO_ok b12, of_decide_eq_true b6, b13⟩⟩
/-! ### tuples and tables -/
def tupAtB (K : PySem.W.Frag) (a : Addr) (is : List Int) : Bool := match K.lookup a with
  | some ⟨.type c, _, .seq its _, _⟩ => decide (c = "tuple") && (decide (its.size ≤ sizeLine) && relAll (is.map V.int) its.toList)
  | _ => false
theorem tupAtB_ok {K : PySem.W.Frag} {a : Addr} {is : List Int} (h : tupAtB K a is = true) (H : Hp) : SqT K H a (is.map V.int) := by
  unfold tupAtB at h
  split at h
  · rename_i c od its n sl q
    obtain ⟨h1, h2⟩ := ba h
    obtain ⟨h3, h4⟩ := ba h2
    exact .inr ⟨_, its, n, q, congrArg Value.type (of_decide_eq_true h1), rfl, of_decide_eq_true h3, relAll_ok h4⟩
  · cases h
def ktupB (x : Str) (is : List Int) (K : PySem.W.Frag) : Bool := eqO (PySem.W.nsIn K mainGlobals x) (some (some (.ref (ga K x)))) && tupAtB K (ga K x) is
theorem ktup_of {K : PySem.W.Frag} {h : Heap} {mg : Str → Option Value} {x : Str} {is : List Int} (X : K.In h) (G : h.Ns mainGlobals mg) (b : ktupB x is K = true) : KTup K mg x is := by
  obtain ⟨b1, b2⟩ := ba b
  exact ⟨_, PySem.W.mg_of X G (eqO_ok b1), tupAtB_ok b2⟩
/-- what a table holds -/
inductive Tv where
  | s (z : Str) | t (is : List Int)
def Tv.d : Tv → D
  | .s z => .str z
  | .t is => .tup (is.map D.int)
def tvB (K : PySem.W.Frag) (a : Addr) (k : Str) : Tv → Bool
  | .s z => (match PySem.W.nsIn K a k with
    | some (some (.str y _)) => decide (y = z)
    | _ => false)
  | .t is => (match PySem.W.nsIn K a k with
    | some (some (.ref b)) => tupAtB K b is
    | _ => false)
def tabB (x : Str) (kvs : List (Str × Tv)) (K : PySem.W.Frag) : Bool := eqO (PySem.W.nsIn K mainGlobals x) (some (some (.ref (ga K x)))) && kvs.all fun q => tvB K (ga K x) q.1 q.2
theorem ktab_of {K : PySem.W.Frag} {w : World} {h : Heap} {mg : Str → Option Value} {x : Str} {kvs : List (Str × Tv)} (X : K.In h) (G : h.Ns mainGlobals mg) (b : tabB x kvs K = true) (c : ∃ es n, KDict K w (ga K x) es n) : KTab K w mg x (kvs.map fun q => (q.1, q.2.d)) := by
  obtain ⟨b1, b2⟩ := ba b
  obtain ⟨es, n, D⟩ := c
  refine ⟨_, PySem.W.mg_of X G (eqO_ok b1), fun k d e => ?_⟩
  have hm : ∃ q ∈ kvs, q.1 = k ∧ q.2.d = d := by
    clear b b2
    induction kvs with
    | nil => cases e
    | cons q r ih =>
      rw [List.map_cons, List.lookup_cons] at e
      cases z : (k == q.1) with
      | true =>
        rw [z] at e
        exact ⟨q, List.mem_cons_self, (beq_iff_eq.mp z).symm, Option.some.inj e⟩
      | false =>
        rw [z] at e
        obtain ⟨q2, h2, h3⟩ := ih e
        exact ⟨q2, List.mem_cons_of_mem _ h2, h3⟩
  obtain ⟨q, hq, rfl, rfl⟩ := hm
  have hv := List.all_eq_true.mp b2 q hq
  obtain ⟨k, v⟩ := q
  cases v with
  | s z =>
    have hv2 : (match PySem.W.nsIn K (ga K x) k with
      | some (some (.str y _)) => decide (y = z)
      | _ => false) = true := hv
    split at hv2
    · rename_i y t q
      refine ⟨.str z, ⟨es, n, _, D.at_, D.lit, q, t, by rw [of_decide_eq_true hv2]⟩, fun H M => R.strI⟩
    · cases hv2
  | t is =>
    have hv2 : (match PySem.W.nsIn K (ga K x) k with
      | some (some (.ref b)) => tupAtB K b is
      | _ => false) = true := hv
    split at hv2
    · rename_i b q
      exact ⟨.ref b, ⟨es, n, _, D.at_, D.lit, q, rfl⟩, fun H M => R.tupI (tupAtB_ok hv2 H) RA.ints⟩
    · cases hv2
theorem kttab_of {K : PySem.W.Frag} {w : World} {h : Heap} {mg : Str → Option Value} {x : Str} {kvs : List (List Str × Str)} (X : K.In h) (G : h.Ns mainGlobals mg) (b : eqO (PySem.W.nsIn K mainGlobals x) (some (some (.ref (ga K x)))) = true) (c : KTT K w (ga K x) kvs) (nd : (kvs.map (·.1)).Nodup) : KTTab K w mg x kvs :=
  ⟨_, PySem.W.mg_of X G (eqO_ok b), c, nd⟩
/-! ### the law's end -/
theorem walk_DX {l : PySem.W.OpenLaw} {n k : Nat} {q : Program} {loose : List Str} {XP : (Str → Option Value) → Heap → Prop} {YP : World → Heap → Prop} {d : DefRec} {sp : DSp} {x : Str}
    (hn : l.most = some n) (hn2 : n ≤ sizeLine) (hdf : d.params.defaults = []) (hr : Room k callerA)
    (F : ∀ (w : World) (mg : Str → Option Value) (fa : Addr) (h : Heap), YP w h → h.Ns mainGlobals mg → mg d.name = some (.ref fa) →
      ∃ K : PySem.W.Frag, K.In h ∧ ∃ fd : FuncData, (∀ (s : Shared) (u : Value), BindsTo s fd ⟨[u], []⟩ [(x, u)]) ∧ ∀ base : Heap, K.In base → base.Ns mainGlobals mg → FnG l.prog w K mg base k fa fd [x] (spD K 1 sp))
    (h : ∀ ns : List Int, ns.length ≤ n → (∀ z ∈ ns, Builtin.Int.intBits z ≤ 1048576) → sp [.seq (ns.map D.int)] (fun _ => none) (fun d _ => d = D.bl true) (fun _ _ => False)) :
    PySem.W.WalkO q loose XP YP l.row.toRowW d [] (fun f vs => PySem.call f vs) := by
  refine Att.attach_callB hn hdf ?_
  intro w s₀ s₁ mg mb fa o pm cd doc a vs ns G Y ho hd hcd hmg hobj hints hlen hbits hg
  obtain ⟨K, KX, fd, hb, hF⟩ := F w mg fa _ Y G.T.g hmg
  exact law_callD KX G.T.g G.T.b G.T.builtins G.T.nolimit hg hobj hints (Nat.le_trans hlen hn2) hr hF hb (h ns hlen hbits)
end DL

set_option Elab.async false
set_option linter.all false
set_option maxRecDepth 100000
set_option maxHeartbeats 4000000
/-! texts and whole numbers at the top. -/
noncomputable section
namespace DL
open PySem PySem.Spec L2 He
def KStr (mg : Str → Option Value) (x z : Str) : Prop := ∃ t, mg x = some (.str z t)
def KInt (mg : Str → Option Value) (x : Str) (i : Int) : Prop := ∃ t, mg x = some (.int i t)
section
variable {X : Cx} {W : WX} {p : Pos} {x z : Str} {i : Int}
theorem dd_ks (hg : Gl X x) (T : KStr X.mg x z) (hd : (x == ("__debug__" : Str)) = false := by decide) : PE X (.Name x p) (uE X.K W (dC (.str z))) := by
  obtain ⟨t, hm⟩ := T
  exact pe_imp (pe_glob (v := .str z) hg hm ⟨t, rfl⟩ hd) fun σ H Q ⟨ρ, M, Qd, Xd, en, hr, h, q, x⟩ => q (.str z) H _ M .refl R.strI hr h
theorem dd_ki (hg : Gl X x) (T : KInt X.mg x i) (hd : (x == ("__debug__" : Str)) = false := by decide) : PE X (.Name x p) (uE X.K W (dC (.int i))) := by
  obtain ⟨t, hm⟩ := T
  exact pe_imp (pe_glob (v := .int i) hg hm ⟨t, rfl⟩ hd) fun σ H Q ⟨ρ, M, Qd, Xd, en, hr, h, q, x⟩ => q (.int i) H _ M .refl R.intI hr h
end
def kstrB (x z : Str) (K : PySem.W.Frag) : Bool := match PySem.W.nsIn K mainGlobals x with
  | some (some (.str y _)) => decide (y = z)
  | _ => false
def kintB (x : Str) (i : Int) (K : PySem.W.Frag) : Bool := match PySem.W.nsIn K mainGlobals x with
  | some (some (.int y _)) => decide (y = i)
  | _ => false
theorem kstr_of {K : PySem.W.Frag} {h : Heap} {mg : Str → Option Value} {x z : Str} (X : K.In h) (G : h.Ns mainGlobals mg) (b : kstrB x z K = true) : KStr mg x z := by
  unfold kstrB at b
  split at b
  · rename_i y t q
    have e := of_decide_eq_true b
    subst e
    exact ⟨t, PySem.W.mg_of X G q⟩
  · cases b
theorem kint_of {K : PySem.W.Frag} {h : Heap} {mg : Str → Option Value} {x : Str} {i : Int} (X : K.In h) (G : h.Ns mainGlobals mg) (b : kintB x i K = true) : KInt mg x i := by
  unfold kintB at b
  split at b
  · rename_i y t q
    have e := of_decide_eq_true b
    subst e
    exact ⟨t, PySem.W.mg_of X G q⟩
  · cases b
end DL
end

set_option linter.all false
set_option Elab.async false
/-! Moves: matrices up to sign, in plain Lean. -/
namespace Wm
structure Mv where
  a : Int
  b : Int
  c : Int
  d : Int
  deriving DecidableEq
def Mv.l (m : Mv) : List Int := [m.a, m.b, m.c, m.d]
def neg (m : Mv) : Mv := ⟨-m.a, -m.b, -m.c, -m.d⟩
/-- first m, then n -/
def mul (m n : Mv) : Mv := ⟨n.a * m.a + n.b * m.c, n.a * m.b + n.b * m.d, n.c * m.a + n.d * m.c, n.c * m.b + n.d * m.d⟩
def det (m : Mv) : Int := m.a * m.d - m.b * m.c
def inv (m : Mv) : Mv := ⟨m.d, -m.b, -m.c, m.a⟩
def one : Mv := ⟨1, 0, 0, 1⟩
/-- the sign with the first number that is not 0 positive -/
def signed : List Int → List Int
  | [] => []
  | n :: r => if n = 0 then 0 :: signed r else if n < 0 then (n :: r).map (-·) else n :: r
def sgn (m : Mv) : Mv := if m.a < 0 ∨ m.a = 0 ∧ (m.b < 0 ∨ m.b = 0 ∧ (m.c < 0 ∨ m.c = 0 ∧ m.d < 0)) then neg m else m
theorem signed_eq (m : Mv) : signed m.l = (sgn m).l := by
  obtain ⟨a, b, c, d⟩ := m
  unfold sgn Mv.l neg signed
  dsimp only
  by_cases ha : a = 0
  · subst ha
    rw [if_pos rfl]
    unfold signed
    by_cases hb : b = 0
    · subst hb
      rw [if_pos rfl]
      unfold signed
      by_cases hc : c = 0
      · subst hc
        rw [if_pos rfl]
        unfold signed
        by_cases hd : d = 0
        · subst hd
          simp [signed]
        · rw [if_neg hd]
          by_cases h : d < 0
          · rw [if_pos h, if_pos (by omega)]
            simp
          · rw [if_neg h, if_neg (by omega)]
      · rw [if_neg hc]
        by_cases h : c < 0
        · rw [if_pos h, if_pos (by omega)]
          simp
        · rw [if_neg h, if_neg (by omega)]
    · rw [if_neg hb]
      by_cases h : b < 0
      · rw [if_pos h, if_pos (by omega)]
        simp
      · rw [if_neg h, if_neg (by omega)]
  · rw [if_neg ha]
    by_cases h : a < 0
    · rw [if_pos h, if_pos (by omega)]
      simp
    · rw [if_neg h, if_neg (by omega)]
theorem ext {m n : Mv} (h1 : m.a = n.a) (h2 : m.b = n.b) (h3 : m.c = n.c) (h4 : m.d = n.d) : m = n := by
  cases m; cases n; simp at *; exact ⟨h1, h2, h3, h4⟩
theorem neg_neg (m : Mv) : neg (neg m) = m := by cases m; simp [neg]
theorem sgn_or (m : Mv) : sgn m = m ∨ sgn m = neg m := by
  unfold sgn
  split
  · exact .inr rfl
  · exact .inl rfl
theorem sgn_neg (m : Mv) : sgn (neg m) = sgn m := by
  obtain ⟨a, b, c, d⟩ := m
  unfold sgn neg
  dsimp only
  by_cases h : a < 0 ∨ a = 0 ∧ (b < 0 ∨ b = 0 ∧ (c < 0 ∨ c = 0 ∧ d < 0))
  · rw [if_pos h, if_neg (by omega)]
  · rw [if_neg h]
    by_cases z : a = 0 ∧ b = 0 ∧ c = 0 ∧ d = 0
    · obtain ⟨rfl, rfl, rfl, rfl⟩ := z
      simp
    · rw [if_pos (by omega)]
      simp
theorem sgn_sgn (m : Mv) : sgn (sgn m) = sgn m := by
  rcases sgn_or m with h | h
  · rw [h, h]
  · rw [h, sgn_neg, h]
theorem mul_neg_l (m n : Mv) : mul (neg m) n = neg (mul m n) := by
  apply ext <;> simp [mul, neg, Int.neg_add, Int.mul_neg]
theorem mul_neg_r (m n : Mv) : mul m (neg n) = neg (mul m n) := by
  apply ext <;> simp [mul, neg, Int.neg_add, Int.neg_mul]
theorem sgn_mul_l (m n : Mv) : sgn (mul (sgn m) n) = sgn (mul m n) := by
  rcases sgn_or m with h | h
  · rw [h]
  · rw [h, mul_neg_l, sgn_neg]
theorem sgn_mul_r (m n : Mv) : sgn (mul m (sgn n)) = sgn (mul m n) := by
  rcases sgn_or n with h | h
  · rw [h]
  · rw [h, mul_neg_r, sgn_neg]
theorem mul_assoc (m n k : Mv) : mul (mul m n) k = mul m (mul n k) := by
  apply ext <;> simp only [mul, Int.mul_add, Int.add_mul, Int.mul_assoc] <;> omega
theorem mul_one (m : Mv) : mul m one = m := by apply ext <;> simp [mul, one]
theorem one_mul (m : Mv) : mul one m = m := by apply ext <;> simp [mul, one]
theorem sgn_one : sgn one = one := by decide
theorem det_neg (m : Mv) : det (neg m) = det m := by simp only [det, neg, Int.neg_mul_neg]
theorem det_sgn (m : Mv) : det (sgn m) = det m := by
  rcases sgn_or m with h | h
  · rw [h]
  · rw [h, det_neg]
theorem det_mul (m n : Mv) : det (mul m n) = det m * det n := by
  obtain ⟨a, b, c, d⟩ := m
  obtain ⟨e, f, g, h⟩ := n
  simp only [det, mul, Int.mul_add, Int.add_mul, Int.sub_mul, Int.mul_sub, Int.mul_assoc, Int.mul_comm, Int.mul_left_comm]
  omega
theorem det_inv (m : Mv) : det (inv m) = det m := by
  simp only [det, inv, Int.neg_mul_neg, Int.mul_comm]
theorem inv_neg (m : Mv) : inv (neg m) = neg (inv m) := by apply ext <;> simp [inv, neg]
theorem sgn_inv (m : Mv) : sgn (inv (sgn m)) = sgn (inv m) := by
  rcases sgn_or m with h | h
  · rw [h]
  · rw [h, inv_neg, sgn_neg]
theorem inv_inv (m : Mv) : inv (inv m) = m := by cases m; simp [inv]
theorem mul_inv (m : Mv) (h : det m = 1) : mul m (inv m) = one := by
  obtain ⟨a, b, c, d⟩ := m
  simp only [det] at h
  apply ext <;> simp only [mul, inv, one, Int.neg_mul, Int.mul_neg, Int.mul_comm] at * <;> omega
theorem inv_mul (m : Mv) (h : det m = 1) : mul (inv m) m = one := by
  obtain ⟨a, b, c, d⟩ := m
  simp only [det] at h
  apply ext <;> simp only [mul, inv, one, Int.neg_mul, Int.mul_neg, Int.mul_comm] at * <;> omega
/-- how large -/
def Bn (n : Nat) (m : Mv) : Prop := m.a.natAbs ≤ 2 ^ n ∧ m.b.natAbs ≤ 2 ^ n ∧ m.c.natAbs ≤ 2 ^ n ∧ m.d.natAbs ≤ 2 ^ n
theorem Bn.mono {j k : Nat} {m : Mv} (h : Bn j m) (l : j ≤ k) : Bn k m := by
  have e : 2 ^ j ≤ 2 ^ k := Nat.pow_le_pow_right (by omega) l
  obtain ⟨a, b, c, d⟩ := h
  exact ⟨Nat.le_trans a e, Nat.le_trans b e, Nat.le_trans c e, Nat.le_trans d e⟩
theorem Bn.neg {k : Nat} {m : Mv} (h : Bn k m) : Bn k (neg m) := by
  unfold Bn Wm.neg at *
  simpa using h
theorem Bn.sgn {k : Nat} {m : Mv} (h : Bn k m) : Bn k (sgn m) := by
  rcases sgn_or m with e | e
  · rw [e]; exact h
  · rw [e]; exact h.neg
theorem Bn.inv {k : Nat} {m : Mv} (h : Bn k m) : Bn k (inv m) := by
  unfold Bn Wm.inv at *
  simp only [Int.natAbs_neg]
  exact ⟨h.2.2.2, h.2.1, h.2.2.1, h.1⟩
theorem dot_le {x y z w : Int} {j k : Nat} (h1 : x.natAbs ≤ 2 ^ j) (h2 : y.natAbs ≤ 2 ^ k) (h3 : z.natAbs ≤ 2 ^ j) (h4 : w.natAbs ≤ 2 ^ k) : (x * y + z * w).natAbs ≤ 2 ^ (j + k + 1) := by
  have a : (x * y).natAbs ≤ 2 ^ (j + k) := by rw [Int.natAbs_mul, Nat.pow_add]; exact Nat.mul_le_mul h1 h2
  have b : (z * w).natAbs ≤ 2 ^ (j + k) := by rw [Int.natAbs_mul, Nat.pow_add]; exact Nat.mul_le_mul h3 h4
  have c := Int.natAbs_add_le (x * y) (z * w)
  rw [Nat.pow_succ]
  omega
theorem Bn.mul {j k : Nat} {m n : Mv} (h : Bn j m) (h' : Bn k n) : Bn (j + k + 1) (mul m n) := by
  obtain ⟨a, b, c, d⟩ := h
  obtain ⟨e, f, g, i⟩ := h'
  have z : j + k + 1 = k + j + 1 := by omega
  rw [z]
  exact ⟨dot_le e a f c, dot_le e b f d, dot_le g a i c, dot_le g b i d⟩
theorem Bn.one : Bn 0 one := by unfold Bn Wm.one; decide
/-! ### letters and words -/
inductive Lt where
  | s | r | R
  deriving DecidableEq
def Lt.mv : Lt → Mv
  | .s => ⟨0, 1, -1, 0⟩
  | .r => ⟨0, 1, -1, -1⟩
  | .R => ⟨1, 1, -1, 0⟩
/-- one letter more: the entries at most double -/
theorem Bn.letter {k : Nat} {m : Mv} (h : Bn k m) (x : Lt) : Bn (k + 1) (Wm.mul m x.mv) := by
  obtain ⟨a, b, c, d⟩ := h
  have e : 2 ^ (k + 1) = 2 * 2 ^ k := by rw [Nat.pow_succ]; omega
  cases x <;> (unfold Bn Wm.mul Lt.mv; simp only; rw [e]; refine ⟨?_, ?_, ?_, ?_⟩ <;> omega)
/-- a word's move, the first letter first -/
def moveL (m : Mv) : List Lt → Mv
  | [] => m
  | x :: w => moveL (sgn (mul m x.mv)) w
abbrev moveW (w : List Lt) : Mv := moveL one w
structure Good (n : Nat) (m : Mv) : Prop where
  det : Wm.det m = 1
  sg : sgn m = m
  bn : Bn n m
theorem Good.one : Good 0 one := ⟨by decide, sgn_one, Bn.one⟩
theorem det_mv (x : Lt) : det x.mv = 1 := by cases x <;> decide
theorem Good.letter {n : Nat} {m : Mv} (h : Good n m) (x : Lt) : Good (n + 1) (sgn (mul m x.mv)) :=
  ⟨by rw [det_sgn, det_mul, h.det, det_mv]; rfl, sgn_sgn _, (h.bn.letter x).sgn⟩
theorem Good.moveL : ∀ (w : List Lt) {n : Nat} {m : Mv}, Good n m → Good (n + w.length) (Wm.moveL m w)
  | [], n, m, h => h
  | x :: w, n, m, h => by
    have q := Good.moveL w (h.letter x)
    rw [List.length_cons, show n + (w.length + 1) = n + 1 + w.length by omega]
    exact q
theorem Good.word (w : List Lt) : Good w.length (moveW w) := by
  have q := Good.moveL w Good.one
  rw [Nat.zero_add] at q
  exact q
theorem Good.mul {j k : Nat} {m n : Mv} (h : Good j m) (h' : Good k n) : Good (j + k + 1) (sgn (Wm.mul m n)) :=
  ⟨by rw [det_sgn, det_mul, h.det, h'.det]; rfl, sgn_sgn _, (h.bn.mul h'.bn).sgn⟩
theorem Good.inv {j : Nat} {m : Mv} (h : Good j m) : Good j (sgn (Wm.inv m)) := ⟨by rw [det_sgn, det_inv, h.det], sgn_sgn _, h.bn.inv.sgn⟩
theorem Good.mono {j k : Nat} {m : Mv} (h : Good j m) (l : j ≤ k) : Good k m := ⟨h.det, h.sg, h.bn.mono l⟩
def isS : Lt → Bool
  | .s => true
  | _ => false
/-- no two neighbours cancel or melt -/
def red : List Lt → Bool
  | x :: y :: w => (isS x != isS y) && red (y :: w)
  | _ => true
theorem red_snoc : ∀ (w : List Lt) (x : Lt), red w = true → (∀ y, w.getLast? = some y → isS y ≠ isS x) → red (w ++ [x]) = true
  | [], x, _, _ => rfl
  | [y], x, _, h => by
    have := h y rfl
    show ((isS y != isS x) && true) = true
    simpa using this
  | y :: z :: w, x, hr, h => by
    have hr' : ((isS y != isS z) && red (z :: w)) = true := hr
    rw [Bool.and_eq_true] at hr'
    have q := red_snoc (z :: w) x hr'.2 (fun u hu => h u (by rw [List.getLast?_cons_cons]; exact hu))
    show ((isS y != isS z) && red (z :: (w ++ [x]))) = true
    rw [hr'.1]
    exact q
end Wm

set_option Elab.async false
set_option linter.all false
set_option maxRecDepth 100000
set_option maxHeartbeats 4000000
namespace DP
open PySem PySem.Spec L2 DL Wm
theorem go_seq {a b : DS} {N : DN} {ρ : DR} {M : DM} (h : ∀ k : DS, k = b → a { N with nx := fun ρ M => k N ρ M } ρ M) : dSeq a b N ρ M := h b rfl
theorem atI_0 {α : Type} {x : α} {xs : List α} : atI (x :: xs) 0 = some x := atI_nat (j := 0) rfl
theorem atI_1 {α : Type} {x y : α} {xs : List α} : atI (x :: y :: xs) 1 = some y := atI_nat (j := 1) rfl
theorem atI_2 {α : Type} {x y z : α} {xs : List α} : atI (x :: y :: z :: xs) 2 = some z := atI_nat (j := 2) rfl
theorem atI_3 {α : Type} {x y z u : α} {xs : List α} : atI (x :: y :: z :: u :: xs) 3 = some u := atI_nat (j := 3) rfl
theorem ixN30 : ixN 3 0 = some 0 := rfl
theorem ixN31 : ixN 3 1 = some 1 := rfl
theorem ixN32 : ixN 3 2 = some 2 := rfl
/-! ### comprehensions that change nothing -/
theorem dCL_map {α : Type} {bind : D → DR → DM → (DR → Prop) → Prop} {t : DT} {de : DE} {chk : DM → Prop} {ρw : DR} {M : DM} {Q : DK} (e h : α → D) (hc : chk M) : ∀ (xs : List α) (acc : List D), (∀ x ∈ xs, noL (h x) = true) →
    (∀ x ∈ xs, ∀ (A : D → DM → Prop) (B : DM → Prop), A (h x) M → bind (e x) ρw M fun ρ1 => t ρ1 M (fun b M2 => if b = true then de ρ1 M2 A X0 else B M2) X0) →
    Q (.lst (acc ++ xs.map h)) M → dCL bind t de chk ρw (xs.map e) acc M Q
  | [], acc, _, _, q => by
    rw [List.map_nil, List.append_nil] at q
    exact ⟨hc, q⟩
  | x :: xs, acc, hn, hs, q => by
    refine ⟨hc, hs x List.mem_cons_self _ _ ⟨hn x List.mem_cons_self, ?_⟩⟩
    refine dCL_map e h hc xs (acc ++ [h x]) (fun y hy => hn y (List.mem_cons_of_mem _ hy)) (fun y hy => hs y (List.mem_cons_of_mem _ hy)) ?_
    rw [List.append_assoc]
    exact q
theorem r1_lit {n : Int} {ρ : DR} {M : DM} {Q : List D → (DM → Prop) → DM → Prop} {Xd : DX} : diR1 (dCons (dC (.int n)) dNil) ρ M Q Xd = (-(2 ^ 62) ≤ n ∧ n < 2 ^ 62 ∧ Q (rangeD 0 n.toNat) (fun _ => True) M) := rfl
/-! ### with_sign -/
def sg (ns : List Int) : List Int → List Int
  | [] => ns
  | n :: r => if n = 0 then sg ns r else if n < 0 then ns.map (-·) else ns
theorem sg_pre : ∀ (suf pre : List Int), (∀ n ∈ pre, n = 0) → sg (pre ++ suf) suf = pre ++ signed suf
  | [], pre, _ => rfl
  | n :: r, pre, h => by
    unfold sg signed
    by_cases z : n = 0
    · rw [if_pos z, if_pos z]
      have q := sg_pre r (pre ++ [n]) (fun m hm => by
        rcases List.mem_append.mp hm with e | e
        · exact h m e
        · rw [List.mem_singleton.mp e]; exact z)
      rw [List.append_assoc, List.append_assoc] at q
      rw [z] at q
      rw [z]
      exact q
    · rw [if_neg z, if_neg z]
      by_cases c : n < 0
      · rw [if_pos c, if_pos c, List.map_append]
        congr 1
        have : pre.map (-·) = pre := by
          rw [List.map_eq_iff]
          intro i
          cases e : pre[i]? with
          | none => rfl
          | some m =>
            have : m = 0 := h m (List.mem_of_getElem? e)
            subst this
            rfl
        exact this
      · rw [if_neg c, if_neg c]
theorem sg_all (ns : List Int) : sg ns ns = signed ns := sg_pre ns [] (fun _ h => nomatch h)
def intsD (ns : List Int) : D := .tup (ns.map D.int)
def sp_with_sign : DSp := fun as M Q _ => ∃ ns : List Int, as = [intsD ns] ∧ ns.length ≤ 1000 ∧ Q (intsD (signed ns)) M
def d_with_sign : DS :=
  (dSeq (dFor (diSq (dVar 0)) (hName 1) (dIfS (dTest (dOp neF (dVar 1) (dC (.int 0)))) (dRet (dIf (dTest (dOp ltF (dVar 1) (dC (.int 0)))) (dCall tupleF (dCons (dComp (diSq (dVar 0)) (bName 2) dYes (dUn negF (dVar 2)) [2]) dNil)) (dCall tupleF (dCons (dVar 0) dNil)))) dNext))
  (dRet (dCall tupleF (dCons (dVar 0) dNil))))
theorem b_with_sign {as : List D} {M : DM} {Qd : DK} {Xd : DX} (hl : as.length = 1) (h : sp_with_sign as M Qd Xd) : d_with_sign (endsD Qd Xd) (startD 3 as) M := by
  obtain ⟨ns, rfl, hn, q⟩ := h
  rw [← sg_all] at q
  have key : ∀ (suf : List Int) (o : Option D), Qd (intsD (sg ns suf)) M → dLoop (hName 1) (dIfS (dTest (dOp neF (dVar 1) (dC (.int 0)))) (dRet (dIf (dTest (dOp ltF (dVar 1) (dC (.int 0)))) (dCall tupleF (dCons (dComp (diSq (dVar 0)) (bName 2) dYes (dUn negF (dVar 2)) [2]) dNil)) (dCall tupleF (dCons (dVar 0) dNil)))) dNext)
      (fun _ => True) { endsD Qd Xd with nx := fun ρ M => dRet (dCall tupleF (dCons (dVar 0) dNil)) (endsD Qd Xd) ρ M } (suf.map D.int) [some (intsD ns), o, none] M := by
    intro suf
    induction suf with
    | nil =>
      intro o q
      simp only [List.map_nil, dLoop, intsD, dSeq, dSet, dAsg, dPar, dAug, dRet, dRetN, dDrop, dIfS, dNext, dNever, dBreak, dCont, dFor, diSq, diR1, diR2, items, onI1, onI2, dVar, dC, dOp, dUn, dTest, onB, dAnd, dOr, dNot, dAndV, dOrV, dNotV, dIf, dNil, dCons, dTup, dLst, dLstM, dCall, dFn, hName, hNil, hCons, hSeq, hSub, setF, onSeq, seqD, dSl, doNo, doAt, onI, slF, lstV, lstM, on2, addF, mulF, iF, CT, negF, cmpF, id, ixF, onO, lenF, absF, maxF, minF, tupleF, listF, listFM, reprF, on1, dDictIx, dPairs, onS, lastD, dComp, bName, bSeq, bNames, dYes, wipeD, subF, fdivF, modF, powF, ltF, leF, gtF, geF, eqF, neF, endsD, atI_0, atI_1, atI_2, atI_3, ixN31, ixN32, ixN30, startD, List.map_cons, List.map_nil, List.length_cons, List.length_nil, List.cons_append, List.nil_append, Nat.reduceAdd, Nat.reduceSub, List.replicate, List.getElem?_cons_zero, List.getElem?_cons_succ, List.set_cons_zero, List.set_cons_succ, List.set_nil, true_and, and_true, if_true, ite_true]
      exact rtD.of q
    | cons n r ih =>
      intro o q
      unfold sg at q
      rw [List.map_cons]
      refine ⟨trivial, ?_⟩
      simp only [intsD, dSeq, dSet, dAsg, dPar, dAug, dRet, dRetN, dDrop, dIfS, dNext, dNever, dBreak, dCont, dFor, diSq, diR1, diR2, items, onI1, onI2, dVar, dC, dOp, dUn, dTest, onB, dAnd, dOr, dNot, dAndV, dOrV, dNotV, dIf, dNil, dCons, dTup, dLst, dLstM, dCall, dFn, hName, hNil, hCons, hSeq, hSub, setF, onSeq, seqD, dSl, doNo, doAt, onI, slF, lstV, lstM, on2, addF, mulF, iF, CT, negF, cmpF, id, ixF, onO, lenF, absF, maxF, minF, tupleF, listF, listFM, reprF, on1, dDictIx, dPairs, onS, lastD, dComp, bName, bSeq, bNames, dYes, wipeD, subF, fdivF, modF, powF, ltF, leF, gtF, geF, eqF, neF, endsD, atI_0, atI_1, atI_2, atI_3, ixN31, ixN32, ixN30, startD, List.map_cons, List.map_nil, List.length_cons, List.length_nil, List.cons_append, List.nil_append, Nat.reduceAdd, Nat.reduceSub, List.replicate, List.getElem?_cons_zero, List.getElem?_cons_succ, List.set_cons_zero, List.set_cons_succ, List.set_nil, true_and, and_true, if_true, ite_true]
      by_cases z : n = 0
      · rw [if_pos z] at q
        rw [if_neg (by simp [z])]
        exact ih _ q
      · rw [if_neg z] at q
        rw [if_pos (by simp [z])]
        by_cases c : n < 0
        · rw [if_pos c] at q
          rw [if_pos (by simpa using c)]
          refine ⟨by rw [List.length_map]; exact Nat.le_trans hn (by decide), ?_⟩
          refine dCL_map D.int (fun n => D.int (-n)) trivial ns [] (fun _ _ => by simp [noL]) (fun x _ A B hA => ?_) ?_
          · simp only [dSeq, dSet, dAsg, dPar, dAug, dRet, dRetN, dDrop, dIfS, dNext, dNever, dBreak, dCont, dFor, diSq, diR1, diR2, items, onI1, onI2, dVar, dC, dOp, dUn, dTest, onB, dAnd, dOr, dNot, dAndV, dOrV, dNotV, dIf, dNil, dCons, dTup, dLst, dLstM, dCall, dFn, hName, hNil, hCons, hSeq, hSub, setF, onSeq, seqD, dSl, doNo, doAt, onI, slF, lstV, lstM, on2, addF, mulF, iF, CT, negF, cmpF, id, ixF, onO, lenF, absF, maxF, minF, tupleF, listF, listFM, reprF, on1, dDictIx, dPairs, onS, lastD, dComp, bName, bSeq, bNames, dYes, wipeD, subF, fdivF, modF, powF, ltF, leF, gtF, geF, eqF, neF, endsD, atI_0, atI_1, atI_2, atI_3, ixN31, ixN32, ixN30, startD, List.map_cons, List.map_nil, List.length_cons, List.length_nil, List.cons_append, List.nil_append, Nat.reduceAdd, Nat.reduceSub, List.replicate, List.getElem?_cons_zero, List.getElem?_cons_succ, List.set_cons_zero, List.set_cons_succ, List.set_nil, true_and, and_true, if_true, ite_true]
            exact hA
          · rw [List.nil_append]
            refine rtD.of ?_
            have e : ns.map (fun n => D.int (-n)) = (ns.map (-·)).map D.int := by rw [List.map_map]; rfl
            rw [e]
            exact q
        · rw [if_neg c] at q
          rw [if_neg (by simpa using c)]
          exact rtD.of q
  have := key ns none q
  simp only [d_with_sign, intsD, dSeq, dFor, diSq, dVar, items, atI_0, atI_1, atI_2, atI_3, ixN31, ixN32, ixN30, startD, List.map_cons, List.map_nil, List.length_cons, List.length_nil, List.cons_append, List.nil_append, Nat.reduceAdd, Nat.reduceSub, List.replicate, List.getElem?_cons_zero, List.getElem?_cons_succ, List.set_cons_zero, List.set_cons_succ, List.set_nil, true_and, and_true, if_true, ite_true]
  exact this
end DP

set_option Elab.async false
set_option linter.all false
set_option maxRecDepth 100000
set_option maxHeartbeats 4000000
namespace DP
open PySem PySem.Spec L2 DL Wm
def mvD (m : Mv) : D := intsD m.l
theorem mulC_of {x y : Int} {j k : Nat} (hx : x.natAbs ≤ 2 ^ j) (hy : y.natAbs ≤ 2 ^ k) (h : j + k ≤ 900000) : MulC x y := by
  refine .inr (wide_mul (a := j + 1) (b := k + 1) ?_ ?_ (by omega) (by omega) (by omega))
  · rw [Nat.pow_succ]; have := Nat.two_pow_pos j; omega
  · rw [Nat.pow_succ]; have := Nat.two_pow_pos k; omega
def sp_product : DSp := fun as M Q _ => ∃ (m n : Mv) (j k : Nat), as = [mvD m, mvD n] ∧ Bn j m ∧ Bn k n ∧ j + k ≤ 900000 ∧ Q (mvD (sgn (mul m n))) M
def d_product (c_with_sign : DSp) : DS :=
  (dSeq (dAsg (dVar 0) (hSeq 4 (hCons (hName 2) (hCons (hName 3) (hCons (hName 4) (hCons (hName 5) hNil))))))
  (dSeq (dAsg (dVar 1) (hSeq 4 (hCons (hName 6) (hCons (hName 7) (hCons (hName 8) (hCons (hName 9) hNil))))))
  (dRet (dFn c_with_sign 1 (dCons (dTup (dCons (dOp addF (dOp mulF (dVar 6) (dVar 2)) (dOp mulF (dVar 7) (dVar 4))) (dCons (dOp addF (dOp mulF (dVar 6) (dVar 3)) (dOp mulF (dVar 7) (dVar 5))) (dCons (dOp addF (dOp mulF (dVar 8) (dVar 2)) (dOp mulF (dVar 9) (dVar 4))) (dCons (dOp addF (dOp mulF (dVar 8) (dVar 3)) (dOp mulF (dVar 9) (dVar 5))) dNil))))) dNil)))))
theorem sgn_of {m : Mv} {Qd : DK} {M : DM} (q : Qd (mvD (sgn m)) M) : Qd (intsD (signed m.l)) M := by
  rw [signed_eq]
  exact q
theorem four (m : Mv) : (4 : Nat) ≤ sizeLine := by decide
theorem b_product {as : List D} {M : DM} {Qd : DK} {Xd : DX} (hl : as.length = 2) (h : sp_product as M Qd Xd) : d_product sp_with_sign (endsD Qd Xd) (startD 10 as) M := by
  obtain ⟨m, n, j, k, rfl, ⟨m1, m2, m3, m4⟩, ⟨n1, n2, n3, n4⟩, hjk, q⟩ := h
  have c : ∀ {x y : Int}, x.natAbs ≤ 2 ^ k → y.natAbs ≤ 2 ^ j → MulC x y := fun hx hy => mulC_of hx hy (by omega)
  simp only [d_product, mvD, intsD, Mv.l, dSeq, dSet, dAsg, dPar, dAug, dRet, dRetN, dDrop, dIfS, dNext, dNever, dBreak, dCont, dFor, diSq, diR1, diR2, items, onI1, onI2, dVar, dC, dOp, dUn, dTest, onB, dAnd, dOr, dNot, dAndV, dOrV, dNotV, dIf, dNil, dCons, dTup, dLst, dLstM, dCall, dFn, hName, hNil, hCons, hSeq, hSub, setF, onSeq, seqD, dSl, doNo, doAt, onI, slF, lstV, lstM, on2, addF, mulF, iF, CT, negF, cmpF, id, ixF, onO, lenF, absF, maxF, minF, tupleF, listF, listFM, reprF, on1, dDictIx, dPairs, onS, lastD, dComp, bName, bSeq, bNames, dYes, wipeD, subF, fdivF, modF, powF, ltF, leF, gtF, geF, eqF, neF, endsD, atI_0, atI_1, atI_2, atI_3, ixN31, ixN32, ixN30, startD, List.map_cons, List.map_nil, List.length_cons, List.length_nil, List.cons_append, List.nil_append, Nat.reduceAdd, Nat.reduceSub, List.replicate, List.getElem?_cons_zero, List.getElem?_cons_succ, List.set_cons_zero, List.set_cons_succ, List.set_nil, true_and, and_true, if_true, ite_true]
  exact ⟨c n1 m1, c n2 m3, c n1 m2, c n2 m4, c n3 m1, c n4 m3, c n3 m2, c n4 m4, by decide, (mul m n).l, rfl, by simp [Mv.l], rtD.of (sgn_of q)⟩
def sp_inverse_move : DSp := fun as M Q _ => ∃ m : Mv, as = [mvD m] ∧ Q (mvD (sgn (inv m))) M
def d_inverse_move (c_with_sign : DSp) : DS :=
  (dSeq (dAsg (dVar 0) (hSeq 4 (hCons (hName 1) (hCons (hName 2) (hCons (hName 3) (hCons (hName 4) hNil))))))
  (dRet (dFn c_with_sign 1 (dCons (dTup (dCons (dVar 4) (dCons (dUn negF (dVar 2)) (dCons (dUn negF (dVar 3)) (dCons (dVar 1) dNil))))) dNil))))
theorem b_inverse_move {as : List D} {M : DM} {Qd : DK} {Xd : DX} (hl : as.length = 1) (h : sp_inverse_move as M Qd Xd) : d_inverse_move sp_with_sign (endsD Qd Xd) (startD 5 as) M := by
  obtain ⟨m, rfl, q⟩ := h
  simp only [d_inverse_move, mvD, intsD, Mv.l, dSeq, dSet, dAsg, dPar, dAug, dRet, dRetN, dDrop, dIfS, dNext, dNever, dBreak, dCont, dFor, diSq, diR1, diR2, items, onI1, onI2, dVar, dC, dOp, dUn, dTest, onB, dAnd, dOr, dNot, dAndV, dOrV, dNotV, dIf, dNil, dCons, dTup, dLst, dLstM, dCall, dFn, hName, hNil, hCons, hSeq, hSub, setF, onSeq, seqD, dSl, doNo, doAt, onI, slF, lstV, lstM, on2, addF, mulF, iF, CT, negF, cmpF, id, ixF, onO, lenF, absF, maxF, minF, tupleF, listF, listFM, reprF, on1, dDictIx, dPairs, onS, lastD, dComp, bName, bSeq, bNames, dYes, wipeD, subF, fdivF, modF, powF, ltF, leF, gtF, geF, eqF, neF, endsD, atI_0, atI_1, atI_2, atI_3, ixN31, ixN32, ixN30, startD, List.map_cons, List.map_nil, List.length_cons, List.length_nil, List.cons_append, List.nil_append, Nat.reduceAdd, Nat.reduceSub, List.replicate, List.getElem?_cons_zero, List.getElem?_cons_succ, List.set_cons_zero, List.set_cons_succ, List.set_nil, true_and, and_true, if_true, ite_true]
  exact ⟨by decide, (inv m).l, rfl, by simp [Mv.l], rtD.of (sgn_of q)⟩
/-! ### the pen of the laws -/
def penO (l : Addr) (at_ bits : Int) : MO := .lst [.ref l, .int at_, .int bits]
def Pen (M : DM) (p : Addr) : Prop := ∃ (l : Addr) (cs : List Int) (at_ bits : Int), M p = some (penO l at_ bits) ∧ M l = some (.lst (cs.map D.int)) ∧ l ≠ p
/-- only the pen has moved on -/
structure PenTo (M M' : DM) (p : Addr) : Prop where
  pen : Pen M' p
  rest : ∀ a, a ≠ p → M' a = M a
  own : ∀ l a b, M p = some (penO l a b) → ∃ a' b', M' p = some (penO l a' b')
theorem PenTo.refl {M : DM} {p : Addr} (h : Pen M p) : PenTo M M p := ⟨h, fun _ _ => rfl, fun l a b e => ⟨a, b, e⟩⟩
theorem PenTo.trans {M M' M2 : DM} {p : Addr} (h : PenTo M M' p) (h' : PenTo M' M2 p) : PenTo M M2 p := ⟨h'.pen, fun a ha => (h'.rest a ha).trans (h.rest a ha), fun l a b e => by
  obtain ⟨a', b', e'⟩ := h.own l a b e
  exact h'.own l a' b' e'⟩
theorem pen_put {M : DM} {p l : Addr} {cs : List Int} {a0 b0 a b : Int} (hp : M p = some (penO l a0 b0)) (h : M l = some (.lst (cs.map D.int))) (ne : l ≠ p) : PenTo M (put M p (penO l a b)) p :=
  ⟨⟨l, cs, a, b, put_same, by rw [put_ne ne]; exact h, ne⟩, fun c hc => put_ne hc, fun l2 a2 b2 e => by
    rw [hp] at e
    have e2 : l = l2 := by simp only [penO, Option.some.injEq, MO.lst.injEq, List.cons.injEq, D.ref.injEq] at e; exact e.1
    subst e2
    exact ⟨a, b, put_same⟩⟩
def sp_law_pen : DSp := fun as M Q _ => ∃ ns : List Int, as = [.seq (ns.map D.int)] ∧ ∀ p M', Pen M' p → (∀ a o, M a = some o → M' a = some o) → Q (.ref p) M'
def d_law_pen : DS :=
  (dRet (dLstM (dCons (dCall listFM (dCons (dSl (dVar 0) doNo (doAt (dC (.int 63)))) dNil)) (dCons (dC (.int 0)) (dCons (dC (.int 0)) dNil)))))
theorem cutD_map {α : Type} (f : α → D) (xs : List α) (lo hi : Option Int) : ∃ ys : List α, cutD (xs.map f) lo hi = ys.map f := by
  unfold cutD
  rw [← List.map_drop, ← List.map_take]
  exact ⟨_, rfl⟩
theorem b_law_pen {as : List D} {M : DM} {Qd : DK} {Xd : DX} (hl : as.length = 1) (h : sp_law_pen as M Qd Xd) : d_law_pen (endsD Qd Xd) (startD 1 as) M := by
  obtain ⟨ns, rfl, q⟩ := h
  simp only [d_law_pen, dSeq, dSet, dAsg, dPar, dAug, dRet, dRetN, dDrop, dIfS, dNext, dNever, dBreak, dCont, dFor, diSq, diR1, diR2, items, onI1, onI2, dVar, dC, dOp, dUn, dTest, onB, dAnd, dOr, dNot, dAndV, dOrV, dNotV, dIf, dNil, dCons, dTup, dLst, dLstM, dCall, dFn, hName, hNil, hCons, hSeq, hSub, setF, onSeq, seqD, dSl, doNo, doAt, onI, slF, lstV, lstM, on2, addF, mulF, iF, CT, negF, cmpF, id, ixF, onO, lenF, absF, maxF, minF, tupleF, listF, listFM, reprF, on1, dDictIx, dPairs, onS, lastD, dComp, bName, bSeq, bNames, dYes, wipeD, subF, fdivF, modF, powF, ltF, leF, gtF, geF, eqF, neF, endsD, atI_0, atI_1, atI_2, atI_3, ixN31, ixN32, ixN30, startD, List.map_cons, List.map_nil, List.length_cons, List.length_nil, List.cons_append, List.nil_append, Nat.reduceAdd, Nat.reduceSub, List.replicate, List.getElem?_cons_zero, List.getElem?_cons_succ, List.set_cons_zero, List.set_cons_succ, List.set_nil, true_and, and_true, if_true, ite_true]
  obtain ⟨cs, e⟩ := cutD_map D.int ns none (some 63)
  rw [e]
  refine ⟨noLs_ints, fun l hl => ⟨by decide, by simp [noLs, noL], fun p hp => rtD.of (q p _ ?_ ?_)⟩⟩
  · have ne : l ≠ p := fun z => by
      subst z
      rw [put_same] at hp
      cases hp
    exact ⟨l, cs, 0, 0, put_same, by rw [put_ne ne, put_same], ne⟩
  · intro a o ha
    have n1 : a ≠ l := fun z => by subst z; rw [hl] at ha; cases ha
    have n2 : a ≠ p := fun z => by subst z; rw [put_ne n1] at hp; rw [hp] at ha; cases ha
    rw [put_ne n2, put_ne n1]
    exact ha
theorem dLoop_inv {g : DG} {b : DS} {N : DN} (I : List D → DR → DM → Prop) (done : ∀ ρ M, I [] ρ M → N.nx ρ M)
    (step : ∀ d r ρ M, I (d :: r) ρ M → ∀ nx : DR → DM → Prop, (∀ ρ M, I r ρ M → nx ρ M) → g d ρ M (fun ρ1 M1 => b { N with nx := nx, ct := nx, bk := N.nx } ρ1 M1) N.ex) : ∀ ds ρ M, I ds ρ M → dLoop g b (fun _ => True) N ds ρ M
  | [], ρ, M, h => ⟨trivial, done ρ M h⟩
  | d :: ds, ρ, M, h => ⟨trivial, step d ds ρ M h _ fun ρ' M' h' => dLoop_inv I done step ds ρ' M' h'⟩
theorem pyOfs_ints : ∀ cs : List Int, pyOfs (cs.map D.int) = some (cs.map PyData.int)
  | [] => by simp [pyOfs]
  | c :: cs => by simp [pyOfs, pyOf, pyOfs_ints cs]
theorem lay_ints : ∀ cs : List Int, PyData.canLayAll0 (cs.map PyData.int) = true
  | [] => by simp [PyData.canLayAll0]
  | c :: cs => by simp [PyData.canLayAll0, PyData.canLay0, lay_ints cs]
theorem depth_ints : ∀ cs : List Int, PyData.depthAll (cs.map PyData.int) ≤ 1
  | [] => by simp [PyData.depthAll]
  | c :: cs => by
    have := depth_ints cs
    simp [PyData.depthAll, PyData.depth]
    omega
theorem shaped_ints (cs : List Int) : SeqAt.shaped (.list (cs.map PyData.int)) = true ∧ SeqAt.shaped (.tuple (cs.map PyData.int)) = true := by
  have h1 := lay_ints cs
  have h2 := depth_ints cs
  unfold SeqAt.shaped
  simp [PyData.canLay0, PyData.depth, h1]
  omega
theorem cmp_ints_nil {f : Bool → Bool} {M : DM} {l : Addr} {cs : List Int} {Q : DK} (h : M l = some (.lst (cs.map D.int))) (q : Q (.bl (f (decide (cs = [])))) M) : cmpF f (.ref l) (.lst []) M Q := by
  have e : PyData.eqv (.list (cs.map PyData.int)) (.list []) = decide (cs = []) := by
    cases cs <;> simp [PyData.eqv, PyData.eqvAll]
  simp only [cmpF, pyM, h, pyOfs_ints, pyOf, pyOfs, Option.map_some, onP, e]
  exact ⟨(shaped_ints cs).1, (shaped_ints []).1, q⟩
theorem atI_lt {α : Type} {xs : List α} {i : Int} (h0 : 0 ≤ i) (h : i < xs.length) : ∃ x, atI xs i = some x ∧ x ∈ xs := by
  obtain ⟨n, rfl⟩ := Int.eq_ofNat_of_zero_le h0
  have hn : n < xs.length := by exact Int.ofNat_lt.mp h
  exact ⟨xs[n], atI_nat (List.getElem?_eq_getElem hn), List.getElem_mem hn⟩
def sp_law_fresh : DSp := fun as M Q _ => ∃ p, as = [.ref p] ∧ Pen M p ∧ ∀ v M', PenTo M M' p → Q (.int v) M'
def d_law_fresh : DS :=
  (dSeq (dSet (dOp ixF (dVar 0) (dC (.int 1))) 1)
  (dSeq (dAsg (dOp addF (dVar 1) (dC (.int 1))) (hSub (dVar 0) (dC (.int 1)) setF))
  (dSeq (dSet (dC (.int 0)) 2)
  (dSeq (dIfS (dTest (dOp neF (dOp ixF (dVar 0) (dC (.int 0))) (dLst dNil))) (dSet (dOp ixF (dOp ixF (dVar 0) (dC (.int 0))) (dOp modF (dVar 1) (dCall lenF (dCons (dOp ixF (dVar 0) (dC (.int 0))) dNil)))) 2) dNext)
  (dSeq (dIfS (dAnd (dTest (dOp ltF (dVar 1) (dCall lenF (dCons (dOp ixF (dVar 0) (dC (.int 0))) dNil)))) (dTest (dOp geF (dVar 2) (dOp powF (dC (.int 10)) (dC (.int 18)))))) (dRet (dOp subF (dVar 2) (dOp powF (dC (.int 10)) (dC (.int 18))))) dNext)
  (dSeq (dSet (dC (.int 2305843009213693951)) 3)
  (dSeq (dSet (dOp modF (dOp addF (dOp addF (dOp mulF (dVar 2) (dC (.int 48271))) (dOp mulF (dC (.int 40692)) (dVar 1))) (dC (.int 31))) (dVar 3)) 4)
  (dSeq (dSet (dVar 4) 5)
  (dSeq (dFor (diR1 (dCons (dC (.int 6)) dNil)) (hName 6) (dSeq (dSet (dOp modF (dOp addF (dOp addF (dOp mulF (dVar 4) (dVar 4)) (dOp mulF (dOp mulF (dC (.int 69621)) (dOp addF (dVar 6) (dC (.int 1)))) (dOp addF (dVar 1) (dC (.int 1))))) (dVar 2)) (dVar 3)) 4)
  (dSet (dOp addF (dOp mulF (dVar 5) (dVar 3)) (dVar 4)) 5)))
  (dRet (dVar 5)))))))))))
theorem b_law_fresh {as : List D} {M : DM} {Qd : DK} {Xd : DX} (hl : as.length = 1) (h : sp_law_fresh as M Qd Xd) : d_law_fresh (endsD Qd Xd) (startD 7 as) M := by
  obtain ⟨p, rfl, ⟨l, cs, a, b, hp, hc, ne⟩, q⟩ := h
  unfold d_law_fresh
  simp only [startD, atI_0, atI_1, atI_2, atI_3, ixN31, ixN32, ixN30, startD, List.map_cons, List.map_nil, List.length_cons, List.length_nil, List.cons_append, List.nil_append, Nat.reduceAdd, Nat.reduceSub, List.replicate, List.getElem?_cons_zero, List.getElem?_cons_succ, List.set_cons_zero, List.set_cons_succ, List.set_nil, true_and, and_true, if_true, ite_true]
  refine go_seq fun k hk => ?_; simp only [penO, hp, dSet, dAsg, dPar, dAug, dRet, dRetN, dDrop, dNext, dNever, dBreak, dCont, diSq, diR1, diR2, items, onI1, onI2, dVar, dC, dOp, dUn, dTest, onB, dAnd, dOr, dNot, dAndV, dOrV, dNotV, dIf, dNil, dCons, dTup, dLst, dLstM, dCall, dFn, hName, hNil, hCons, hSeq, hSub, setF, onSeq, seqD, dSl, doNo, doAt, onI, slF, lstV, lstM, on2, addF, mulF, iF, CT, negF, cmpF, id, ixF, onO, lenF, absF, maxF, minF, tupleF, listF, listFM, reprF, on1, dDictIx, dPairs, onS, lastD, dComp, bName, bSeq, bNames, dYes, wipeD, subF, fdivF, modF, powF, ltF, leF, gtF, geF, eqF, neF, endsD, atI_0, atI_1, atI_2, atI_3, ixN31, ixN32, ixN30, startD, List.map_cons, List.map_nil, List.length_cons, List.length_nil, List.cons_append, List.nil_append, Nat.reduceAdd, Nat.reduceSub, List.replicate, List.getElem?_cons_zero, List.getElem?_cons_succ, List.set_cons_zero, List.set_cons_succ, List.set_nil, true_and, and_true, if_true, ite_true]; subst hk
  refine go_seq fun k hk => ?_; simp only [penO, hp, noL, dSet, dAsg, dPar, dAug, dRet, dRetN, dDrop, dNext, dNever, dBreak, dCont, diSq, diR1, diR2, items, onI1, onI2, dVar, dC, dOp, dUn, dTest, onB, dAnd, dOr, dNot, dAndV, dOrV, dNotV, dIf, dNil, dCons, dTup, dLst, dLstM, dCall, dFn, hName, hNil, hCons, hSeq, hSub, setF, onSeq, seqD, dSl, doNo, doAt, onI, slF, lstV, lstM, on2, addF, mulF, iF, CT, negF, cmpF, id, ixF, onO, lenF, absF, maxF, minF, tupleF, listF, listFM, reprF, on1, dDictIx, dPairs, onS, lastD, dComp, bName, bSeq, bNames, dYes, wipeD, subF, fdivF, modF, powF, ltF, leF, gtF, geF, eqF, neF, endsD, atI_0, atI_1, atI_2, atI_3, ixN31, ixN32, ixN30, startD, List.map_cons, List.map_nil, List.length_cons, List.length_nil, List.cons_append, List.nil_append, Nat.reduceAdd, Nat.reduceSub, List.replicate, List.getElem?_cons_zero, List.getElem?_cons_succ, List.set_cons_zero, List.set_cons_succ, List.set_nil, true_and, and_true, if_true, ite_true]; subst hk
  have t1 : PenTo M (put M p (penO l (a + 1) b)) p := pen_put hp hc ne
  have hp1 : put M p (penO l (a + 1) b) p = some (penO l (a + 1) b) := put_same
  have hc1 : put M p (penO l (a + 1) b) l = some (.lst (cs.map D.int)) := by rw [put_ne ne]; exact hc
  change dSeq _ _ _ _ (put M p (penO l (a + 1) b))
  generalize put M p (penO l (a + 1) b) = M1 at t1 hp1 hc1
  unfold penO at hp1
  refine go_seq fun k hk => ?_; simp only [dSet, dAsg, dPar, dAug, dRet, dRetN, dDrop, dNext, dNever, dBreak, dCont, diSq, diR1, diR2, items, onI1, onI2, dVar, dC, dOp, dUn, dTest, onB, dAnd, dOr, dNot, dAndV, dOrV, dNotV, dIf, dNil, dCons, dTup, dLst, dLstM, dCall, dFn, hName, hNil, hCons, hSeq, hSub, setF, onSeq, seqD, dSl, doNo, doAt, onI, slF, lstV, lstM, on2, addF, mulF, iF, CT, negF, cmpF, id, ixF, onO, lenF, absF, maxF, minF, tupleF, listF, listFM, reprF, on1, dDictIx, dPairs, onS, lastD, dComp, bName, bSeq, bNames, dYes, wipeD, subF, fdivF, modF, powF, ltF, leF, gtF, geF, eqF, neF, endsD]; subst hk
  refine go_seq fun k hk => ?_
  have rest : ∀ (c : Int), k { endsD Qd Xd with nx := (endsD Qd Xd).nx } [some (.ref p), some (.int a), some (.int c), none, none, none, none] M1 := by
    intro c
    subst hk
    refine go_seq fun k hk => ?_
    have rest2 : k (endsD Qd Xd) [some (.ref p), some (.int a), some (.int c), none, none, none, none] M1 := by
      subst hk
      refine go_seq fun k hk => ?_; simp only [dSet, dAsg, dPar, dAug, dRet, dRetN, dDrop, dNext, dNever, dBreak, dCont, diSq, diR1, diR2, items, onI1, onI2, dVar, dC, dOp, dUn, dTest, onB, dAnd, dOr, dNot, dAndV, dOrV, dNotV, dIf, dNil, dCons, dTup, dLst, dLstM, dCall, dFn, hName, hNil, hCons, hSeq, hSub, setF, onSeq, seqD, dSl, doNo, doAt, onI, slF, lstV, lstM, on2, addF, mulF, iF, CT, negF, cmpF, id, ixF, onO, lenF, absF, maxF, minF, tupleF, listF, listFM, reprF, on1, dDictIx, dPairs, onS, lastD, dComp, bName, bSeq, bNames, dYes, wipeD, subF, fdivF, modF, powF, ltF, leF, gtF, geF, eqF, neF, endsD, atI_0, atI_1, atI_2, atI_3, ixN31, ixN32, ixN30, startD, List.map_cons, List.map_nil, List.length_cons, List.length_nil, List.cons_append, List.nil_append, Nat.reduceAdd, Nat.reduceSub, List.replicate, List.getElem?_cons_zero, List.getElem?_cons_succ, List.set_cons_zero, List.set_cons_succ, List.set_nil, true_and, and_true, if_true, ite_true]; subst hk
      refine go_seq fun k hk => ?_; simp only [dSet, dAsg, dPar, dAug, dRet, dRetN, dDrop, dNext, dNever, dBreak, dCont, diSq, diR1, diR2, items, onI1, onI2, dVar, dC, dOp, dUn, dTest, onB, dAnd, dOr, dNot, dAndV, dOrV, dNotV, dIf, dNil, dCons, dTup, dLst, dLstM, dCall, dFn, hName, hNil, hCons, hSeq, hSub, setF, onSeq, seqD, dSl, doNo, doAt, onI, slF, lstV, lstM, on2, addF, mulF, iF, CT, negF, cmpF, id, ixF, onO, lenF, absF, maxF, minF, tupleF, listF, listFM, reprF, on1, dDictIx, dPairs, onS, lastD, dComp, bName, bSeq, bNames, dYes, wipeD, subF, fdivF, modF, powF, ltF, leF, gtF, geF, eqF, neF, endsD, atI_0, atI_1, atI_2, atI_3, ixN31, ixN32, ixN30, startD, List.map_cons, List.map_nil, List.length_cons, List.length_nil, List.cons_append, List.nil_append, Nat.reduceAdd, Nat.reduceSub, List.replicate, List.getElem?_cons_zero, List.getElem?_cons_succ, List.set_cons_zero, List.set_cons_succ, List.set_nil, true_and, and_true, if_true, ite_true]; subst hk
      refine ⟨.inl (.inr ⟨by decide, by decide⟩), .inl (.inl ⟨by decide, by decide⟩), by decide, ?_⟩
      generalize he : (c * 48271 + 40692 * a + 31) % 2305843009213693951 = st
      have h1 : 0 ≤ st := by omega
      have h2 : st < 2305843009213693951 := by omega
      refine go_seq fun k hk => ?_; simp only [dSet, dAsg, dPar, dAug, dRet, dRetN, dDrop, dNext, dNever, dBreak, dCont, diSq, diR1, diR2, items, onI1, onI2, dVar, dC, dOp, dUn, dTest, onB, dAnd, dOr, dNot, dAndV, dOrV, dNotV, dIf, dNil, dCons, dTup, dLst, dLstM, dCall, dFn, hName, hNil, hCons, hSeq, hSub, setF, onSeq, seqD, dSl, doNo, doAt, onI, slF, lstV, lstM, on2, addF, mulF, iF, CT, negF, cmpF, id, ixF, onO, lenF, absF, maxF, minF, tupleF, listF, listFM, reprF, on1, dDictIx, dPairs, onS, lastD, dComp, bName, bSeq, bNames, dYes, wipeD, subF, fdivF, modF, powF, ltF, leF, gtF, geF, eqF, neF, endsD, atI_0, atI_1, atI_2, atI_3, ixN31, ixN32, ixN30, startD, List.map_cons, List.map_nil, List.length_cons, List.length_nil, List.cons_append, List.nil_append, Nat.reduceAdd, Nat.reduceSub, List.replicate, List.getElem?_cons_zero, List.getElem?_cons_succ, List.set_cons_zero, List.set_cons_succ, List.set_nil, true_and, and_true, if_true, ite_true]; subst hk
      refine go_seq fun k hk => ?_; simp only [dFor, diR1, onI1, dSet, dAsg, dPar, dAug, dRet, dRetN, dDrop, dNext, dNever, dBreak, dCont, diSq, diR1, diR2, items, onI1, onI2, dVar, dC, dOp, dUn, dTest, onB, dAnd, dOr, dNot, dAndV, dOrV, dNotV, dIf, dNil, dCons, dTup, dLst, dLstM, dCall, dFn, hName, hNil, hCons, hSeq, hSub, setF, onSeq, seqD, dSl, doNo, doAt, onI, slF, lstV, lstM, on2, addF, mulF, iF, CT, negF, cmpF, id, ixF, onO, lenF, absF, maxF, minF, tupleF, listF, listFM, reprF, on1, dDictIx, dPairs, onS, lastD, dComp, bName, bSeq, bNames, dYes, wipeD, subF, fdivF, modF, powF, ltF, leF, gtF, geF, eqF, neF, endsD, atI_0, atI_1, atI_2, atI_3, ixN31, ixN32, ixN30, startD, List.map_cons, List.map_nil, List.length_cons, List.length_nil, List.cons_append, List.nil_append, Nat.reduceAdd, Nat.reduceSub, List.replicate, List.getElem?_cons_zero, List.getElem?_cons_succ, List.set_cons_zero, List.set_cons_succ, List.set_nil, true_and, and_true, if_true, ite_true]
      refine ⟨by decide, by decide, ?_⟩
      have hN : ∀ (s f : Int) (o : Option D), k (endsD Qd Xd) [some (.ref p), some (.int a), some (.int c), some (.int 2305843009213693951), some (.int s), some (.int f), o] M1 := by
        intro s f o
        subst hk
        simp only [dSet, dAsg, dPar, dAug, dRet, dRetN, dDrop, dNext, dNever, dBreak, dCont, diSq, diR1, diR2, items, onI1, onI2, dVar, dC, dOp, dUn, dTest, onB, dAnd, dOr, dNot, dAndV, dOrV, dNotV, dIf, dNil, dCons, dTup, dLst, dLstM, dCall, dFn, hName, hNil, hCons, hSeq, hSub, setF, onSeq, seqD, dSl, doNo, doAt, onI, slF, lstV, lstM, on2, addF, mulF, iF, CT, negF, cmpF, id, ixF, onO, lenF, absF, maxF, minF, tupleF, listF, listFM, reprF, on1, dDictIx, dPairs, onS, lastD, dComp, bName, bSeq, bNames, dYes, wipeD, subF, fdivF, modF, powF, ltF, leF, gtF, geF, eqF, neF, endsD, atI_0, atI_1, atI_2, atI_3, ixN31, ixN32, ixN30, startD, List.map_cons, List.map_nil, List.length_cons, List.length_nil, List.cons_append, List.nil_append, Nat.reduceAdd, Nat.reduceSub, List.replicate, List.getElem?_cons_zero, List.getElem?_cons_succ, List.set_cons_zero, List.set_cons_succ, List.set_nil, true_and, and_true, if_true, ite_true]
        exact rtD.of (q f M1 t1)
      refine dLoop_inv (fun ds ρ M2 => M2 = M1 ∧ (∀ d ∈ ds, ∃ i : Int, d = .int i ∧ 0 ≤ i ∧ i < 6) ∧ ∃ (s f : Int) (o : Option D), 0 ≤ s ∧ s < 2305843009213693951 ∧ ρ = [some (.ref p), some (.int a), some (.int c), some (.int 2305843009213693951), some (.int s), some (.int f), o]) ?_ ?_ _ _ _ ⟨rfl, ?_, st, st, none, h1, h2, rfl⟩
      · rintro ρ M2 ⟨rfl, _, s, f, o, _, _, rfl⟩
        exact hN s f o
      · rintro d r ρ M2 ⟨rfl, hd, s, f, o, s1, s2, rfl⟩ nx hnx
        obtain ⟨i, rfl, i1, i2⟩ := hd d List.mem_cons_self
        simp only [dSeq, dSet, dAsg, dPar, dAug, dRet, dRetN, dDrop, dNext, dNever, dBreak, dCont, diSq, diR1, diR2, items, onI1, onI2, dVar, dC, dOp, dUn, dTest, onB, dAnd, dOr, dNot, dAndV, dOrV, dNotV, dIf, dNil, dCons, dTup, dLst, dLstM, dCall, dFn, hName, hNil, hCons, hSeq, hSub, setF, onSeq, seqD, dSl, doNo, doAt, onI, slF, lstV, lstM, on2, addF, mulF, iF, CT, negF, cmpF, id, ixF, onO, lenF, absF, maxF, minF, tupleF, listF, listFM, reprF, on1, dDictIx, dPairs, onS, lastD, dComp, bName, bSeq, bNames, dYes, wipeD, subF, fdivF, modF, powF, ltF, leF, gtF, geF, eqF, neF, endsD, atI_0, atI_1, atI_2, atI_3, ixN31, ixN32, ixN30, startD, List.map_cons, List.map_nil, List.length_cons, List.length_nil, List.cons_append, List.nil_append, Nat.reduceAdd, Nat.reduceSub, List.replicate, List.getElem?_cons_zero, List.getElem?_cons_succ, List.set_cons_zero, List.set_cons_succ, List.set_nil, true_and, and_true, if_true, ite_true]
        refine ⟨.inl (.inl ⟨by omega, by omega⟩), .inl (.inl ⟨by decide, by decide⟩), .inl (.inl ⟨by omega, by omega⟩), by decide, .inl (.inr ⟨by decide, by decide⟩), hnx _ _ ⟨rfl, fun d hd2 => hd d (List.mem_cons_of_mem _ hd2), _, _, _, ?_, ?_, rfl⟩⟩
        · exact Int.emod_nonneg _ (by decide)
        · exact Int.emod_lt_of_pos _ (by decide)
      · intro d hd
        unfold rangeD at hd
        obtain ⟨i, hi, rfl⟩ := List.mem_map.mp hd
        have := List.mem_range.mp hi
        exact ⟨_, rfl, by omega, by have : (Int.toNat 6) = 6 := rfl; omega⟩
    simp only [dIfS, dAnd, hp1, hc1, dSet, dAsg, dPar, dAug, dRet, dRetN, dDrop, dNext, dNever, dBreak, dCont, diSq, diR1, diR2, items, onI1, onI2, dVar, dC, dOp, dUn, dTest, onB, dAnd, dOr, dNot, dAndV, dOrV, dNotV, dIf, dNil, dCons, dTup, dLst, dLstM, dCall, dFn, hName, hNil, hCons, hSeq, hSub, setF, onSeq, seqD, dSl, doNo, doAt, onI, slF, lstV, lstM, on2, addF, mulF, iF, CT, negF, cmpF, id, ixF, onO, lenF, absF, maxF, minF, tupleF, listF, listFM, reprF, on1, dDictIx, dPairs, onS, lastD, dComp, bName, bSeq, bNames, dYes, wipeD, subF, fdivF, modF, powF, ltF, leF, gtF, geF, eqF, neF, endsD, atI_0, atI_1, atI_2, atI_3, ixN31, ixN32, ixN30, startD, List.map_cons, List.map_nil, List.length_cons, List.length_nil, List.cons_append, List.nil_append, Nat.reduceAdd, Nat.reduceSub, List.replicate, List.getElem?_cons_zero, List.getElem?_cons_succ, List.set_cons_zero, List.set_cons_succ, List.set_nil, true_and, and_true, if_true, ite_true]
    by_cases c1 : a < ((cs.map D.int).length : Int)
    · simp only [c1, decide_true, if_true]
      refine ⟨by unfold CPow; decide, ?_⟩
      by_cases c2 : (10 : Int) ^ Int.toNat 18 ≤ c
      · simp only [c2, decide_true, if_true]
        exact ⟨by unfold CPow; decide, rtD.of (q _ M1 t1)⟩
      · simp only [c2, decide_false, Bool.false_eq_true, if_false]
        exact rest2
    · simp only [c1, decide_false, Bool.false_eq_true, if_false]
      exact rest2
  simp only [dIfS, dTest, dOp, dVar, dC, dLst, dNil, ixF, onSeq, seqD, hp1, onO, atI_0, atI_1, atI_2, atI_3, ixN31, ixN32, ixN30, startD, List.map_cons, List.map_nil, List.length_cons, List.length_nil, List.cons_append, List.nil_append, Nat.reduceAdd, Nat.reduceSub, List.replicate, List.getElem?_cons_zero, List.getElem?_cons_succ, List.set_cons_zero, List.set_cons_succ, List.set_nil, true_and, and_true, if_true, ite_true]
  refine ⟨by decide, cmp_ints_nil hc1 ?_⟩
  simp only [onB]
  by_cases e : cs = []
  · rw [if_neg (by simp [e])]
    exact rest 0
  · rw [if_pos (by simp [e])]
    have hpos : 0 < cs.length := List.length_pos_iff.mpr e
    simp only [hp1, hc1, List.length_map, dSet, dAsg, dPar, dAug, dRet, dRetN, dDrop, dNext, dNever, dBreak, dCont, diSq, diR1, diR2, items, onI1, onI2, dVar, dC, dOp, dUn, dTest, onB, dAnd, dOr, dNot, dAndV, dOrV, dNotV, dIf, dNil, dCons, dTup, dLst, dLstM, dCall, dFn, hName, hNil, hCons, hSeq, hSub, setF, onSeq, seqD, dSl, doNo, doAt, onI, slF, lstV, lstM, on2, addF, mulF, iF, CT, negF, cmpF, id, ixF, onO, lenF, absF, maxF, minF, tupleF, listF, listFM, reprF, on1, dDictIx, dPairs, onS, lastD, dComp, bName, bSeq, bNames, dYes, wipeD, subF, fdivF, modF, powF, ltF, leF, gtF, geF, eqF, neF, endsD, atI_0, atI_1, atI_2, atI_3, ixN31, ixN32, ixN30, startD, List.map_cons, List.map_nil, List.length_cons, List.length_nil, List.cons_append, List.nil_append, Nat.reduceAdd, Nat.reduceSub, List.replicate, List.getElem?_cons_zero, List.getElem?_cons_succ, List.set_cons_zero, List.set_cons_succ, List.set_nil, true_and, and_true, if_true, ite_true]
    refine ⟨by omega, ?_⟩
    obtain ⟨x, hx, hm⟩ := atI_lt (xs := cs.map D.int) (i := a % (cs.length : Int)) (Int.emod_nonneg _ (by omega)) (by rw [List.length_map]; exact Int.emod_lt_of_pos _ (by omega))
    obtain ⟨y, _, rfl⟩ := List.mem_map.mp hm
    rw [hx]
    exact rest y
end DP

set_option Elab.async false
set_option linter.all false
set_option maxRecDepth 100000
set_option maxHeartbeats 4000000
namespace DP
open PySem PySem.Spec L2 DL Wm
def sp_law_draw : DSp := fun as M Q _ => ∃ (p : Addr) (n : Int), as = [.ref p, .int n] ∧ Pen M p ∧ 0 < n ∧ n.natAbs.log2 < 9000 ∧ ∀ v M', 0 ≤ v → v < n → PenTo M M' p → Q (.int v) M'
def d_law_draw (c_law_fresh : DSp) : DS :=
  (dSeq (dIfS (dTest (dOp ltF (dOp ixF (dVar 0) (dC (.int 2))) (dVar 1))) (dAsg (dFn c_law_fresh 1 (dCons (dVar 0) dNil)) (hSub (dVar 0) (dC (.int 2)) setF)) dNext)
  (dSeq (dSet (dOp modF (dOp ixF (dVar 0) (dC (.int 2))) (dVar 1)) 2)
  (dSeq (dAsg (dOp fdivF (dOp ixF (dVar 0) (dC (.int 2))) (dVar 1)) (hSub (dVar 0) (dC (.int 2)) setF))
  (dRet (dVar 2)))))
theorem b_law_draw {as : List D} {M : DM} {Qd : DK} {Xd : DX} (hl : as.length = 2) (h : sp_law_draw as M Qd Xd) : d_law_draw sp_law_fresh (endsD Qd Xd) (startD 3 as) M := by
  obtain ⟨p, n, rfl, hP, n0, n9, q⟩ := h
  unfold d_law_draw
  simp only [atI_0, atI_1, atI_2, atI_3, ixN31, ixN32, ixN30, startD, List.map_cons, List.map_nil, List.length_cons, List.length_nil, List.cons_append, List.nil_append, Nat.reduceAdd, Nat.reduceSub, List.replicate, List.getElem?_cons_zero, List.getElem?_cons_succ, List.set_cons_zero, List.set_cons_succ, List.set_nil, true_and, and_true, if_true, ite_true]
  refine go_seq fun k hk => ?_
  have rest : ∀ M1, PenTo M M1 p → k (endsD Qd Xd) [some (.ref p), some (.int n), none] M1 := by
    intro M1 t1
    subst hk
    obtain ⟨l, cs, a, b, hp, hc, ne⟩ := t1.pen
    simp only [dSeq, penO, hp, noL, dSet, dAsg, dPar, dAug, dRet, dRetN, dDrop, dNext, dNever, dBreak, dCont, diSq, diR1, diR2, items, onI1, onI2, dVar, dC, dOp, dUn, dTest, onB, dAnd, dOr, dNot, dAndV, dOrV, dNotV, dIf, dNil, dCons, dTup, dLst, dLstM, dCall, dFn, hName, hNil, hCons, hSeq, hSub, setF, onSeq, seqD, dSl, doNo, doAt, onI, slF, lstV, lstM, on2, addF, mulF, iF, CT, negF, cmpF, id, ixF, onO, lenF, absF, maxF, minF, tupleF, listF, listFM, reprF, on1, dDictIx, dPairs, onS, lastD, dComp, bName, bSeq, bNames, dYes, wipeD, subF, fdivF, modF, powF, ltF, leF, gtF, geF, eqF, neF, endsD, atI_0, atI_1, atI_2, atI_3, ixN31, ixN32, ixN30, startD, List.map_cons, List.map_nil, List.length_cons, List.length_nil, List.cons_append, List.nil_append, Nat.reduceAdd, Nat.reduceSub, List.replicate, List.getElem?_cons_zero, List.getElem?_cons_succ, List.set_cons_zero, List.set_cons_succ, List.set_nil, true_and, and_true, if_true, ite_true]
    refine ⟨n0, ⟨n0, n9⟩, ?_⟩
    exact rtD.of (q _ _ (Int.emod_nonneg _ (by omega)) (Int.emod_lt_of_pos _ n0) (t1.trans (pen_put hp hc ne)))
  obtain ⟨l, cs, a, b, hp, hc, ne⟩ := id hP
  simp only [dIfS, penO, hp, noL, dSet, dAsg, dPar, dAug, dRet, dRetN, dDrop, dNext, dNever, dBreak, dCont, diSq, diR1, diR2, items, onI1, onI2, dVar, dC, dOp, dUn, dTest, onB, dAnd, dOr, dNot, dAndV, dOrV, dNotV, dIf, dNil, dCons, dTup, dLst, dLstM, dCall, dFn, hName, hNil, hCons, hSeq, hSub, setF, onSeq, seqD, dSl, doNo, doAt, onI, slF, lstV, lstM, on2, addF, mulF, iF, CT, negF, cmpF, id, ixF, onO, lenF, absF, maxF, minF, tupleF, listF, listFM, reprF, on1, dDictIx, dPairs, onS, lastD, dComp, bName, bSeq, bNames, dYes, wipeD, subF, fdivF, modF, powF, ltF, leF, gtF, geF, eqF, neF, endsD, atI_0, atI_1, atI_2, atI_3, ixN31, ixN32, ixN30, startD, List.map_cons, List.map_nil, List.length_cons, List.length_nil, List.cons_append, List.nil_append, Nat.reduceAdd, Nat.reduceSub, List.replicate, List.getElem?_cons_zero, List.getElem?_cons_succ, List.set_cons_zero, List.set_cons_succ, List.set_nil, true_and, and_true, if_true, ite_true]
  by_cases c : b < n
  · rw [if_pos (by simpa using c)]
    refine ⟨p, rfl, hP, fun v M1 t1 => ?_⟩
    obtain ⟨l1, cs1, a1, b1, hp1, hc1, ne1⟩ := t1.pen
    simp only [penO, hp1, atI_0, atI_1, atI_2, atI_3, ixN31, ixN32, ixN30, startD, List.map_cons, List.map_nil, List.length_cons, List.length_nil, List.cons_append, List.nil_append, Nat.reduceAdd, Nat.reduceSub, List.replicate, List.getElem?_cons_zero, List.getElem?_cons_succ, List.set_cons_zero, List.set_cons_succ, List.set_nil, true_and, and_true, if_true, ite_true]
    exact ⟨by simp [noL], rest _ (t1.trans (pen_put hp1 hc1 ne1))⟩
  · rw [if_neg (by simpa using c)]
    exact rest M (.refl hP)
/-! ### words of letters -/
def code : Lt → Nat
  | .s => 115
  | .r => 114
  | .R => 82
def wS (w : List Lt) : Str := ⟨(w.map code).toArray⟩
theorem wS_len (w : List Lt) : (wS w).length = w.length := by
  show (wS w).cps.size = _
  simp [wS]
theorem wS_app (a b : List Lt) : wS a ++ wS b = wS (a ++ b) := by
  show Str.mk _ = _
  simp [wS]
theorem code_inj : ∀ {x y : Lt}, code x = code y → x = y := by
  intro x y
  cases x <;> cases y <;> simp [code]
theorem wS_inj {a b : List Lt} (h : wS a = wS b) : a = b := by
  have e : a.map code = b.map code := by
    have := congrArg (fun z : Str => z.cps.toList) h
    simpa [wS] using this
  exact List.map_inj_right (fun x y => code_inj) |>.mp e
theorem wS_nil : ("" : Str) = wS [] := by decide +kernel
theorem wS_s : ("s" : Str) = wS [.s] := by decide +kernel
theorem wS_rR : ("rR" : Str) = wS [.r, .R] := by decide +kernel
theorem wS_toList (w : List Lt) : (wS w).cps.toList = w.map code := by simp [wS]
theorem cutS_eq (z : Str) (lo hi : Option Int) : cutS z lo hi = ⟨((z.cps.toList.drop (HT.sIx z.length 0 lo)).take (HT.sIx z.length z.length hi - HT.sIx z.length 0 lo)).toArray⟩ := rfl
theorem cut_wS (w : List Lt) (lo hi : Option Int) : cutS (wS w) lo hi = wS ((w.drop (HT.sIx w.length 0 lo)).take (HT.sIx w.length w.length hi - HT.sIx w.length 0 lo)) := by
  rw [cutS_eq, wS_len, wS_toList, ← List.map_drop, ← List.map_take]
  rfl
theorem sIx_m1 (n : Nat) : HT.sIx n 0 (some (-1)) = n - 1 := by
  unfold HT.sIx
  simp
  omega
theorem last1 (w : List Lt) : cutS (wS w) (some (-1)) none = wS w.getLast?.toList := by
  rw [cut_wS, sIx_m1, HT.sIx_none]
  congr 1
  rcases List.eq_nil_or_concat w with rfl | ⟨r, x, rfl⟩
  · rfl
  · simp

def sp_law_word : DSp := fun as M Q _ => ∃ (p : Addr) (n : Int), as = [.ref p, .int n] ∧ Pen M p ∧ 0 ≤ n ∧ n ≤ 10000 ∧ ∀ (w : List Lt) M', red w = true → (w.length : Int) ≤ n → PenTo M M' p → Q (.str (wS w)) M'
def d_law_word (c_law_draw : DSp) : DS :=
  (dSeq (dPar 2 3 (dCons (dC (.str "")) (dCons (dFn c_law_draw 2 (dCons (dVar 0) (dCons (dOp addF (dVar 1) (dC (.int 1))) dNil))) dNil)))
  (dSeq (dIfS (dAnd (dTest (dOp eqF (dFn c_law_draw 2 (dCons (dVar 0) (dCons (dC (.int 2)) dNil))) (dC (.int 0)))) (dTest (dOp gtF (dVar 3) (dC (.int 0))))) (dSet (dC (.str "s")) 2) dNext)
  (dSeq (dWhile (dTest (dOp ltF (dCall lenF (dCons (dVar 2) dNil)) (dVar 3))) (dIfS (dOr (dTest (dOp eqF (dSl (dVar 2) (doAt (dUn negF (dC (.int 1)))) doNo) (dC (.str "s")))) (dTest (dOp eqF (dVar 2) (dC (.str ""))))) (dSet (dOp addF (dVar 2) (dOp ixF (dC (.str "rR")) (dFn c_law_draw 2 (dCons (dVar 0) (dCons (dC (.int 2)) dNil))))) 2) (dSet (dOp addF (dVar 2) (dC (.str "s"))) 2)))
  (dRet (dVar 2)))))
theorem log2_small {n : Int} {k : Nat} (h0 : 0 ≤ n) (h : n < 2 ^ k) (hk : 0 < k) : n.natAbs.log2 < k := by
  obtain ⟨m, rfl⟩ := Int.eq_ofNat_of_zero_le h0
  refine PySem.Flt.log2_lt_of hk ?_
  have e : ((m : Int)) < ((2 ^ k : Nat) : Int) := by rw [Int.natCast_pow]; exact h
  rw [Int.natAbs_natCast]
  omega
theorem log2_lit {n : Int} (h0 : 0 ≤ n) (h : n < 1000000000) : n.natAbs.log2 < 9000 := Nat.lt_of_lt_of_le (log2_small h0 (show n < 2 ^ 30 by omega) (by decide)) (by decide)
theorem b_law_word {as : List D} {M : DM} {Qd : DK} {Xd : DX} (hl : as.length = 2) (h : sp_law_word as M Qd Xd) : d_law_word sp_law_draw (endsD Qd Xd) (startD 4 as) M := by
  obtain ⟨p, n, rfl, hP, n0, n9, q⟩ := h
  unfold d_law_word
  simp only [atI_0, atI_1, atI_2, atI_3, ixN31, ixN32, ixN30, startD, List.map_cons, List.map_nil, List.length_cons, List.length_nil, List.cons_append, List.nil_append, Nat.reduceAdd, Nat.reduceSub, List.replicate, List.getElem?_cons_zero, List.getElem?_cons_succ, List.set_cons_zero, List.set_cons_succ, List.set_nil, true_and, and_true, if_true, ite_true]
  refine go_seq fun k hk => ?_; simp only [dSet, dAsg, dPar, dAug, dRet, dRetN, dDrop, dNext, dNever, dBreak, dCont, diSq, diR1, diR2, items, onI1, onI2, dVar, dC, dOp, dUn, dTest, onB, dAnd, dOr, dNot, dAndV, dOrV, dNotV, dIf, dNil, dCons, dTup, dLst, dLstM, dCall, dFn, hName, hNil, hCons, hSeq, hSub, setF, onSeq, seqD, dSl, doNo, doAt, onI, slF, lstV, lstM, on2, addF, mulF, iF, CT, negF, cmpF, id, ixF, onO, lenF, absF, maxF, minF, tupleF, listF, listFM, reprF, on1, dDictIx, dPairs, onS, lastD, dComp, bName, bSeq, bNames, dYes, wipeD, subF, fdivF, modF, powF, ltF, leF, gtF, geF, eqF, neF, endsD, atI_0, atI_1, atI_2, atI_3, ixN31, ixN32, ixN30, startD, List.map_cons, List.map_nil, List.length_cons, List.length_nil, List.cons_append, List.nil_append, Nat.reduceAdd, Nat.reduceSub, List.replicate, List.getElem?_cons_zero, List.getElem?_cons_succ, List.set_cons_zero, List.set_cons_succ, List.set_nil, true_and, and_true, if_true, ite_true]
  refine ⟨p, n + 1, rfl, hP, by omega, log2_lit (by omega) (by omega), fun many M1 m0 m1 t1 => ?_⟩
  subst hk
  refine go_seq fun k hk => ?_
  have rest : ∀ M2 (w : List Lt), PenTo M M2 p → red w = true → (w.length : Int) ≤ many → k (endsD Qd Xd) [some (.ref p), some (.int n), some (.str (wS w)), some (.int many)] M2 := by
    intro M2 w t2 hr hw
    subst hk
    refine go_seq fun k hk => ?_
    refine ⟨fun m ρ M' => ∃ w : List Lt, ρ = [some (.ref p), some (.int n), some (.str (wS w)), some (.int many)] ∧ red w = true ∧ (w.length : Int) ≤ many ∧ m = many.toNat - w.length ∧ PenTo M M' p, ⟨_, w, rfl, hr, hw, rfl, t2⟩, ?_⟩
    rintro m ρ M' ⟨w, rfl, hr, hw, rfl, t⟩
    simp only [wS_len, dSet, dAsg, dPar, dAug, dRet, dRetN, dDrop, dNext, dNever, dBreak, dCont, diSq, diR1, diR2, items, onI1, onI2, dVar, dC, dOp, dUn, dTest, onB, dAnd, dOr, dNot, dAndV, dOrV, dNotV, dIf, dNil, dCons, dTup, dLst, dLstM, dCall, dFn, hName, hNil, hCons, hSeq, hSub, setF, onSeq, seqD, dSl, doNo, doAt, onI, slF, lstV, lstM, on2, addF, mulF, iF, CT, negF, cmpF, id, ixF, onO, lenF, absF, maxF, minF, tupleF, listF, listFM, reprF, on1, dDictIx, dPairs, onS, lastD, dComp, bName, bSeq, bNames, dYes, wipeD, subF, fdivF, modF, powF, ltF, leF, gtF, geF, eqF, neF, endsD, atI_0, atI_1, atI_2, atI_3, ixN31, ixN32, ixN30, startD, List.map_cons, List.map_nil, List.length_cons, List.length_nil, List.cons_append, List.nil_append, Nat.reduceAdd, Nat.reduceSub, List.replicate, List.getElem?_cons_zero, List.getElem?_cons_succ, List.set_cons_zero, List.set_cons_succ, List.set_nil, true_and, and_true, if_true, ite_true]
    refine ⟨by rw [sizeLine_eq]; omega, ?_⟩
    by_cases c : (w.length : Int) < many
    · rw [if_pos (by simpa using c)]
      simp only [dIfS, dOr, dTest, dOp, dSl, dVar, dC, doAt, doNo, dUn, negF, onI, slF, eqF, cmpF, id, onB, dSet, dFn, dCons, dNil, wS_s, wS_nil, wS_rR, last1, wS_len, atI_0, atI_1, atI_2, atI_3, ixN31, ixN32, ixN30, startD, List.map_cons, List.map_nil, List.length_cons, List.length_nil, List.cons_append, List.nil_append, Nat.reduceAdd, Nat.reduceSub, List.replicate, List.getElem?_cons_zero, List.getElem?_cons_succ, List.set_cons_zero, List.set_cons_succ, List.set_nil, true_and, and_true, if_true, ite_true]
      refine ⟨by rw [sizeLine_eq]; omega, ?_⟩
      have addS : ∀ (x : Lt) M2, PenTo M' M2 p → (∀ y, w.getLast? = some y → isS y ≠ isS x) → ∃ m', m' < many.toNat - w.length ∧ ∃ w' : List Lt, [some (D.ref p), some (D.int n), some (D.str (wS w ++ wS [x])), some (D.int many)] = [some (.ref p), some (.int n), some (.str (wS w')), some (.int many)] ∧ red w' = true ∧ (w'.length : Int) ≤ many ∧ m' = many.toNat - w'.length ∧ PenTo M M2 p := by
        intro x M2 t2 hx
        refine ⟨many.toNat - (w ++ [x]).length, by rw [List.length_append]; simp; omega, w ++ [x], by rw [wS_app], red_snoc w x hr hx, by rw [List.length_append]; simp; omega, rfl, t.trans t2⟩
      have draw : (w.getLast? = some .s ∨ w = []) → sp_law_draw [D.ref p, D.int 2] M' (fun y M2 => ixF (.str (wS [.r, .R])) y M2 fun y M2 => addF (.str (wS w)) y M2 fun z M2 => ∃ m', m' < many.toNat - w.length ∧ ∃ w' : List Lt, [some (D.ref p), some (D.int n), some z, some (D.int many)] = [some (.ref p), some (.int n), some (.str (wS w')), some (.int many)] ∧ red w' = true ∧ (w'.length : Int) ≤ many ∧ m' = many.toNat - w'.length ∧ PenTo M M2 p) (fun x M1 => False) := by
        intro hw2
        refine ⟨p, 2, rfl, t.pen, by decide, log2_lit (by decide) (by decide), fun v M2 v0 v2 t2 => ?_⟩
        have hx : ∀ x : Lt, isS x = false → ∀ y, w.getLast? = some y → isS y ≠ isS x := by
          intro x hx y hy
          rcases hw2 with e | e
          · rw [e] at hy; cases hy; rw [hx]; decide
          · rw [e] at hy; cases hy
        have hv : v = 0 ∨ v = 1 := by omega
        rcases hv with rfl | rfl
        · simp only [wS_len, wS_toList, dSet, dAsg, dPar, dAug, dRet, dRetN, dDrop, dNext, dNever, dBreak, dCont, diSq, diR1, diR2, items, onI1, onI2, dVar, dC, dOp, dUn, dTest, onB, dAnd, dOr, dNot, dAndV, dOrV, dNotV, dIf, dNil, dCons, dTup, dLst, dLstM, dCall, dFn, hName, hNil, hCons, hSeq, hSub, setF, onSeq, seqD, dSl, doNo, doAt, onI, slF, lstV, lstM, on2, addF, mulF, iF, CT, negF, cmpF, id, ixF, onO, lenF, absF, maxF, minF, tupleF, listF, listFM, reprF, on1, dDictIx, dPairs, onS, lastD, dComp, bName, bSeq, bNames, dYes, wipeD, subF, fdivF, modF, powF, ltF, leF, gtF, geF, eqF, neF, endsD, atI_0, atI_1, atI_2, atI_3, ixN31, ixN32, ixN30, startD, List.map_cons, List.map_nil, List.length_cons, List.length_nil, List.cons_append, List.nil_append, Nat.reduceAdd, Nat.reduceSub, List.replicate, List.getElem?_cons_zero, List.getElem?_cons_succ, List.set_cons_zero, List.set_cons_succ, List.set_nil, true_and, and_true, if_true, ite_true]
          exact ⟨by decide, (by show w.length + 1 ≤ sizeLine; rw [sizeLine_eq]; omega), addS .r M2 t2 (hx _ rfl)⟩
        · simp only [wS_len, wS_toList, dSet, dAsg, dPar, dAug, dRet, dRetN, dDrop, dNext, dNever, dBreak, dCont, diSq, diR1, diR2, items, onI1, onI2, dVar, dC, dOp, dUn, dTest, onB, dAnd, dOr, dNot, dAndV, dOrV, dNotV, dIf, dNil, dCons, dTup, dLst, dLstM, dCall, dFn, hName, hNil, hCons, hSeq, hSub, setF, onSeq, seqD, dSl, doNo, doAt, onI, slF, lstV, lstM, on2, addF, mulF, iF, CT, negF, cmpF, id, ixF, onO, lenF, absF, maxF, minF, tupleF, listF, listFM, reprF, on1, dDictIx, dPairs, onS, lastD, dComp, bName, bSeq, bNames, dYes, wipeD, subF, fdivF, modF, powF, ltF, leF, gtF, geF, eqF, neF, endsD, atI_0, atI_1, atI_2, atI_3, ixN31, ixN32, ixN30, startD, List.map_cons, List.map_nil, List.length_cons, List.length_nil, List.cons_append, List.nil_append, Nat.reduceAdd, Nat.reduceSub, List.replicate, List.getElem?_cons_zero, List.getElem?_cons_succ, List.set_cons_zero, List.set_cons_succ, List.set_nil, true_and, and_true, if_true, ite_true]
          exact ⟨by decide, (by show w.length + 1 ≤ sizeLine; rw [sizeLine_eq]; omega), addS .R M2 t2 (hx _ rfl)⟩
      by_cases e1 : w.getLast? = some .s
      · rw [if_pos (by simp [e1])]
        exact draw (.inl e1)
      · rw [if_neg (by
          intro z
          have z2 := wS_inj (of_decide_eq_true z)
          cases e3 : w.getLast? with
          | none => rw [e3] at z2; cases z2
          | some y => rw [e3] at z2 e1; cases z2; exact e1 rfl)]
        by_cases e2 : w = []
        · rw [if_pos (by simp [e2])]
          exact draw (.inr e2)
        · rw [if_neg (by
            intro z
            exact e2 (wS_inj (of_decide_eq_true z)))]
          simp only [addF, wS_len]
          refine ⟨by rw [sizeLine_eq]; simp; omega, addS .s M' (.refl t.pen) fun y hy => ?_⟩
          cases y with
          | s => exact absurd hy e1
          | r => decide
          | R => decide
    · rw [if_neg (by simpa using c)]
      subst hk
      simp only [dSet, dAsg, dPar, dAug, dRet, dRetN, dDrop, dNext, dNever, dBreak, dCont, diSq, diR1, diR2, items, onI1, onI2, dVar, dC, dOp, dUn, dTest, onB, dAnd, dOr, dNot, dAndV, dOrV, dNotV, dIf, dNil, dCons, dTup, dLst, dLstM, dCall, dFn, hName, hNil, hCons, hSeq, hSub, setF, onSeq, seqD, dSl, doNo, doAt, onI, slF, lstV, lstM, on2, addF, mulF, iF, CT, negF, cmpF, id, ixF, onO, lenF, absF, maxF, minF, tupleF, listF, listFM, reprF, on1, dDictIx, dPairs, onS, lastD, dComp, bName, bSeq, bNames, dYes, wipeD, subF, fdivF, modF, powF, ltF, leF, gtF, geF, eqF, neF, endsD, atI_0, atI_1, atI_2, atI_3, ixN31, ixN32, ixN30, startD, List.map_cons, List.map_nil, List.length_cons, List.length_nil, List.cons_append, List.nil_append, Nat.reduceAdd, Nat.reduceSub, List.replicate, List.getElem?_cons_zero, List.getElem?_cons_succ, List.set_cons_zero, List.set_cons_succ, List.set_nil, true_and, and_true, if_true, ite_true]
      exact rtD.of (q w M' hr (by omega) t)
  simp only [dIfS, dAnd, dSet, dAsg, dPar, dAug, dRet, dRetN, dDrop, dNext, dNever, dBreak, dCont, diSq, diR1, diR2, items, onI1, onI2, dVar, dC, dOp, dUn, dTest, onB, dAnd, dOr, dNot, dAndV, dOrV, dNotV, dIf, dNil, dCons, dTup, dLst, dLstM, dCall, dFn, hName, hNil, hCons, hSeq, hSub, setF, onSeq, seqD, dSl, doNo, doAt, onI, slF, lstV, lstM, on2, addF, mulF, iF, CT, negF, cmpF, id, ixF, onO, lenF, absF, maxF, minF, tupleF, listF, listFM, reprF, on1, dDictIx, dPairs, onS, lastD, dComp, bName, bSeq, bNames, dYes, wipeD, subF, fdivF, modF, powF, ltF, leF, gtF, geF, eqF, neF, endsD, atI_0, atI_1, atI_2, atI_3, ixN31, ixN32, ixN30, startD, List.map_cons, List.map_nil, List.length_cons, List.length_nil, List.cons_append, List.nil_append, Nat.reduceAdd, Nat.reduceSub, List.replicate, List.getElem?_cons_zero, List.getElem?_cons_succ, List.set_cons_zero, List.set_cons_succ, List.set_nil, true_and, and_true, if_true, ite_true]
  refine ⟨p, 2, rfl, t1.pen, by decide, log2_lit (by decide) (by decide), fun v M2 v0 v2 t2 => ?_⟩
  simp only [wS_nil, wS_s]
  by_cases c1 : v = 0
  · rw [if_pos (by simp [c1])]
    by_cases c2 : 0 < many
    · rw [if_pos (by simpa using c2)]
      exact rest M2 [.s] (t1.trans t2) rfl (by simp; omega)
    · rw [if_neg (by simpa using c2)]
      exact rest M2 [] (t1.trans t2) rfl (by simpa using m0)
  · rw [if_neg (by simpa using c1)]
    exact rest M2 [] (t1.trans t2) rfl (by simpa using m0)
end DP

set_option Elab.async false
set_option linter.all false
set_option maxRecDepth 100000
set_option maxHeartbeats 4000000
namespace DP
open PySem PySem.Spec L2 DL Wm
def sp_law_signed : DSp := sp_with_sign
def d_law_signed : DS :=
  (dSeq (dFor (diSq (dVar 0)) (hName 1) (dIfS (dTest (dOp neF (dVar 1) (dC (.int 0)))) (dRet (dCall tupleF (dCons (dComp (diSq (dVar 0)) (bName 2) dYes (dOp mulF (dVar 2) (dIf (dTest (dOp gtF (dVar 1) (dC (.int 0)))) (dC (.int 1)) (dUn negF (dC (.int 1))))) [2]) dNil))) dNext))
  (dRet (dCall tupleF (dCons (dVar 0) dNil))))
theorem b_law_signed {as : List D} {M : DM} {Qd : DK} {Xd : DX} (hl : as.length = 1) (h : sp_law_signed as M Qd Xd) : d_law_signed (endsD Qd Xd) (startD 3 as) M := by
  obtain ⟨ns, rfl, hn, q⟩ := h
  rw [← sg_all] at q
  unfold d_law_signed
  simp only [atI_0, atI_1, atI_2, atI_3, ixN31, ixN32, ixN30, startD, List.map_cons, List.map_nil, List.length_cons, List.length_nil, List.cons_append, List.nil_append, Nat.reduceAdd, Nat.reduceSub, List.replicate, List.getElem?_cons_zero, List.getElem?_cons_succ, List.set_cons_zero, List.set_cons_succ, List.set_nil, true_and, and_true, if_true, ite_true]
  refine go_seq fun k hk => ?_
  simp only [dFor, diSq, dVar, items, intsD, atI_0, atI_1, atI_2, atI_3, ixN31, ixN32, ixN30, startD, List.map_cons, List.map_nil, List.length_cons, List.length_nil, List.cons_append, List.nil_append, Nat.reduceAdd, Nat.reduceSub, List.replicate, List.getElem?_cons_zero, List.getElem?_cons_succ, List.set_cons_zero, List.set_cons_succ, List.set_nil, true_and, and_true, if_true, ite_true]
  have key : ∀ (suf : List Int) (o : Option D), Qd (intsD (sg ns suf)) M → dLoop (hName 1) (dIfS (dTest (dOp neF (dVar 1) (dC (.int 0)))) (dRet (dCall tupleF (dCons (dComp (diSq (dVar 0)) (bName 2) dYes (dOp mulF (dVar 2) (dIf (dTest (dOp gtF (dVar 1) (dC (.int 0)))) (dC (.int 1)) (dUn negF (dC (.int 1))))) [2]) dNil))) dNext)
      (fun _ => True) { endsD Qd Xd with nx := fun ρ M => k (endsD Qd Xd) ρ M } (suf.map D.int) [some (intsD ns), o, none] M := by
    intro suf
    induction suf with
    | nil =>
      intro o q
      subst hk
      simp only [List.map_nil, dLoop, intsD, dSet, dAsg, dPar, dAug, dRet, dRetN, dDrop, dNext, dNever, dBreak, dCont, diSq, diR1, diR2, items, onI1, onI2, dVar, dC, dOp, dUn, dTest, onB, dAnd, dOr, dNot, dAndV, dOrV, dNotV, dIf, dNil, dCons, dTup, dLst, dLstM, dCall, dFn, hName, hNil, hCons, hSeq, hSub, setF, onSeq, seqD, dSl, doNo, doAt, onI, slF, lstV, lstM, on2, addF, mulF, iF, CT, negF, cmpF, id, ixF, onO, lenF, absF, maxF, minF, tupleF, listF, listFM, reprF, on1, dDictIx, dPairs, onS, lastD, dComp, bName, bSeq, bNames, dYes, wipeD, subF, fdivF, modF, powF, ltF, leF, gtF, geF, eqF, neF, endsD, atI_0, atI_1, atI_2, atI_3, ixN31, ixN32, ixN30, startD, List.map_cons, List.map_nil, List.length_cons, List.length_nil, List.cons_append, List.nil_append, Nat.reduceAdd, Nat.reduceSub, List.replicate, List.getElem?_cons_zero, List.getElem?_cons_succ, List.set_cons_zero, List.set_cons_succ, List.set_nil, true_and, and_true, if_true, ite_true]
      exact rtD.of q
    | cons n r ih =>
      intro o q
      unfold sg at q
      rw [List.map_cons]
      refine ⟨trivial, ?_⟩
      simp only [dIfS, intsD, dSet, dAsg, dPar, dAug, dRet, dRetN, dDrop, dNext, dNever, dBreak, dCont, diSq, diR1, diR2, items, onI1, onI2, dVar, dC, dOp, dUn, dTest, onB, dAnd, dOr, dNot, dAndV, dOrV, dNotV, dIf, dNil, dCons, dTup, dLst, dLstM, dCall, dFn, hName, hNil, hCons, hSeq, hSub, setF, onSeq, seqD, dSl, doNo, doAt, onI, slF, lstV, lstM, on2, addF, mulF, iF, CT, negF, cmpF, id, ixF, onO, lenF, absF, maxF, minF, tupleF, listF, listFM, reprF, on1, dDictIx, dPairs, onS, lastD, dComp, bName, bSeq, bNames, dYes, wipeD, subF, fdivF, modF, powF, ltF, leF, gtF, geF, eqF, neF, endsD, atI_0, atI_1, atI_2, atI_3, ixN31, ixN32, ixN30, startD, List.map_cons, List.map_nil, List.length_cons, List.length_nil, List.cons_append, List.nil_append, Nat.reduceAdd, Nat.reduceSub, List.replicate, List.getElem?_cons_zero, List.getElem?_cons_succ, List.set_cons_zero, List.set_cons_succ, List.set_nil, true_and, and_true, if_true, ite_true]
      by_cases z : n = 0
      · rw [if_pos z] at q
        rw [if_neg (by simp [z])]
        exact ih _ q
      · rw [if_neg z] at q
        rw [if_pos (by simp [z])]
        refine ⟨by rw [List.length_map]; exact Nat.le_trans hn (by decide), ?_⟩
        refine dCL_map D.int (fun x => D.int (x * (if 0 < n then 1 else -1))) trivial ns [] (fun _ _ => by simp [noL]) (fun x _ A B hA => ?_) ?_
        · simp only [dSet, dAsg, dPar, dAug, dRet, dRetN, dDrop, dNext, dNever, dBreak, dCont, diSq, diR1, diR2, items, onI1, onI2, dVar, dC, dOp, dUn, dTest, onB, dAnd, dOr, dNot, dAndV, dOrV, dNotV, dIf, dNil, dCons, dTup, dLst, dLstM, dCall, dFn, hName, hNil, hCons, hSeq, hSub, setF, onSeq, seqD, dSl, doNo, doAt, onI, slF, lstV, lstM, on2, addF, mulF, iF, CT, negF, cmpF, id, ixF, onO, lenF, absF, maxF, minF, tupleF, listF, listFM, reprF, on1, dDictIx, dPairs, onS, lastD, dComp, bName, bSeq, bNames, dYes, wipeD, subF, fdivF, modF, powF, ltF, leF, gtF, geF, eqF, neF, endsD, atI_0, atI_1, atI_2, atI_3, ixN31, ixN32, ixN30, startD, List.map_cons, List.map_nil, List.length_cons, List.length_nil, List.cons_append, List.nil_append, Nat.reduceAdd, Nat.reduceSub, List.replicate, List.getElem?_cons_zero, List.getElem?_cons_succ, List.set_cons_zero, List.set_cons_succ, List.set_nil, true_and, and_true, if_true, ite_true]
          by_cases c : 0 < n
          · rw [if_pos (by simpa using c)]
            rw [if_pos c] at hA
            exact ⟨.inl (.inr ⟨by decide, by decide⟩), hA⟩
          · rw [if_neg (by simpa using c)]
            rw [if_neg c] at hA
            exact ⟨.inl (.inr ⟨by decide, by decide⟩), hA⟩
        · rw [List.nil_append]
          refine rtD.of ?_
          by_cases c : n < 0
          · rw [if_pos c] at q
            have e : ns.map (fun x => D.int (x * (if 0 < n then 1 else -1))) = (ns.map (-·)).map D.int := by
              rw [List.map_map]
              refine List.map_congr_left fun x _ => ?_
              rw [if_neg (by omega)]
              simp
            rw [e]
            exact q
          · rw [if_neg c] at q
            have e : ns.map (fun x => D.int (x * (if 0 < n then 1 else -1))) = ns.map D.int := by
              refine List.map_congr_left fun x _ => ?_
              rw [if_pos (by omega)]
              simp
            rw [e]
            exact q
  exact key ns none q
def sp_law_product : DSp := sp_product
def d_law_product (c_law_signed : DSp) : DS :=
  (dSeq (dAsg (dVar 1) (hSeq 4 (hCons (hName 2) (hCons (hName 3) (hCons (hName 4) (hCons (hName 5) hNil))))))
  (dSeq (dAsg (dVar 0) (hSeq 4 (hCons (hName 6) (hCons (hName 7) (hCons (hName 8) (hCons (hName 9) hNil))))))
  (dRet (dFn c_law_signed 1 (dCons (dTup (dCons (dOp addF (dOp mulF (dVar 2) (dVar 6)) (dOp mulF (dVar 3) (dVar 8))) (dCons (dOp addF (dOp mulF (dVar 2) (dVar 7)) (dOp mulF (dVar 3) (dVar 9))) (dCons (dOp addF (dOp mulF (dVar 4) (dVar 6)) (dOp mulF (dVar 5) (dVar 8))) (dCons (dOp addF (dOp mulF (dVar 4) (dVar 7)) (dOp mulF (dVar 5) (dVar 9))) dNil))))) dNil)))))
theorem b_law_product {as : List D} {M : DM} {Qd : DK} {Xd : DX} (hl : as.length = 2) (h : sp_law_product as M Qd Xd) : d_law_product sp_law_signed (endsD Qd Xd) (startD 10 as) M := by
  obtain ⟨m, n, j, k, rfl, ⟨m1, m2, m3, m4⟩, ⟨n1, n2, n3, n4⟩, hjk, q⟩ := h
  have c : ∀ {x y : Int}, x.natAbs ≤ 2 ^ k → y.natAbs ≤ 2 ^ j → MulC x y := fun hx hy => mulC_of hx hy (by omega)
  simp only [d_law_product, mvD, intsD, Mv.l, dSeq, dSet, dAsg, dPar, dAug, dRet, dRetN, dDrop, dIfS, dNext, dNever, dBreak, dCont, dFor, diSq, diR1, diR2, items, onI1, onI2, dVar, dC, dOp, dUn, dTest, onB, dAnd, dOr, dNot, dAndV, dOrV, dNotV, dIf, dNil, dCons, dTup, dLst, dLstM, dCall, dFn, hName, hNil, hCons, hSeq, hSub, setF, onSeq, seqD, dSl, doNo, doAt, onI, slF, lstV, lstM, on2, addF, mulF, iF, CT, negF, cmpF, id, ixF, onO, lenF, absF, maxF, minF, tupleF, listF, listFM, reprF, on1, dDictIx, dPairs, onS, lastD, dComp, bName, bSeq, bNames, dYes, wipeD, subF, fdivF, modF, powF, ltF, leF, gtF, geF, eqF, neF, endsD, atI_0, atI_1, atI_2, atI_3, ixN31, ixN32, ixN30, startD, List.map_cons, List.map_nil, List.length_cons, List.length_nil, List.cons_append, List.nil_append, Nat.reduceAdd, Nat.reduceSub, List.replicate, List.getElem?_cons_zero, List.getElem?_cons_succ, List.set_cons_zero, List.set_cons_succ, List.set_nil, true_and, and_true, if_true, ite_true]
  exact ⟨c n1 m1, c n2 m3, c n1 m2, c n2 m4, c n3 m1, c n4 m3, c n3 m2, c n4 m4, by decide, (mul m n).l, rfl, by simp [Mv.l], rtD.of (sgn_of q)⟩
/-! ### the move of a word -/
def sp_law_move : DSp := fun as M Q _ => ∃ w : List Lt, as = [.str (wS w)] ∧ w.length ≤ 100000 ∧ Q (mvD (moveW w)) M
def d_law_move (c_law_product : DSp) : DS :=
  (dSeq (dSet (dTup (dCons (dC (.int 1)) (dCons (dC (.int 0)) (dCons (dC (.int 0)) (dCons (dC (.int 1)) dNil))))) 1)
  (dSeq (dFor (diSq (dVar 0)) (hName 2) (dSet (dFn c_law_product 2 (dCons (dVar 1) (dCons (dDictIx [("s", (dTup (dCons (dC (.int 0)) (dCons (dC (.int 1)) (dCons (dUn negF (dC (.int 1))) (dCons (dC (.int 0)) dNil)))))), ("r", (dTup (dCons (dC (.int 0)) (dCons (dC (.int 1)) (dCons (dUn negF (dC (.int 1))) (dCons (dUn negF (dC (.int 1))) dNil)))))), ("R", (dTup (dCons (dC (.int 1)) (dCons (dC (.int 1)) (dCons (dUn negF (dC (.int 1))) (dCons (dC (.int 0)) dNil))))))] (dVar 2)) dNil))) 1))
  (dRet (dVar 1))))
theorem chars_wS (w : List Lt) : chars (wS w) = w.map fun x => D.str (wS [x]) := by
  unfold chars
  rw [wS_toList, List.map_map]
  rfl
theorem wS_r : ("r" : Str) = wS [.r] := by decide +kernel
theorem wS_R : ("R" : Str) = wS [.R] := by decide +kernel
theorem wS_eq {a b : List Lt} : (wS a = wS b) = (a = b) := propext ⟨wS_inj, fun e => by rw [e]⟩
theorem dict_letters (x : Lt) : lastD [("s", mvD Lt.s.mv), ("r", mvD Lt.r.mv), ("R", mvD Lt.R.mv)] (wS [x]) = some (mvD x.mv) := by
  simp only [lastD, wS_s, wS_r, wS_R, wS_eq]
  cases x <;> simp
theorem b_law_move {as : List D} {M : DM} {Qd : DK} {Xd : DX} (hl : as.length = 1) (h : sp_law_move as M Qd Xd) : d_law_move sp_law_product (endsD Qd Xd) (startD 3 as) M := by
  obtain ⟨w, rfl, hw, q⟩ := h
  unfold d_law_move
  simp only [atI_0, atI_1, atI_2, atI_3, ixN31, ixN32, ixN30, startD, List.map_cons, List.map_nil, List.length_cons, List.length_nil, List.cons_append, List.nil_append, Nat.reduceAdd, Nat.reduceSub, List.replicate, List.getElem?_cons_zero, List.getElem?_cons_succ, List.set_cons_zero, List.set_cons_succ, List.set_nil, true_and, and_true, if_true, ite_true]
  refine go_seq fun k hk => ?_; simp only [dSet, dAsg, dPar, dAug, dRet, dRetN, dDrop, dNext, dNever, dBreak, dCont, diSq, diR1, diR2, items, onI1, onI2, dVar, dC, dOp, dUn, dTest, onB, dAnd, dOr, dNot, dAndV, dOrV, dNotV, dIf, dNil, dCons, dTup, dLst, dLstM, dCall, dFn, hName, hNil, hCons, hSeq, hSub, setF, onSeq, seqD, dSl, doNo, doAt, onI, slF, lstV, lstM, on2, addF, mulF, iF, CT, negF, cmpF, id, ixF, onO, lenF, absF, maxF, minF, tupleF, listF, listFM, reprF, on1, dDictIx, dPairs, onS, lastD, dComp, bName, bSeq, bNames, dYes, wipeD, subF, fdivF, modF, powF, ltF, leF, gtF, geF, eqF, neF, endsD, atI_0, atI_1, atI_2, atI_3, ixN31, ixN32, ixN30, startD, List.map_cons, List.map_nil, List.length_cons, List.length_nil, List.cons_append, List.nil_append, Nat.reduceAdd, Nat.reduceSub, List.replicate, List.getElem?_cons_zero, List.getElem?_cons_succ, List.set_cons_zero, List.set_cons_succ, List.set_nil, true_and, and_true, if_true, ite_true]; subst hk
  refine ⟨by decide, ?_⟩
  refine go_seq fun k hk => ?_
  simp only [dFor, diSq, dVar, items, atI_0, atI_1, atI_2, atI_3, ixN31, ixN32, ixN30, startD, List.map_cons, List.map_nil, List.length_cons, List.length_nil, List.cons_append, List.nil_append, Nat.reduceAdd, Nat.reduceSub, List.replicate, List.getElem?_cons_zero, List.getElem?_cons_succ, List.set_cons_zero, List.set_cons_succ, List.set_nil, true_and, and_true, if_true, ite_true]
  rw [chars_wS]
  refine dLoop_inv (fun ds ρ M' => M' = M ∧ ∃ (suf : List Lt) (m : Mv) (n : Nat) (o : Option D), ds = suf.map (fun x => D.str (wS [x])) ∧ ρ = [some (.str (wS w)), some (mvD m), o] ∧ moveL m suf = moveW w ∧ Good n m ∧ n + suf.length ≤ w.length) ?_ ?_ _ _ _ ⟨rfl, w, one, 0, none, rfl, rfl, rfl, Good.one, by omega⟩
  · rintro ρ M' ⟨rfl, suf, m, n, o, e, rfl, em, hg, hn⟩
    have e2 : suf = [] := by
      cases suf with
      | nil => rfl
      | cons x r => cases e
    subst e2
    subst hk
    simp only [dSet, dAsg, dPar, dAug, dRet, dRetN, dDrop, dNext, dNever, dBreak, dCont, diSq, diR1, diR2, items, onI1, onI2, dVar, dC, dOp, dUn, dTest, onB, dAnd, dOr, dNot, dAndV, dOrV, dNotV, dIf, dNil, dCons, dTup, dLst, dLstM, dCall, dFn, hName, hNil, hCons, hSeq, hSub, setF, onSeq, seqD, dSl, doNo, doAt, onI, slF, lstV, lstM, on2, addF, mulF, iF, CT, negF, cmpF, id, ixF, onO, lenF, absF, maxF, minF, tupleF, listF, listFM, reprF, on1, dDictIx, dPairs, onS, lastD, dComp, bName, bSeq, bNames, dYes, wipeD, subF, fdivF, modF, powF, ltF, leF, gtF, geF, eqF, neF, endsD, atI_0, atI_1, atI_2, atI_3, ixN31, ixN32, ixN30, startD, List.map_cons, List.map_nil, List.length_cons, List.length_nil, List.cons_append, List.nil_append, Nat.reduceAdd, Nat.reduceSub, List.replicate, List.getElem?_cons_zero, List.getElem?_cons_succ, List.set_cons_zero, List.set_cons_succ, List.set_nil, true_and, and_true, if_true, ite_true]
    have e3 : m = moveW w := em
    rw [e3]
    exact rtD.of q
  · rintro d r ρ M' ⟨rfl, suf, m, n, o, e, rfl, em, hg, hn⟩ nx hnx
    cases suf with
    | nil => cases e
    | cons x suf =>
      rw [List.map_cons] at e
      injection e with e1 e2
      subst e1 e2
      simp only [hName, dSet, dFn, dCons, dNil, dDictIx, dPairs, dTup, dC, dUn, negF, dVar, onS, atI_0, atI_1, atI_2, atI_3, ixN31, ixN32, ixN30, startD, List.map_cons, List.map_nil, List.length_cons, List.length_nil, List.cons_append, List.nil_append, Nat.reduceAdd, Nat.reduceSub, List.replicate, List.getElem?_cons_zero, List.getElem?_cons_succ, List.set_cons_zero, List.set_cons_succ, List.set_nil, true_and, and_true, if_true, ite_true]
      refine ⟨by decide, by decide, by decide, by decide, ?_⟩
      have e3 := dict_letters x
      simp only [mvD, intsD, Mv.l, Lt.mv, List.map_cons, List.map_nil] at e3
      rw [e3]
      refine ⟨by cases x <;> simp [noL, noLs], m, x.mv, n, 1, rfl, hg.bn, ?_, by omega, hnx _ _ ⟨rfl, suf, _, n + 1, _, rfl, rfl, em, hg.letter x, by rw [List.length_cons] at hn; omega⟩⟩
      cases x <;> (unfold Bn Lt.mv; decide)
/-! ### what the laws ask of moves -/
theorem pyOf_mv (m : Mv) : pyOf (mvD m) = some (.tuple (m.l.map PyData.int)) := by
  unfold mvD intsD
  simp only [pyOf, pyOfs_ints, Option.map_some]
theorem pyM_mv (m : Mv) (M : DM) : pyM M (mvD m) = some (.tuple (m.l.map PyData.int)) := pyOf_mv m
def shownMv (m : Mv) : Str := (PyData.tuple (m.l.map PyData.int)).shown
theorem strLen (x y : Str) : (x ++ y).length = x.length + y.length := by
  show (Str.mk _).cps.size = _
  exact Array.size_append
theorem piled_map {α : Type} (f : α → Str) (b : Nat) : ∀ xs : List α, (∀ x ∈ xs, (f x).length ≤ b) → piled (xs.map f) ≤ xs.length * (b + 2)
  | [], _ => Nat.zero_le _
  | x :: xs, h => by
    have ih := piled_map f b xs fun y hy => h y (List.mem_cons_of_mem _ hy)
    have hx := h x List.mem_cons_self
    rw [List.map_cons, piled_cons, List.length_cons, Nat.add_mul]
    omega
theorem tupleText_len (ts : List Str) : (tupleText ts).length ≤ piled ts + 3 := by
  unfold tupleText
  rw [strLen, strLen]
  have e1 : (("(" : Str)).length = 1 := by decide +kernel
  have e2 : ((if ts.length == 1 then ",)" else ")" : String) : Str).length ≤ 2 := by
    split <;> decide +kernel
  have e3 : (Str.join ", " ts).length ≤ piled ts := by
    by_cases h : ts = []
    · subst h
      decide +kernel
    · have := join_length_add ts h
      omega
  have e4 : (Str.ofString (if (ts.length == 1) = true then ",)" else ")")).length ≤ 2 := e2
  omega
theorem shownAll_ints : ∀ ns : List Int, PyData.shownAll (ns.map PyData.int) = ns.map fun i => Str.ofString (toString i)
  | [] => by simp [PyData.shownAll]
  | n :: ns => by
    simp only [List.map_cons, PyData.shownAll, PyData.shown, shownAll_ints ns]
theorem show_ints : ∀ ns : List Int, (∀ n ∈ ns, n.natAbs.log2 < 1920) → PyData.showableAll (ns.map PyData.int) = true
  | [], _ => by simp [PyData.showableAll]
  | n :: ns, h => by
    simp only [List.map_cons, PyData.showableAll, PyData.showable, Bool.and_eq_true, decide_eq_true_eq]
    exact ⟨h n List.mem_cons_self, show_ints ns fun m hm => h m (List.mem_cons_of_mem _ hm)⟩
theorem repr_ints {M : DM} {ns : List Int} {Q : DK} (h : ∀ n ∈ ns, n.natAbs.log2 < 1920) (hl : ns.length ≤ 1000) (q : Q (.str (PyData.tuple (ns.map PyData.int)).shown) M) : reprF [intsD ns] M Q := by
  have e : pyM M (intsD ns) = some (.tuple (ns.map PyData.int)) := by
    unfold intsD
    simp only [pyM, pyOf, pyOfs_ints, Option.map_some]
  simp only [reprF, on1, e, onO]
  refine ⟨?_, ?_, ?_, q⟩
  · unfold PyData.showable
    exact show_ints ns h
  · have := depth_ints ns
    unfold PyData.depth
    omega
  · unfold PyData.shown
    rw [shownAll_ints]
    refine Nat.le_trans (tupleText_len _) ?_
    have := piled_map (fun i : Int => Str.ofString (toString i)) 1921 ns fun i hi => by
      rw [ofString_length]
      exact int_text_length_le (k := 1920) (by decide) (h i hi)
    have h2 : ns.length * (1921 + 2) ≤ 1000 * 1923 := Nat.mul_le_mul hl (by decide)
    rw [sizeLine_eq]
    omega
theorem log2_of_le {n k : Nat} (h : n ≤ 2 ^ k) (hk : k ≤ 1900) : n.log2 < 1920 := by
  have h0 := Nat.two_pow_pos k
  have h1 : n < 2 ^ (k + 1) := by rw [Nat.pow_succ]; omega
  exact Nat.lt_of_lt_of_le (PySem.Flt.log2_lt_of (by omega) h1) (by omega : k + 1 ≤ 1920)
theorem Bn.log2 {k : Nat} {m : Mv} (h : Bn k m) (hk : k ≤ 1900) : ∀ n ∈ m.l, n.natAbs.log2 < 1920 := by
  obtain ⟨a, b, c, d⟩ := h
  intro n hn
  simp only [Mv.l, List.mem_cons, List.not_mem_nil, or_false] at hn
  rcases hn with rfl | rfl | rfl | rfl
  · exact log2_of_le a hk
  · exact log2_of_le b hk
  · exact log2_of_le c hk
  · exact log2_of_le d hk
theorem repr_mv {M : DM} {m : Mv} {k : Nat} {Q : DK} (h : Bn k m) (hk : k ≤ 1900) (q : Q (.str (shownMv m)) M) : reprF [mvD m] M Q :=
  repr_ints (Bn.log2 h hk) (by simp [Mv.l]) q
theorem eqv_ints : ∀ ns ms : List Int, PyData.eqvAll (ns.map PyData.int) (ms.map PyData.int) = decide (ns = ms)
  | [], [] => by simp [PyData.eqvAll]
  | [], _ :: _ => by simp [PyData.eqvAll]
  | _ :: _, [] => by simp [PyData.eqvAll]
  | n :: ns, m :: ms => by
    simp only [List.map_cons, PyData.eqvAll, PyData.eqv, eqv_ints ns ms, List.cons.injEq]
    by_cases h : n = m <;> simp [h]
theorem cmp_intsD {f : Bool → Bool} {M : DM} {ns ms : List Int} {Q : DK} (q : Q (.bl (f (decide (ns = ms)))) M) : cmpF f (intsD ns) (intsD ms) M Q := by
  have e : ∀ ns : List Int, pyM M (.tup (ns.map D.int)) = some (.tuple (ns.map PyData.int)) := fun ns => by
    simp only [pyM, pyOf, pyOfs_ints, Option.map_some]
  unfold intsD
  simp only [cmpF, e, onP, PyData.eqv, eqv_ints]
  exact ⟨(shaped_ints ns).2, (shaped_ints ms).2, q⟩
theorem l_inj {m n : Mv} : (m.l = n.l) = (m = n) := by
  refine propext ⟨fun h => ?_, fun h => by rw [h]⟩
  simp only [Mv.l, List.cons.injEq, and_true] at h
  exact Wm.ext h.1 h.2.1 h.2.2.1 h.2.2.2
theorem cmp_mv {f : Bool → Bool} {M : DM} {m n : Mv} {Q : DK} (q : Q (.bl (f (decide (m = n)))) M) : cmpF f (mvD m) (mvD n) M Q := by
  refine cmp_intsD ?_
  have e : decide (m.l = n.l) = decide (m = n) := by simp only [l_inj]
  rw [e]
  exact q
end DP

set_option linter.all false
set_option Elab.async false
/-! Values: fractions and infinity, in plain Lean. -/
namespace Wm
structure Vl where
  p : Int
  q : Int
  deriving DecidableEq
def Vl.l (v : Vl) : List Int := [v.p, v.q]
def vneg (v : Vl) : Vl := ⟨-v.p, -v.q⟩
/-- the sign with the second number positive, or 0 and the first one not negative -/
def nrm (v : Vl) : Vl := if v.q < 0 ∨ v.q = 0 ∧ v.p < 0 then vneg v else v
/-- what a move makes of a pair, before the sign -/
def app (m : Mv) (v : Vl) : Vl := ⟨m.a * v.p + m.b * v.q, m.c * v.p + m.d * v.q⟩
abbrev act (m : Mv) (v : Vl) : Vl := nrm (app m v)
theorem vext {u v : Vl} (h1 : u.p = v.p) (h2 : u.q = v.q) : u = v := by
  cases u; cases v; simp at *; exact ⟨h1, h2⟩
theorem vneg_vneg (v : Vl) : vneg (vneg v) = v := by cases v; simp [vneg]
theorem nrm_or (v : Vl) : nrm v = v ∨ nrm v = vneg v := by
  unfold nrm
  split
  · exact .inr rfl
  · exact .inl rfl
theorem nrm_neg (v : Vl) : nrm (vneg v) = nrm v := by
  obtain ⟨p, q⟩ := v
  unfold nrm vneg
  dsimp only
  by_cases h : q < 0 ∨ q = 0 ∧ p < 0
  · rw [if_pos h, if_neg (by omega)]
  · rw [if_neg h]
    by_cases z : p = 0 ∧ q = 0
    · obtain ⟨rfl, rfl⟩ := z
      simp
    · rw [if_pos (by omega)]
      simp
theorem nrm_nrm (v : Vl) : nrm (nrm v) = nrm v := by
  rcases nrm_or v with h | h
  · rw [h, h]
  · rw [h, nrm_neg, h]
theorem app_vneg (m : Mv) (v : Vl) : app m (vneg v) = vneg (app m v) := by
  apply vext <;> simp [app, vneg, Int.neg_add, Int.mul_neg]
theorem app_neg (m : Mv) (v : Vl) : app (neg m) v = vneg (app m v) := by
  apply vext <;> simp [app, vneg, neg, Int.neg_add, Int.neg_mul]
theorem act_nrm (m : Mv) (v : Vl) : act m (nrm v) = act m v := by
  rcases nrm_or v with h | h
  · rw [h]
  · rw [h]; unfold act; rw [app_vneg, nrm_neg]
theorem act_sgn (m : Mv) (v : Vl) : act (sgn m) v = act m v := by
  rcases sgn_or m with h | h
  · rw [h]
  · rw [h]; unfold act; rw [app_neg, nrm_neg]
theorem app_mul (m n : Mv) (v : Vl) : app n (app m v) = app (mul m n) v := by
  apply vext <;> simp only [app, mul, Int.mul_add, Int.add_mul, Int.mul_assoc] <;> omega
theorem act_act (m n : Mv) (v : Vl) : act n (act m v) = act (sgn (mul m n)) v := by
  rw [act_sgn]
  show act n (nrm (app m v)) = _
  rw [act_nrm]
  unfold act
  rw [app_mul]
theorem act_one (v : Vl) : act one v = nrm v := by
  unfold act
  congr 1
  apply vext <;> simp [app, one]
theorem act_inv (m : Mv) (v : Vl) (h : det m = 1) : act (sgn (inv m)) (act m v) = nrm v := by
  rw [act_act, sgn_mul_r, act_sgn, mul_inv m h, act_one]
theorem act_inj (m : Mv) (u v : Vl) (h : det m = 1) (hu : nrm u = u) (hv : nrm v = v) : (act m u = act m v) = (u = v) := by
  refine propext ⟨fun e => ?_, fun e => by rw [e]⟩
  have := congrArg (act (sgn (inv m))) e
  rw [act_inv m u h, act_inv m v h, hu, hv] at this
  exact this
/-- no common divisor -/
def Cop (v : Vl) : Prop := ∃ x y : Int, x * v.p + y * v.q = 1
theorem Cop.vneg {v : Vl} (h : Cop v) : Cop (vneg v) := by
  obtain ⟨x, y, h⟩ := h
  exact ⟨-x, -y, by simp only [Wm.vneg, Int.neg_mul_neg]; exact h⟩
theorem Cop.nrm {v : Vl} (h : Cop v) : Cop (nrm v) := by
  rcases nrm_or v with e | e
  · rw [e]; exact h
  · rw [e]; exact h.vneg
theorem Cop.app {m : Mv} {v : Vl} (h : Cop v) (hm : det m = 1) : Cop (app m v) := by
  obtain ⟨x, y, h⟩ := h
  refine ⟨m.d * x - m.c * y, m.a * y - m.b * x, ?_⟩
  obtain ⟨a, b, c, d⟩ := m
  obtain ⟨p, q⟩ := v
  simp only [det, Wm.app] at *
  have e : (d * x - c * y) * (a * p + b * q) + (a * y - b * x) * (c * p + d * q) = (a * d - b * c) * (x * p + y * q) := by
    simp only [Int.sub_mul, Int.mul_sub, Int.add_mul, Int.mul_add]
    simp only [Int.mul_assoc, Int.mul_comm, Int.mul_left_comm]
    omega
  rw [e, h, hm]
  rfl
theorem Cop.gcd {v : Vl} (h : Cop v) : Int.gcd v.p v.q = 1 := by
  obtain ⟨x, y, h⟩ := h
  have d1 : (Int.gcd v.p v.q : Int) ∣ 1 := by
    rw [← h]
    exact Int.dvd_add (Int.dvd_trans (Int.gcd_dvd_left ..) (Int.dvd_mul_left _ _)) (Int.dvd_trans (Int.gcd_dvd_right ..) (Int.dvd_mul_left _ _))
  have := Int.le_of_dvd (by decide) d1
  have h0 : (0 : Int) ≤ Int.gcd v.p v.q := Int.natCast_nonneg _
  have h2 : Int.gcd v.p v.q ≠ 0 := by
    intro z
    rw [z] at d1
    have := Int.zero_dvd.mp d1
    cases this
  omega
theorem bezN : ∀ (n a b : Nat), b ≤ n → ∃ x y : Int, (Nat.gcd a b : Int) = (a : Int) * x + (b : Int) * y
  | n, a, 0, _ => ⟨1, 0, by simp⟩
  | 0, a, b + 1, h => absurd h (by omega)
  | n + 1, a, b + 1, h => by
    have lt : a % (b + 1) ≤ n := by
      have := Nat.mod_lt a (show 0 < b + 1 by omega)
      omega
    obtain ⟨x, y, e⟩ := bezN n (b + 1) (a % (b + 1)) lt
    refine ⟨y, x - ((a / (b + 1) : Nat) : Int) * y, ?_⟩
    have g : Nat.gcd a (b + 1) = Nat.gcd (b + 1) (a % (b + 1)) := by
      rw [Nat.gcd_comm a, Nat.gcd_rec (b + 1) a, Nat.gcd_comm]
    have dm : ((a % (b + 1) : Nat) : Int) = (a : Int) - ((b + 1 : Nat) : Int) * ((a / (b + 1) : Nat) : Int) := by
      have := Nat.mod_add_div a (b + 1)
      have h2 : ((a % (b + 1) + (b + 1) * (a / (b + 1)) : Nat) : Int) = (a : Int) := by rw [this]
      rw [Int.natCast_add, Int.natCast_mul] at h2
      omega
    rw [g, e, dm, Int.sub_mul, Int.mul_sub, Int.mul_assoc]
    omega
theorem bez (p q : Int) : ∃ x y : Int, (Int.gcd p q : Int) = p * x + q * y := by
  obtain ⟨x, y, e⟩ := bezN q.natAbs p.natAbs q.natAbs (Nat.le_refl _)
  have f : ∀ z w : Int, ∃ u : Int, (z.natAbs : Int) * w = z * u := by
    intro z w
    rcases Int.natAbs_eq z with h | h
    · exact ⟨w, by rw [← h]⟩
    · exact ⟨-w, by rw [Int.mul_neg, ← Int.neg_mul]; congr 1; omega⟩
  obtain ⟨u, hu⟩ := f p x
  obtain ⟨v, hv⟩ := f q y
  exact ⟨u, v, by rw [← hu, ← hv]; exact e⟩
/-- a value: in lowest terms, its sign as it should be -/
structure Val (v : Vl) : Prop where
  cop : Cop v
  nm : nrm v = v
theorem Val.act {m : Mv} {v : Vl} (h : Val v) (hm : det m = 1) : Val (act m v) := ⟨(h.cop.app hm).nrm, nrm_nrm _⟩
theorem Val.inf : Val ⟨1, 0⟩ := ⟨⟨1, 0, rfl⟩, by decide⟩
theorem Val.zero : Val ⟨0, 1⟩ := ⟨⟨0, 1, rfl⟩, by decide⟩
/-- coprime after dividing by the greatest common divisor -/
theorem Val.frac {p q : Int} (hq : 0 < q) : Val ⟨p / (Int.gcd p q : Int), q / (Int.gcd p q : Int)⟩ := by
  have g0 : 0 < Int.gcd p q := Int.gcd_pos_of_ne_zero_right _ (by omega)
  have g1 : (0 : Int) < Int.gcd p q := by omega
  have dl := Int.gcd_dvd_left p q
  have dr := Int.gcd_dvd_right p q
  refine ⟨?_, ?_⟩
  · obtain ⟨x, y, e⟩ : ∃ x y : Int, (Int.gcd p q : Int) = p * x + q * y := bez p q
    refine ⟨x, y, ?_⟩
    show x * (p / _) + y * (q / _) = 1
    have e1 : (Int.gcd p q : Int) * (x * (p / (Int.gcd p q : Int)) + y * (q / (Int.gcd p q : Int))) = (Int.gcd p q : Int) * 1 := by
      have a := Int.mul_ediv_cancel' dl
      have b := Int.mul_ediv_cancel' dr
      rw [Int.mul_add, Int.mul_left_comm, Int.mul_left_comm _ y, a, b, Int.mul_one, Int.mul_comm x, Int.mul_comm y]
      exact e.symm
    exact Int.eq_of_mul_eq_mul_left (by omega) e1
  · unfold nrm
    rw [if_neg]
    have : 0 < q / (Int.gcd p q : Int) := Int.ediv_pos_of_pos_of_dvd hq (Int.le_of_lt g1) dr
    dsimp only
    omega
/-- how large -/
def Vn (n : Nat) (v : Vl) : Prop := v.p.natAbs ≤ 2 ^ n ∧ v.q.natAbs ≤ 2 ^ n
theorem Vn.mono {j k : Nat} {v : Vl} (h : Vn j v) (l : j ≤ k) : Vn k v := by
  have e : 2 ^ j ≤ 2 ^ k := Nat.pow_le_pow_right (by omega) l
  exact ⟨Nat.le_trans h.1 e, Nat.le_trans h.2 e⟩
theorem Vn.nrm {n : Nat} {v : Vl} (h : Vn n v) : Vn n (nrm v) := by
  rcases nrm_or v with e | e
  · rw [e]; exact h
  · rw [e]; unfold Vn vneg at *; simpa using h
theorem Vn.act {j k : Nat} {m : Mv} {v : Vl} (hm : Bn j m) (h : Vn k v) : Vn (j + k + 1) (act m v) :=
  Vn.nrm ⟨dot_le hm.1 h.1 hm.2.1 h.2, dot_le hm.2.2.1 h.1 hm.2.2.2 h.2⟩
end Wm

set_option Elab.async false
set_option linter.all false
set_option maxRecDepth 100000
set_option maxHeartbeats 4000000
namespace DP
open PySem PySem.Spec L2 DL Wm
/-! ### values -/
def vlD (v : Vl) : D := intsD v.l
theorem sgn_if {A B : Prop} {t b : Int} (h : if b < 0 ∨ b = 0 ∧ t < 0 then A else B) : if decide (b < 0) = true then A else if decide (b = 0) = true then if decide (t < 0) = true then A else B else B := by
  by_cases h1 : b < 0
  · rw [if_pos (.inl h1)] at h
    rw [if_pos (by simpa using h1)]
    exact h
  · rw [if_neg (by simpa using h1)]
    by_cases h2 : b = 0
    · rw [if_pos (by simpa using h2)]
      by_cases h3 : t < 0
      · rw [if_pos (.inr ⟨h2, h3⟩)] at h
        rw [if_pos (by simpa using h3)]
        exact h
      · rw [if_neg (by omega)] at h
        rw [if_neg (by simpa using h3)]
        exact h
    · rw [if_neg (by simpa using h2)]
      rw [if_neg (by omega)] at h
      exact h
def sp_act : DSp := fun as M Q _ => ∃ (m : Mv) (v : Vl) (j k : Nat), as = [mvD m, vlD v] ∧ Bn j m ∧ Vn k v ∧ j + k ≤ 900000 ∧ Q (vlD (act m v)) M
def d_act : DS :=
  (dSeq (dAsg (dVar 0) (hSeq 4 (hCons (hName 2) (hCons (hName 3) (hCons (hName 4) (hCons (hName 5) hNil))))))
  (dSeq (dAsg (dVar 1) (hSeq 2 (hCons (hName 6) (hCons (hName 7) hNil))))
  (dSeq (dPar 8 9 (dCons (dOp addF (dOp mulF (dVar 2) (dVar 6)) (dOp mulF (dVar 3) (dVar 7))) (dCons (dOp addF (dOp mulF (dVar 4) (dVar 6)) (dOp mulF (dVar 5) (dVar 7))) dNil)))
  (dSeq (dIfS (dOr (dTest (dOp ltF (dVar 9) (dC (.int 0)))) (dAnd (dTest (dOp eqF (dVar 9) (dC (.int 0)))) (dTest (dOp ltF (dVar 8) (dC (.int 0)))))) (dRet (dTup (dCons (dUn negF (dVar 8)) (dCons (dUn negF (dVar 9)) dNil)))) dNext)
  (dRet (dTup (dCons (dVar 8) (dCons (dVar 9) dNil))))))))
theorem nrm_if {C : Vl → Prop} {t b : Int} (h : C (nrm ⟨t, b⟩)) : if b < 0 ∨ b = 0 ∧ t < 0 then C ⟨-t, -b⟩ else C ⟨t, b⟩ := by
  unfold nrm at h
  dsimp only at h
  split at h
  · rename_i z
    rw [if_pos z]
    exact h
  · rename_i z
    rw [if_neg z]
    exact h
theorem b_act {as : List D} {M : DM} {Qd : DK} {Xd : DX} (hl : as.length = 2) (h : sp_act as M Qd Xd) : d_act (endsD Qd Xd) (startD 10 as) M := by
  obtain ⟨m, v, j, k, rfl, ⟨m1, m2, m3, m4⟩, ⟨v1, v2⟩, hjk, q⟩ := h
  have c : ∀ {x y : Int}, x.natAbs ≤ 2 ^ j → y.natAbs ≤ 2 ^ k → MulC x y := fun hx hy => mulC_of hx hy (by omega)
  unfold d_act
  simp only [atI_0, atI_1, atI_2, atI_3, ixN31, ixN32, ixN30, startD, List.map_cons, List.map_nil, List.length_cons, List.length_nil, List.cons_append, List.nil_append, Nat.reduceAdd, Nat.reduceSub, List.replicate, List.getElem?_cons_zero, List.getElem?_cons_succ, List.set_cons_zero, List.set_cons_succ, List.set_nil, true_and, and_true, if_true, ite_true]
  refine go_seq fun k hk => ?_; simp only [mvD, vlD, intsD, Mv.l, Vl.l, dSet, dAsg, dPar, dAug, dRet, dRetN, dDrop, dNext, dNever, dBreak, dCont, diSq, diR1, diR2, items, onI1, onI2, dVar, dC, dOp, dUn, dTest, onB, dAnd, dOr, dNot, dAndV, dOrV, dNotV, dIf, dNil, dCons, dTup, dLst, dLstM, dCall, dFn, hName, hNil, hCons, hSeq, hSub, setF, onSeq, seqD, dSl, doNo, doAt, onI, slF, lstV, lstM, on2, addF, mulF, iF, CT, negF, cmpF, id, ixF, onO, lenF, absF, maxF, minF, tupleF, listF, listFM, reprF, on1, dDictIx, dPairs, onS, lastD, dComp, bName, bSeq, bNames, dYes, wipeD, subF, fdivF, modF, powF, ltF, leF, gtF, geF, eqF, neF, endsD, atI_0, atI_1, atI_2, atI_3, ixN31, ixN32, ixN30, startD, List.map_cons, List.map_nil, List.length_cons, List.length_nil, List.cons_append, List.nil_append, Nat.reduceAdd, Nat.reduceSub, List.replicate, List.getElem?_cons_zero, List.getElem?_cons_succ, List.set_cons_zero, List.set_cons_succ, List.set_nil, true_and, and_true, if_true, ite_true]; subst hk
  refine go_seq fun k hk => ?_; simp only [mvD, vlD, intsD, Mv.l, Vl.l, dSet, dAsg, dPar, dAug, dRet, dRetN, dDrop, dNext, dNever, dBreak, dCont, diSq, diR1, diR2, items, onI1, onI2, dVar, dC, dOp, dUn, dTest, onB, dAnd, dOr, dNot, dAndV, dOrV, dNotV, dIf, dNil, dCons, dTup, dLst, dLstM, dCall, dFn, hName, hNil, hCons, hSeq, hSub, setF, onSeq, seqD, dSl, doNo, doAt, onI, slF, lstV, lstM, on2, addF, mulF, iF, CT, negF, cmpF, id, ixF, onO, lenF, absF, maxF, minF, tupleF, listF, listFM, reprF, on1, dDictIx, dPairs, onS, lastD, dComp, bName, bSeq, bNames, dYes, wipeD, subF, fdivF, modF, powF, ltF, leF, gtF, geF, eqF, neF, endsD, atI_0, atI_1, atI_2, atI_3, ixN31, ixN32, ixN30, startD, List.map_cons, List.map_nil, List.length_cons, List.length_nil, List.cons_append, List.nil_append, Nat.reduceAdd, Nat.reduceSub, List.replicate, List.getElem?_cons_zero, List.getElem?_cons_succ, List.set_cons_zero, List.set_cons_succ, List.set_nil, true_and, and_true, if_true, ite_true]; subst hk
  refine go_seq fun k hk => ?_; simp only [dSet, dAsg, dPar, dAug, dRet, dRetN, dDrop, dNext, dNever, dBreak, dCont, diSq, diR1, diR2, items, onI1, onI2, dVar, dC, dOp, dUn, dTest, onB, dAnd, dOr, dNot, dAndV, dOrV, dNotV, dIf, dNil, dCons, dTup, dLst, dLstM, dCall, dFn, hName, hNil, hCons, hSeq, hSub, setF, onSeq, seqD, dSl, doNo, doAt, onI, slF, lstV, lstM, on2, addF, mulF, iF, CT, negF, cmpF, id, ixF, onO, lenF, absF, maxF, minF, tupleF, listF, listFM, reprF, on1, dDictIx, dPairs, onS, lastD, dComp, bName, bSeq, bNames, dYes, wipeD, subF, fdivF, modF, powF, ltF, leF, gtF, geF, eqF, neF, endsD, atI_0, atI_1, atI_2, atI_3, ixN31, ixN32, ixN30, startD, List.map_cons, List.map_nil, List.length_cons, List.length_nil, List.cons_append, List.nil_append, Nat.reduceAdd, Nat.reduceSub, List.replicate, List.getElem?_cons_zero, List.getElem?_cons_succ, List.set_cons_zero, List.set_cons_succ, List.set_nil, true_and, and_true, if_true, ite_true]; subst hk
  refine ⟨c m1 v1, c m2 v2, c m3 v1, c m4 v2, ?_⟩
  refine go_seq fun k hk => ?_; simp only [dIfS, dSet, dAsg, dPar, dAug, dRet, dRetN, dDrop, dNext, dNever, dBreak, dCont, diSq, diR1, diR2, items, onI1, onI2, dVar, dC, dOp, dUn, dTest, onB, dAnd, dOr, dNot, dAndV, dOrV, dNotV, dIf, dNil, dCons, dTup, dLst, dLstM, dCall, dFn, hName, hNil, hCons, hSeq, hSub, setF, onSeq, seqD, dSl, doNo, doAt, onI, slF, lstV, lstM, on2, addF, mulF, iF, CT, negF, cmpF, id, ixF, onO, lenF, absF, maxF, minF, tupleF, listF, listFM, reprF, on1, dDictIx, dPairs, onS, lastD, dComp, bName, bSeq, bNames, dYes, wipeD, subF, fdivF, modF, powF, ltF, leF, gtF, geF, eqF, neF, endsD, atI_0, atI_1, atI_2, atI_3, ixN31, ixN32, ixN30, startD, List.map_cons, List.map_nil, List.length_cons, List.length_nil, List.cons_append, List.nil_append, Nat.reduceAdd, Nat.reduceSub, List.replicate, List.getElem?_cons_zero, List.getElem?_cons_succ, List.set_cons_zero, List.set_cons_succ, List.set_nil, true_and, and_true, if_true, ite_true]; subst hk
  simp only [dSet, dAsg, dPar, dAug, dRet, dRetN, dDrop, dNext, dNever, dBreak, dCont, diSq, diR1, diR2, items, onI1, onI2, dVar, dC, dOp, dUn, dTest, onB, dAnd, dOr, dNot, dAndV, dOrV, dNotV, dIf, dNil, dCons, dTup, dLst, dLstM, dCall, dFn, hName, hNil, hCons, hSeq, hSub, setF, onSeq, seqD, dSl, doNo, doAt, onI, slF, lstV, lstM, on2, addF, mulF, iF, CT, negF, cmpF, id, ixF, onO, lenF, absF, maxF, minF, tupleF, listF, listFM, reprF, on1, dDictIx, dPairs, onS, lastD, dComp, bName, bSeq, bNames, dYes, wipeD, subF, fdivF, modF, powF, ltF, leF, gtF, geF, eqF, neF, endsD, atI_0, atI_1, atI_2, atI_3, ixN31, ixN32, ixN30, startD, List.map_cons, List.map_nil, List.length_cons, List.length_nil, List.cons_append, List.nil_append, Nat.reduceAdd, Nat.reduceSub, List.replicate, List.getElem?_cons_zero, List.getElem?_cons_succ, List.set_cons_zero, List.set_cons_succ, List.set_nil, true_and, and_true, if_true, ite_true]
  refine sgn_if ?_
  refine nrm_if (C := fun v => 2 ≤ sizeLine ∧ rtD Qd (.tup [.int v.p, .int v.q]) M) ?_
  exact ⟨by decide, rtD.of q⟩
def sp_law_acted : DSp := sp_act
def d_law_acted : DS :=
  (dSeq (dSet (dOp addF (dOp mulF (dOp ixF (dVar 0) (dC (.int 0))) (dOp ixF (dVar 1) (dC (.int 0)))) (dOp mulF (dOp ixF (dVar 0) (dC (.int 1))) (dOp ixF (dVar 1) (dC (.int 1))))) 2)
  (dSeq (dSet (dOp addF (dOp mulF (dOp ixF (dVar 0) (dC (.int 2))) (dOp ixF (dVar 1) (dC (.int 0)))) (dOp mulF (dOp ixF (dVar 0) (dC (.int 3))) (dOp ixF (dVar 1) (dC (.int 1))))) 3)
  (dSeq (dIfS (dOr (dTest (dOp ltF (dVar 3) (dC (.int 0)))) (dAnd (dTest (dOp eqF (dVar 3) (dC (.int 0)))) (dTest (dOp ltF (dVar 2) (dC (.int 0)))))) (dPar 2 3 (dCons (dUn negF (dVar 2)) (dCons (dUn negF (dVar 3)) dNil))) dNext)
  (dRet (dTup (dCons (dVar 2) (dCons (dVar 3) dNil)))))))
theorem b_law_acted {as : List D} {M : DM} {Qd : DK} {Xd : DX} (hl : as.length = 2) (h : sp_law_acted as M Qd Xd) : d_law_acted (endsD Qd Xd) (startD 4 as) M := by
  obtain ⟨m, v, j, k, rfl, ⟨m1, m2, m3, m4⟩, ⟨v1, v2⟩, hjk, q⟩ := h
  have c : ∀ {x y : Int}, x.natAbs ≤ 2 ^ j → y.natAbs ≤ 2 ^ k → MulC x y := fun hx hy => mulC_of hx hy (by omega)
  unfold d_law_acted
  simp only [atI_0, atI_1, atI_2, atI_3, ixN31, ixN32, ixN30, startD, List.map_cons, List.map_nil, List.length_cons, List.length_nil, List.cons_append, List.nil_append, Nat.reduceAdd, Nat.reduceSub, List.replicate, List.getElem?_cons_zero, List.getElem?_cons_succ, List.set_cons_zero, List.set_cons_succ, List.set_nil, true_and, and_true, if_true, ite_true]
  refine go_seq fun k hk => ?_; simp only [mvD, vlD, intsD, Mv.l, Vl.l, dSet, dAsg, dPar, dAug, dRet, dRetN, dDrop, dNext, dNever, dBreak, dCont, diSq, diR1, diR2, items, onI1, onI2, dVar, dC, dOp, dUn, dTest, onB, dAnd, dOr, dNot, dAndV, dOrV, dNotV, dIf, dNil, dCons, dTup, dLst, dLstM, dCall, dFn, hName, hNil, hCons, hSeq, hSub, setF, onSeq, seqD, dSl, doNo, doAt, onI, slF, lstV, lstM, on2, addF, mulF, iF, CT, negF, cmpF, id, ixF, onO, lenF, absF, maxF, minF, tupleF, listF, listFM, reprF, on1, dDictIx, dPairs, onS, lastD, dComp, bName, bSeq, bNames, dYes, wipeD, subF, fdivF, modF, powF, ltF, leF, gtF, geF, eqF, neF, endsD, atI_0, atI_1, atI_2, atI_3, ixN31, ixN32, ixN30, startD, List.map_cons, List.map_nil, List.length_cons, List.length_nil, List.cons_append, List.nil_append, Nat.reduceAdd, Nat.reduceSub, List.replicate, List.getElem?_cons_zero, List.getElem?_cons_succ, List.set_cons_zero, List.set_cons_succ, List.set_nil, true_and, and_true, if_true, ite_true]; subst hk
  refine ⟨c m1 v1, c m2 v2, ?_⟩
  refine go_seq fun k hk => ?_; simp only [mvD, vlD, intsD, Mv.l, Vl.l, dSet, dAsg, dPar, dAug, dRet, dRetN, dDrop, dNext, dNever, dBreak, dCont, diSq, diR1, diR2, items, onI1, onI2, dVar, dC, dOp, dUn, dTest, onB, dAnd, dOr, dNot, dAndV, dOrV, dNotV, dIf, dNil, dCons, dTup, dLst, dLstM, dCall, dFn, hName, hNil, hCons, hSeq, hSub, setF, onSeq, seqD, dSl, doNo, doAt, onI, slF, lstV, lstM, on2, addF, mulF, iF, CT, negF, cmpF, id, ixF, onO, lenF, absF, maxF, minF, tupleF, listF, listFM, reprF, on1, dDictIx, dPairs, onS, lastD, dComp, bName, bSeq, bNames, dYes, wipeD, subF, fdivF, modF, powF, ltF, leF, gtF, geF, eqF, neF, endsD, atI_0, atI_1, atI_2, atI_3, ixN31, ixN32, ixN30, startD, List.map_cons, List.map_nil, List.length_cons, List.length_nil, List.cons_append, List.nil_append, Nat.reduceAdd, Nat.reduceSub, List.replicate, List.getElem?_cons_zero, List.getElem?_cons_succ, List.set_cons_zero, List.set_cons_succ, List.set_nil, true_and, and_true, if_true, ite_true]; subst hk
  refine ⟨c m3 v1, c m4 v2, ?_⟩
  refine go_seq fun k hk => ?_; simp only [dIfS, dSet, dAsg, dPar, dAug, dRet, dRetN, dDrop, dNext, dNever, dBreak, dCont, diSq, diR1, diR2, items, onI1, onI2, dVar, dC, dOp, dUn, dTest, onB, dAnd, dOr, dNot, dAndV, dOrV, dNotV, dIf, dNil, dCons, dTup, dLst, dLstM, dCall, dFn, hName, hNil, hCons, hSeq, hSub, setF, onSeq, seqD, dSl, doNo, doAt, onI, slF, lstV, lstM, on2, addF, mulF, iF, CT, negF, cmpF, id, ixF, onO, lenF, absF, maxF, minF, tupleF, listF, listFM, reprF, on1, dDictIx, dPairs, onS, lastD, dComp, bName, bSeq, bNames, dYes, wipeD, subF, fdivF, modF, powF, ltF, leF, gtF, geF, eqF, neF, endsD, atI_0, atI_1, atI_2, atI_3, ixN31, ixN32, ixN30, startD, List.map_cons, List.map_nil, List.length_cons, List.length_nil, List.cons_append, List.nil_append, Nat.reduceAdd, Nat.reduceSub, List.replicate, List.getElem?_cons_zero, List.getElem?_cons_succ, List.set_cons_zero, List.set_cons_succ, List.set_nil, true_and, and_true, if_true, ite_true]; subst hk
  refine sgn_if ?_
  simp only [dSet, dAsg, dPar, dAug, dRet, dRetN, dDrop, dNext, dNever, dBreak, dCont, diSq, diR1, diR2, items, onI1, onI2, dVar, dC, dOp, dUn, dTest, onB, dAnd, dOr, dNot, dAndV, dOrV, dNotV, dIf, dNil, dCons, dTup, dLst, dLstM, dCall, dFn, hName, hNil, hCons, hSeq, hSub, setF, onSeq, seqD, dSl, doNo, doAt, onI, slF, lstV, lstM, on2, addF, mulF, iF, CT, negF, cmpF, id, ixF, onO, lenF, absF, maxF, minF, tupleF, listF, listFM, reprF, on1, dDictIx, dPairs, onS, lastD, dComp, bName, bSeq, bNames, dYes, wipeD, subF, fdivF, modF, powF, ltF, leF, gtF, geF, eqF, neF, endsD, atI_0, atI_1, atI_2, atI_3, ixN31, ixN32, ixN30, startD, List.map_cons, List.map_nil, List.length_cons, List.length_nil, List.cons_append, List.nil_append, Nat.reduceAdd, Nat.reduceSub, List.replicate, List.getElem?_cons_zero, List.getElem?_cons_succ, List.set_cons_zero, List.set_cons_succ, List.set_nil, true_and, and_true, if_true, ite_true]
  refine nrm_if (C := fun v => 2 ≤ sizeLine ∧ rtD Qd (.tup [.int v.p, .int v.q]) M) ?_
  exact ⟨by decide, rtD.of q⟩
/-! ### the greatest common divisor -/
def sp_law_common : DSp := fun as M Q _ => ∃ x y : Int, as = [.int x, .int y] ∧ Q (.int (Int.gcd x y)) M
def d_law_common : DS :=
  (dSeq (dPar 0 1 (dCons (dCall absF (dCons (dVar 0) dNil)) (dCons (dCall absF (dCons (dVar 1) dNil)) dNil)))
  (dSeq (dWhile (dTest (dOp neF (dVar 1) (dC (.int 0)))) (dPar 0 1 (dCons (dVar 1) (dCons (dOp modF (dVar 0) (dVar 1)) dNil))))
  (dRet (dVar 0))))
theorem gcd_step {a b : Int} (ha : 0 ≤ a) (hb : 0 < b) : Int.gcd b (a % b) = Int.gcd a b := by
  obtain ⟨m, rfl⟩ := Int.eq_ofNat_of_zero_le ha
  obtain ⟨n, rfl⟩ := Int.eq_ofNat_of_zero_le (Int.le_of_lt hb)
  show Nat.gcd n (Int.natAbs ((m : Int) % (n : Int))) = Nat.gcd m n
  rw [← Int.natCast_emod, Int.natAbs_natCast, Nat.gcd_comm m, Nat.gcd_rec n m, Nat.gcd_comm]
theorem b_law_common {as : List D} {M : DM} {Qd : DK} {Xd : DX} (hl : as.length = 2) (h : sp_law_common as M Qd Xd) : d_law_common (endsD Qd Xd) (startD 2 as) M := by
  obtain ⟨x, y, rfl, q⟩ := h
  unfold d_law_common
  have ab : ∀ z : Int, (if z < 0 then -z else z) = (z.natAbs : Int) := fun z => by split <;> omega
  simp only [atI_0, atI_1, atI_2, atI_3, ixN31, ixN32, ixN30, startD, List.map_cons, List.map_nil, List.length_cons, List.length_nil, List.cons_append, List.nil_append, Nat.reduceAdd, Nat.reduceSub, List.replicate, List.getElem?_cons_zero, List.getElem?_cons_succ, List.set_cons_zero, List.set_cons_succ, List.set_nil, true_and, and_true, if_true, ite_true]
  refine go_seq fun k hk => ?_; simp only [dSet, dAsg, dPar, dAug, dRet, dRetN, dDrop, dNext, dNever, dBreak, dCont, diSq, diR1, diR2, items, onI1, onI2, dVar, dC, dOp, dUn, dTest, onB, dAnd, dOr, dNot, dAndV, dOrV, dNotV, dIf, dNil, dCons, dTup, dLst, dLstM, dCall, dFn, hName, hNil, hCons, hSeq, hSub, setF, onSeq, seqD, dSl, doNo, doAt, onI, slF, lstV, lstM, on2, addF, mulF, iF, CT, negF, cmpF, id, ixF, onO, lenF, absF, maxF, minF, tupleF, listF, listFM, reprF, on1, dDictIx, dPairs, onS, lastD, dComp, bName, bSeq, bNames, dYes, wipeD, subF, fdivF, modF, powF, ltF, leF, gtF, geF, eqF, neF, endsD, ab, atI_0, atI_1, atI_2, atI_3, ixN31, ixN32, ixN30, startD, List.map_cons, List.map_nil, List.length_cons, List.length_nil, List.cons_append, List.nil_append, Nat.reduceAdd, Nat.reduceSub, List.replicate, List.getElem?_cons_zero, List.getElem?_cons_succ, List.set_cons_zero, List.set_cons_succ, List.set_nil, true_and, and_true, if_true, ite_true]; subst hk
  refine go_seq fun k hk => ?_
  refine ⟨fun m ρ M' => M' = M ∧ ∃ a b : Int, ρ = [some (.int a), some (.int b)] ∧ 0 ≤ a ∧ 0 ≤ b ∧ Int.gcd a b = Int.gcd x y ∧ m = b.toNat, ⟨_, rfl, (x.natAbs : Int), (y.natAbs : Int), rfl, by omega, by omega, by simp [Int.gcd], rfl⟩, ?_⟩
  rintro m ρ M' ⟨rfl, a, b, rfl, ha, hb, hg, rfl⟩
  simp only [dSet, dAsg, dPar, dAug, dRet, dRetN, dDrop, dNext, dNever, dBreak, dCont, diSq, diR1, diR2, items, onI1, onI2, dVar, dC, dOp, dUn, dTest, onB, dAnd, dOr, dNot, dAndV, dOrV, dNotV, dIf, dNil, dCons, dTup, dLst, dLstM, dCall, dFn, hName, hNil, hCons, hSeq, hSub, setF, onSeq, seqD, dSl, doNo, doAt, onI, slF, lstV, lstM, on2, addF, mulF, iF, CT, negF, cmpF, id, ixF, onO, lenF, absF, maxF, minF, tupleF, listF, listFM, reprF, on1, dDictIx, dPairs, onS, lastD, dComp, bName, bSeq, bNames, dYes, wipeD, subF, fdivF, modF, powF, ltF, leF, gtF, geF, eqF, neF, endsD, atI_0, atI_1, atI_2, atI_3, ixN31, ixN32, ixN30, startD, List.map_cons, List.map_nil, List.length_cons, List.length_nil, List.cons_append, List.nil_append, Nat.reduceAdd, Nat.reduceSub, List.replicate, List.getElem?_cons_zero, List.getElem?_cons_succ, List.set_cons_zero, List.set_cons_succ, List.set_nil, true_and, and_true, if_true, ite_true]
  by_cases c : b = 0
  · rw [if_neg (by simp [c])]
    subst hk
    simp only [dSet, dAsg, dPar, dAug, dRet, dRetN, dDrop, dNext, dNever, dBreak, dCont, diSq, diR1, diR2, items, onI1, onI2, dVar, dC, dOp, dUn, dTest, onB, dAnd, dOr, dNot, dAndV, dOrV, dNotV, dIf, dNil, dCons, dTup, dLst, dLstM, dCall, dFn, hName, hNil, hCons, hSeq, hSub, setF, onSeq, seqD, dSl, doNo, doAt, onI, slF, lstV, lstM, on2, addF, mulF, iF, CT, negF, cmpF, id, ixF, onO, lenF, absF, maxF, minF, tupleF, listF, listFM, reprF, on1, dDictIx, dPairs, onS, lastD, dComp, bName, bSeq, bNames, dYes, wipeD, subF, fdivF, modF, powF, ltF, leF, gtF, geF, eqF, neF, endsD, atI_0, atI_1, atI_2, atI_3, ixN31, ixN32, ixN30, startD, List.map_cons, List.map_nil, List.length_cons, List.length_nil, List.cons_append, List.nil_append, Nat.reduceAdd, Nat.reduceSub, List.replicate, List.getElem?_cons_zero, List.getElem?_cons_succ, List.set_cons_zero, List.set_cons_succ, List.set_nil, true_and, and_true, if_true, ite_true]
    refine rtD.of ?_
    rw [← hg, c, Int.gcd_zero_right] at q
    rw [Int.natAbs_of_nonneg ha] at q
    exact q
  · rw [if_pos (by simp [c])]
    have b0 : 0 < b := by omega
    have l1 := Int.emod_lt_of_pos a b0
    exact ⟨b0, (a % b).toNat, by omega, b, a % b, rfl, hb, Int.emod_nonneg _ c, by rw [gcd_step ha b0]; exact hg, rfl⟩
/-! ### drawn values -/
def sp_law_fraction : DSp := fun as M Q _ => ∃ p : Addr, as = [.ref p] ∧ Pen M p ∧ ∀ (v : Vl) M', Val v → Vn 68 v → PenTo M M' p → Q (vlD v) M'
def d_law_fraction (c_law_common : DSp) (c_law_draw : DSp) : DS :=
  (dSeq (dSet (dFn c_law_draw 2 (dCons (dVar 0) (dCons (dC (.int 6)) dNil))) 1)
  (dSeq (dIfS (dTest (dOp eqF (dVar 1) (dC (.int 0)))) (dRet (dTup (dCons (dC (.int 1)) (dCons (dC (.int 0)) dNil)))) dNext)
  (dSeq (dSet (dOp ixF (dLst (dCons (dC (.int 4)) (dCons (dC (.int 4)) (dCons (dC (.int 9)) (dCons (dOp powF (dC (.int 10)) (dC (.int 6))) (dCons (dOp powF (dC (.int 10)) (dC (.int 20))) dNil)))))) (dFn c_law_draw 2 (dCons (dVar 0) (dCons (dC (.int 5)) dNil)))) 2)
  (dSeq (dPar 3 4 (dCons (dOp subF (dFn c_law_draw 2 (dCons (dVar 0) (dCons (dOp addF (dOp mulF (dC (.int 2)) (dVar 2)) (dC (.int 1))) dNil))) (dVar 2)) (dCons (dOp addF (dC (.int 1)) (dFn c_law_draw 2 (dCons (dVar 0) (dCons (dVar 2) dNil)))) dNil)))
  (dSeq (dIfS (dTest (dOp eqF (dVar 1) (dC (.int 1)))) (dSet (dC (.int 1)) 4) dNext)
  (dSeq (dSet (dFn c_law_common 2 (dCons (dVar 3) (dCons (dVar 4) dNil))) 5)
  (dRet (dTup (dCons (dOp fdivF (dVar 3) (dVar 5)) (dCons (dOp fdivF (dVar 4) (dVar 5)) dNil))))))))))
theorem small_frac {p q : Int} (hp : p.natAbs ≤ 2 ^ 68) (hq0 : 0 < q) (hq : q.natAbs ≤ 2 ^ 68) : Vn 68 ⟨p / (Int.gcd p q : Int), q / (Int.gcd p q : Int)⟩ := by
  have f : ∀ z : Int, z.natAbs ≤ 2 ^ 68 → (z / (Int.gcd p q : Int)).natAbs ≤ 2 ^ 68 := by
    intro z hz
    exact Nat.le_trans (Int.natAbs_ediv_le_natAbs _ _) hz
  exact ⟨f p hp, f q hq⟩
theorem b_law_fraction {as : List D} {M : DM} {Qd : DK} {Xd : DX} (hl : as.length = 1) (h : sp_law_fraction as M Qd Xd) : d_law_fraction sp_law_common sp_law_draw (endsD Qd Xd) (startD 6 as) M := by
  obtain ⟨p, rfl, hP, q⟩ := h
  unfold d_law_fraction
  simp only [atI_0, atI_1, atI_2, atI_3, ixN31, ixN32, ixN30, startD, List.map_cons, List.map_nil, List.length_cons, List.length_nil, List.cons_append, List.nil_append, Nat.reduceAdd, Nat.reduceSub, List.replicate, List.getElem?_cons_zero, List.getElem?_cons_succ, List.set_cons_zero, List.set_cons_succ, List.set_nil, true_and, and_true, if_true, ite_true]
  refine go_seq fun k hk => ?_; simp only [dSet, dAsg, dPar, dAug, dRet, dRetN, dDrop, dNext, dNever, dBreak, dCont, diSq, diR1, diR2, items, onI1, onI2, dVar, dC, dOp, dUn, dTest, onB, dAnd, dOr, dNot, dAndV, dOrV, dNotV, dIf, dNil, dCons, dTup, dLst, dLstM, dCall, dFn, hName, hNil, hCons, hSeq, hSub, setF, onSeq, seqD, dSl, doNo, doAt, onI, slF, lstV, lstM, on2, addF, mulF, iF, CT, negF, cmpF, id, ixF, onO, lenF, absF, maxF, minF, tupleF, listF, listFM, reprF, on1, dDictIx, dPairs, onS, lastD, dComp, bName, bSeq, bNames, dYes, wipeD, subF, fdivF, modF, powF, ltF, leF, gtF, geF, eqF, neF, endsD, atI_0, atI_1, atI_2, atI_3, ixN31, ixN32, ixN30, startD, List.map_cons, List.map_nil, List.length_cons, List.length_nil, List.cons_append, List.nil_append, Nat.reduceAdd, Nat.reduceSub, List.replicate, List.getElem?_cons_zero, List.getElem?_cons_succ, List.set_cons_zero, List.set_cons_succ, List.set_nil, true_and, and_true, if_true, ite_true]
  refine ⟨p, 6, rfl, hP, by decide, log2_lit (by decide) (by decide), fun o M1 o0 o6 t1 => ?_⟩
  subst hk
  refine go_seq fun k hk => ?_
  have rest : k (endsD Qd Xd) [some (.ref p), some (.int o), none, none, none, none] M1 := by
    subst hk
    refine go_seq fun k hk => ?_
    have rest : ∀ (size : Int) M2, 0 < size → size ≤ 100000000000000000000 → PenTo M M2 p → k (endsD Qd Xd) [some (.ref p), some (.int o), some (.int size), none, none, none] M2 := by
      intro size M2 s0 s1 t2
      subst hk
      refine go_seq fun k hk => ?_
      have big : ∀ {n : Int}, 0 ≤ n → n < 2 ^ 80 → n.natAbs.log2 < 9000 := fun h0 h => Nat.lt_of_lt_of_le (log2_small h0 h (by decide)) (by decide)
      simp only [dSet, dAsg, dPar, dAug, dRet, dRetN, dDrop, dNext, dNever, dBreak, dCont, diSq, diR1, diR2, items, onI1, onI2, dVar, dC, dOp, dUn, dTest, onB, dAnd, dOr, dNot, dAndV, dOrV, dNotV, dIf, dNil, dCons, dTup, dLst, dLstM, dCall, dFn, hName, hNil, hCons, hSeq, hSub, setF, onSeq, seqD, dSl, doNo, doAt, onI, slF, lstV, lstM, on2, addF, mulF, iF, CT, negF, cmpF, id, ixF, onO, lenF, absF, maxF, minF, tupleF, listF, listFM, reprF, on1, dDictIx, dPairs, onS, lastD, dComp, bName, bSeq, bNames, dYes, wipeD, subF, fdivF, modF, powF, ltF, leF, gtF, geF, eqF, neF, endsD, atI_0, atI_1, atI_2, atI_3, ixN31, ixN32, ixN30, startD, List.map_cons, List.map_nil, List.length_cons, List.length_nil, List.cons_append, List.nil_append, Nat.reduceAdd, Nat.reduceSub, List.replicate, List.getElem?_cons_zero, List.getElem?_cons_succ, List.set_cons_zero, List.set_cons_succ, List.set_nil, true_and, and_true, if_true, ite_true]
      refine ⟨.inl (.inl ⟨by decide, by decide⟩), p, _, rfl, t2.pen, by omega, big (by omega) (by omega), fun v M3 v0 v1 t3 => ?_⟩
      simp only [dSet, dAsg, dPar, dAug, dRet, dRetN, dDrop, dNext, dNever, dBreak, dCont, diSq, diR1, diR2, items, onI1, onI2, dVar, dC, dOp, dUn, dTest, onB, dAnd, dOr, dNot, dAndV, dOrV, dNotV, dIf, dNil, dCons, dTup, dLst, dLstM, dCall, dFn, hName, hNil, hCons, hSeq, hSub, setF, onSeq, seqD, dSl, doNo, doAt, onI, slF, lstV, lstM, on2, addF, mulF, iF, CT, negF, cmpF, id, ixF, onO, lenF, absF, maxF, minF, tupleF, listF, listFM, reprF, on1, dDictIx, dPairs, onS, lastD, dComp, bName, bSeq, bNames, dYes, wipeD, subF, fdivF, modF, powF, ltF, leF, gtF, geF, eqF, neF, endsD, atI_0, atI_1, atI_2, atI_3, ixN31, ixN32, ixN30, startD, List.map_cons, List.map_nil, List.length_cons, List.length_nil, List.cons_append, List.nil_append, Nat.reduceAdd, Nat.reduceSub, List.replicate, List.getElem?_cons_zero, List.getElem?_cons_succ, List.set_cons_zero, List.set_cons_succ, List.set_nil, true_and, and_true, if_true, ite_true]
      refine ⟨p, size, rfl, t3.pen, s0, big (by omega) (by omega), fun v' M4 w0 w1 t4 => ?_⟩
      simp only [dSet, dAsg, dPar, dAug, dRet, dRetN, dDrop, dNext, dNever, dBreak, dCont, diSq, diR1, diR2, items, onI1, onI2, dVar, dC, dOp, dUn, dTest, onB, dAnd, dOr, dNot, dAndV, dOrV, dNotV, dIf, dNil, dCons, dTup, dLst, dLstM, dCall, dFn, hName, hNil, hCons, hSeq, hSub, setF, onSeq, seqD, dSl, doNo, doAt, onI, slF, lstV, lstM, on2, addF, mulF, iF, CT, negF, cmpF, id, ixF, onO, lenF, absF, maxF, minF, tupleF, listF, listFM, reprF, on1, dDictIx, dPairs, onS, lastD, dComp, bName, bSeq, bNames, dYes, wipeD, subF, fdivF, modF, powF, ltF, leF, gtF, geF, eqF, neF, endsD, atI_0, atI_1, atI_2, atI_3, ixN31, ixN32, ixN30, startD, List.map_cons, List.map_nil, List.length_cons, List.length_nil, List.cons_append, List.nil_append, Nat.reduceAdd, Nat.reduceSub, List.replicate, List.getElem?_cons_zero, List.getElem?_cons_succ, List.set_cons_zero, List.set_cons_succ, List.set_nil, true_and, and_true, if_true, ite_true]
      have t5 := (t2.trans t3).trans t4
      subst hk
      refine go_seq fun k hk => ?_
      have rest : ∀ z : Int, 0 < z → z ≤ size → k (endsD Qd Xd) [some (.ref p), some (.int o), some (.int size), some (.int (v - size)), some (.int z), none] M4 := by
        intro z z0 z1
        subst hk
        refine go_seq fun k hk => ?_
        simp only [dSet, dAsg, dPar, dAug, dRet, dRetN, dDrop, dNext, dNever, dBreak, dCont, diSq, diR1, diR2, items, onI1, onI2, dVar, dC, dOp, dUn, dTest, onB, dAnd, dOr, dNot, dAndV, dOrV, dNotV, dIf, dNil, dCons, dTup, dLst, dLstM, dCall, dFn, hName, hNil, hCons, hSeq, hSub, setF, onSeq, seqD, dSl, doNo, doAt, onI, slF, lstV, lstM, on2, addF, mulF, iF, CT, negF, cmpF, id, ixF, onO, lenF, absF, maxF, minF, tupleF, listF, listFM, reprF, on1, dDictIx, dPairs, onS, lastD, dComp, bName, bSeq, bNames, dYes, wipeD, subF, fdivF, modF, powF, ltF, leF, gtF, geF, eqF, neF, endsD, atI_0, atI_1, atI_2, atI_3, ixN31, ixN32, ixN30, startD, List.map_cons, List.map_nil, List.length_cons, List.length_nil, List.cons_append, List.nil_append, Nat.reduceAdd, Nat.reduceSub, List.replicate, List.getElem?_cons_zero, List.getElem?_cons_succ, List.set_cons_zero, List.set_cons_succ, List.set_nil, true_and, and_true, if_true, ite_true]
        refine ⟨_, _, rfl, ?_⟩
        subst hk
        simp only [dSet, dAsg, dPar, dAug, dRet, dRetN, dDrop, dNext, dNever, dBreak, dCont, diSq, diR1, diR2, items, onI1, onI2, dVar, dC, dOp, dUn, dTest, onB, dAnd, dOr, dNot, dAndV, dOrV, dNotV, dIf, dNil, dCons, dTup, dLst, dLstM, dCall, dFn, hName, hNil, hCons, hSeq, hSub, setF, onSeq, seqD, dSl, doNo, doAt, onI, slF, lstV, lstM, on2, addF, mulF, iF, CT, negF, cmpF, id, ixF, onO, lenF, absF, maxF, minF, tupleF, listF, listFM, reprF, on1, dDictIx, dPairs, onS, lastD, dComp, bName, bSeq, bNames, dYes, wipeD, subF, fdivF, modF, powF, ltF, leF, gtF, geF, eqF, neF, endsD, atI_0, atI_1, atI_2, atI_3, ixN31, ixN32, ixN30, startD, List.map_cons, List.map_nil, List.length_cons, List.length_nil, List.cons_append, List.nil_append, Nat.reduceAdd, Nat.reduceSub, List.replicate, List.getElem?_cons_zero, List.getElem?_cons_succ, List.set_cons_zero, List.set_cons_succ, List.set_nil, true_and, and_true, if_true, ite_true]
        have g0 : 0 < Int.gcd (v - size) z := Int.gcd_pos_of_ne_zero_right _ (by omega)
        have gz : (Int.gcd (v - size) z : Int) ≤ z := Int.le_of_dvd z0 (Int.gcd_dvd_right ..)
        have gd : CDivW (v - size) (Int.gcd (v - size) z : Int) := ⟨by omega, big (by omega) (by omega)⟩
        refine ⟨gd, gd, by decide, rtD.of (q ⟨(v - size) / (Int.gcd (v - size) z : Int), z / (Int.gcd (v - size) z : Int)⟩ M4 (Val.frac z0) (small_frac (by omega) z0 (by omega)) t5)⟩
      simp only [dIfS, dSet, dAsg, dPar, dAug, dRet, dRetN, dDrop, dNext, dNever, dBreak, dCont, diSq, diR1, diR2, items, onI1, onI2, dVar, dC, dOp, dUn, dTest, onB, dAnd, dOr, dNot, dAndV, dOrV, dNotV, dIf, dNil, dCons, dTup, dLst, dLstM, dCall, dFn, hName, hNil, hCons, hSeq, hSub, setF, onSeq, seqD, dSl, doNo, doAt, onI, slF, lstV, lstM, on2, addF, mulF, iF, CT, negF, cmpF, id, ixF, onO, lenF, absF, maxF, minF, tupleF, listF, listFM, reprF, on1, dDictIx, dPairs, onS, lastD, dComp, bName, bSeq, bNames, dYes, wipeD, subF, fdivF, modF, powF, ltF, leF, gtF, geF, eqF, neF, endsD, atI_0, atI_1, atI_2, atI_3, ixN31, ixN32, ixN30, startD, List.map_cons, List.map_nil, List.length_cons, List.length_nil, List.cons_append, List.nil_append, Nat.reduceAdd, Nat.reduceSub, List.replicate, List.getElem?_cons_zero, List.getElem?_cons_succ, List.set_cons_zero, List.set_cons_succ, List.set_nil, true_and, and_true, if_true, ite_true]
      by_cases c : o = 1
      · rw [if_pos (by simp [c])]
        exact rest 1 (by decide) (by omega)
      · rw [if_neg (by simp [c])]
        exact rest _ (by omega) (by omega)
    simp only [dSet, dAsg, dPar, dAug, dRet, dRetN, dDrop, dNext, dNever, dBreak, dCont, diSq, diR1, diR2, items, onI1, onI2, dVar, dC, dOp, dUn, dTest, onB, dAnd, dOr, dNot, dAndV, dOrV, dNotV, dIf, dNil, dCons, dTup, dLst, dLstM, dCall, dFn, hName, hNil, hCons, hSeq, hSub, setF, onSeq, seqD, dSl, doNo, doAt, onI, slF, lstV, lstM, on2, addF, mulF, iF, CT, negF, cmpF, id, ixF, onO, lenF, absF, maxF, minF, tupleF, listF, listFM, reprF, on1, dDictIx, dPairs, onS, lastD, dComp, bName, bSeq, bNames, dYes, wipeD, subF, fdivF, modF, powF, ltF, leF, gtF, geF, eqF, neF, endsD, atI_0, atI_1, atI_2, atI_3, ixN31, ixN32, ixN30, startD, List.map_cons, List.map_nil, List.length_cons, List.length_nil, List.cons_append, List.nil_append, Nat.reduceAdd, Nat.reduceSub, List.replicate, List.getElem?_cons_zero, List.getElem?_cons_succ, List.set_cons_zero, List.set_cons_succ, List.set_nil, true_and, and_true, if_true, ite_true]
    refine ⟨by unfold CPow; decide, by unfold CPow; decide, by decide, p, 5, rfl, t1.pen, by decide, log2_lit (by decide) (by decide), fun d M2 d0 d5 t2 => ?_⟩
    have hv : d = 0 ∨ d = 1 ∨ d = 2 ∨ d = 3 ∨ d = 4 := by omega
    have t3 := t1.trans t2
    rcases hv with rfl | rfl | rfl | rfl | rfl
    · exact rest _ _ (by decide) (by decide) t3
    · exact rest _ _ (by decide) (by decide) t3
    · exact rest _ _ (by decide) (by decide) t3
    · exact rest _ _ (by decide) (by decide) t3
    · exact rest _ _ (by decide) (by decide) t3
  simp only [dIfS, dSet, dAsg, dPar, dAug, dRet, dRetN, dDrop, dNext, dNever, dBreak, dCont, diSq, diR1, diR2, items, onI1, onI2, dVar, dC, dOp, dUn, dTest, onB, dAnd, dOr, dNot, dAndV, dOrV, dNotV, dIf, dNil, dCons, dTup, dLst, dLstM, dCall, dFn, hName, hNil, hCons, hSeq, hSub, setF, onSeq, seqD, dSl, doNo, doAt, onI, slF, lstV, lstM, on2, addF, mulF, iF, CT, negF, cmpF, id, ixF, onO, lenF, absF, maxF, minF, tupleF, listF, listFM, reprF, on1, dDictIx, dPairs, onS, lastD, dComp, bName, bSeq, bNames, dYes, wipeD, subF, fdivF, modF, powF, ltF, leF, gtF, geF, eqF, neF, endsD, atI_0, atI_1, atI_2, atI_3, ixN31, ixN32, ixN30, startD, List.map_cons, List.map_nil, List.length_cons, List.length_nil, List.cons_append, List.nil_append, Nat.reduceAdd, Nat.reduceSub, List.replicate, List.getElem?_cons_zero, List.getElem?_cons_succ, List.set_cons_zero, List.set_cons_succ, List.set_nil, true_and, and_true, if_true, ite_true]
  by_cases c : o = 0
  · rw [if_pos (by simp [c])]
    exact ⟨by decide, rtD.of (q ⟨1, 0⟩ M1 Val.inf (by unfold Vn; decide) t1)⟩
  · rw [if_neg (by simp [c])]
    exact rest
/-! ### what the laws ask of values -/
theorem vl_inj {m n : Vl} : (m.l = n.l) = (m = n) := by
  refine propext ⟨fun h => ?_, fun h => by rw [h]⟩
  simp only [Vl.l, List.cons.injEq, and_true] at h
  exact Wm.vext h.1 h.2
theorem cmp_vl {f : Bool → Bool} {M : DM} {m n : Vl} {Q : DK} (q : Q (.bl (f (decide (m = n)))) M) : cmpF f (vlD m) (vlD n) M Q := by
  refine cmp_intsD ?_
  have e : decide (m.l = n.l) = decide (m = n) := by simp only [vl_inj]
  rw [e]
  exact q
def shownVl (m : Vl) : Str := (PyData.tuple (m.l.map PyData.int)).shown
theorem repr_vl {M : DM} {m : Vl} {k : Nat} {Q : DK} (h : Vn k m) (hk : k ≤ 1900) (q : Q (.str (shownVl m)) M) : reprF [vlD m] M Q := by
  refine repr_ints ?_ (by simp [Vl.l]) q
  obtain ⟨a, b⟩ := h
  intro n hn
  simp only [Vl.l, List.mem_cons, List.not_mem_nil, or_false] at hn
  rcases hn with rfl | rfl
  · exact log2_of_le a hk
  · exact log2_of_le b hk
theorem ix_vl0 {v : Vl} {M : DM} {Q : DK} (q : Q (.int v.p) M) : ixF (vlD v) (.int 0) M Q := q
theorem ix_vl1 {v : Vl} {M : DM} {Q : DK} (q : Q (.int v.q) M) : ixF (vlD v) (.int 1) M Q := q
end DP

set_option Elab.async false
set_option linter.all false
set_option maxRecDepth 100000
set_option maxHeartbeats 4000000
/-! the words of values. -/
namespace Wm
def inf : Vl := ⟨1, 0⟩
def lastL (v : Vl) : Lt := if 0 ≤ v.p then .s else if -v.p ≤ v.q then .r else .R
def Lt.inv : Lt → Lt
  | .s => .s
  | .r => .R
  | .R => .r
/-- the letters, the last one first; at most n -/
def vw : Nat → Vl → Option (List Lt)
  | n, v => if v.p = 1 ∧ v.q = 0 then some [] else match n with
    | 0 => none
    | n + 1 => (vw n (act (lastL v).inv.mv v)).map (lastL v :: ·)
def valW (w : List Lt) : Vl := act (moveW w) inf
theorem moveL_snoc : ∀ (w : List Lt) (m : Mv) (x : Lt), moveL m (w ++ [x]) = sgn (mul (moveL m w) x.mv)
  | [], m, x => rfl
  | y :: w, m, x => moveL_snoc w _ x
theorem valW_snoc (w : List Lt) (x : Lt) : valW (w ++ [x]) = act x.mv (valW w) := by
  unfold valW moveW
  rw [moveL_snoc, ← act_act]
theorem valW_nil : valW [] = inf := by decide
theorem inv_act (x : Lt) (v : Vl) (h : nrm v = v) : act x.mv (act x.inv.mv v) = v := by
  rw [act_act]
  have e : sgn (mul x.inv.mv x.mv) = one := by cases x <;> decide
  rw [e, act_one, h]
theorem act_inv2 (x : Lt) (v : Vl) (h : nrm v = v) : act x.inv.mv (act x.mv v) = v := by
  rw [act_act]
  have e : sgn (mul x.mv x.inv.mv) = one := by cases x <;> decide
  rw [e, act_one, h]
theorem nrm_act (m : Mv) (v : Vl) : nrm (act m v) = act m v := nrm_nrm _
theorem nrm_valW (w : List Lt) : nrm (valW w) = valW w := nrm_nrm _
/-- a word that is found has the value -/
theorem vw_val : ∀ (n : Nat) (v : Vl) (ls : List Lt), nrm v = v → vw n v = some ls → valW ls.reverse = v := by
  intro n
  induction n with
  | zero =>
    intro v ls hv h
    unfold vw at h
    split at h
    · rename_i c
      cases h
      rw [List.reverse_nil, valW_nil]
      obtain ⟨p, q⟩ := v
      obtain ⟨rfl, rfl⟩ := c
      rfl
    · cases h
  | succ n ih =>
    intro v ls hv h
    unfold vw at h
    split at h
    · rename_i c
      cases h
      rw [List.reverse_nil, valW_nil]
      obtain ⟨p, q⟩ := v
      obtain ⟨rfl, rfl⟩ := c
      rfl
    · obtain ⟨r, hr, rfl⟩ := Option.map_eq_some_iff.mp h
      rw [List.reverse_cons, valW_snoc, ih _ _ (nrm_act _ _) hr, inv_act _ _ hv]
/-- at most so many letters -/
theorem vw_len : ∀ (n : Nat) (v : Vl) (ls : List Lt), vw n v = some ls → ls.length ≤ n := by
  intro n
  induction n with
  | zero =>
    intro v ls h
    unfold vw at h
    split at h
    · cases h
      exact Nat.le_refl _
    · cases h
  | succ n ih =>
    intro v ls h
    unfold vw at h
    split at h
    · cases h
      exact Nat.zero_le _
    · obtain ⟨r, hr, rfl⟩ := Option.map_eq_some_iff.mp h
      have := ih _ _ hr
      rw [List.length_cons]
      omega
/-! ### where a value lies, by its word's last letter -/
/-- the form of a value's word -/
def form (w : List Lt) : Prop := red w = true ∧ (w = [] ∨ w = [.s] ∨ ∃ r, w = .s :: .r :: r)
def reg (w : List Lt) (v : Vl) : Prop := match w.getLast? with
  | none => v = inf
  | some .s => 0 ≤ v.p ∧ 0 < v.q ∧ (w ≠ [.s] → 0 < v.p)
  | some .r => v.p < 0 ∧ 0 < v.q ∧ -v.p ≤ v.q
  | some .R => v.p < 0 ∧ 0 < v.q ∧ v.q < -v.p
theorem red_init : ∀ (w : List Lt) (x : Lt), red (w ++ [x]) = true → red w = true ∧ ∀ y, w.getLast? = some y → isS y ≠ isS x
  | [], x, _ => ⟨rfl, fun y h => by cases h⟩
  | [y], x, h => ⟨rfl, fun z hz => by
    cases hz
    have h2 : ((isS y != isS x) && true) = true := h
    simpa using h2⟩
  | y :: z :: w, x, h => by
    have h2 : ((isS y != isS z) && red (z :: w ++ [x])) = true := h
    rw [Bool.and_eq_true] at h2
    obtain ⟨a, b⟩ := red_init (z :: w) x h2.2
    refine ⟨?_, fun u hu => b u (by rw [List.getLast?_cons_cons] at hu; exact hu)⟩
    show ((isS y != isS z) && red (z :: w)) = true
    rw [h2.1, a]
    rfl
theorem form_init {w : List Lt} {x : Lt} (h : form (w ++ [x])) : form w ∧ (w = [] → x = .s) ∧ (w = [.s] → x = .r) ∧ ∀ y, w.getLast? = some y → isS y ≠ isS x := by
  obtain ⟨hr, hf⟩ := h
  obtain ⟨r1, r2⟩ := red_init w x hr
  refine ⟨⟨r1, ?_⟩, ?_, ?_, r2⟩
  · match w, hf with
    | [], _ => exact .inl rfl
    | [a], hf =>
      rcases hf with h | h | ⟨r, h⟩
      · cases h
      · cases h
      · cases h
        exact .inr (.inl rfl)
    | a :: b :: w, hf =>
      rcases hf with h | h | ⟨r, h⟩
      · cases h
      · cases h
      · cases h
        exact .inr (.inr ⟨w, rfl⟩)
  · rintro rfl
    rcases hf with h | h | ⟨r, h⟩
    · cases h
    · cases h
      rfl
    · cases h
  · rintro rfl
    rcases hf with h | h | ⟨r, h⟩
    · cases h
    · cases h
    · cases h
      rfl
theorem getLast_snoc (w : List Lt) (x : Lt) : (w ++ [x]).getLast? = some x := by simp
theorem reg_step {w : List Lt} {x : Lt} {v : Vl} (h : form (w ++ [x])) (g : reg w v) : reg (w ++ [x]) (act x.mv v) := by
  obtain ⟨_, f1, f2, f3⟩ := form_init h
  unfold reg at g ⊢
  rw [getLast_snoc]
  cases e : w.getLast? with
  | none =>
    have e2 : w = [] := List.getLast?_eq_none_iff.mp e
    subst e2
    rw [f1 rfl]
    have g2 : v = inf := g
    rw [g2]
    refine ⟨by decide, by decide, fun z => absurd rfl z⟩
  | some y =>
    rw [e] at g
    have ny := f3 y e
    obtain ⟨p, q⟩ := v
    cases y with
    | s =>
      obtain ⟨g1, g2, g3⟩ := g
      dsimp only at g1 g2 g3
      cases x with
      | s => exact absurd rfl ny
      | r =>
        unfold Lt.mv act app nrm vneg
        dsimp only
        rw [if_pos (.inl (by omega))]
        dsimp only
        refine ⟨by omega, by omega, by omega⟩
      | R =>
        have hp : 0 < p := g3 fun z => by
          have := f2 z
          cases this
        unfold Lt.mv act app nrm vneg
        dsimp only
        rw [if_pos (.inl (by omega))]
        dsimp only
        refine ⟨by omega, by omega, by omega⟩
    | r =>
      obtain ⟨g1, g2, g3⟩ := g
      dsimp only at g1 g2 g3
      cases x with
      | s =>
        unfold Lt.mv act app nrm vneg
        dsimp only
        rw [if_neg (by omega)]
        dsimp only
        refine ⟨by omega, by omega, fun _ => by omega⟩
      | r => exact absurd rfl ny
      | R => exact absurd rfl ny
    | R =>
      obtain ⟨g1, g2, g3⟩ := g
      dsimp only at g1 g2 g3
      cases x with
      | s =>
        unfold Lt.mv act app nrm vneg
        dsimp only
        rw [if_neg (by omega)]
        dsimp only
        refine ⟨by omega, by omega, fun _ => by omega⟩
      | r => exact absurd rfl ny
      | R => exact absurd rfl ny
theorem reg_last {w : List Lt} {x : Lt} {v : Vl} (g : reg (w ++ [x]) v) : lastL v = x ∧ ¬ (v.p = 1 ∧ v.q = 0) := by
  unfold reg at g
  rw [getLast_snoc] at g
  unfold lastL
  cases x with
  | s =>
    obtain ⟨g1, g2, g3⟩ := g
    rw [if_pos g1]
    exact ⟨rfl, by omega⟩
  | r =>
    obtain ⟨g1, g2, g3⟩ := g
    rw [if_neg (by omega), if_pos g3]
    exact ⟨rfl, by omega⟩
  | R =>
    obtain ⟨g1, g2, g3⟩ := g
    rw [if_neg (by omega), if_neg (by omega)]
    exact ⟨rfl, by omega⟩
theorem reg_valW : ∀ (n : Nat) (w : List Lt), w.length = n → form w → reg w (valW w)
  | 0, w, hn, h => by
    have e := List.length_eq_zero_iff.mp hn
    subst e
    show valW [] = inf
    exact valW_nil
  | n + 1, w, hn, h => by
    rcases List.eq_nil_or_concat w with rfl | ⟨r, x, rfl⟩
    · cases hn
    · rw [List.concat_eq_append] at hn h ⊢
      rw [valW_snoc]
      exact reg_step h (reg_valW n r (by rw [List.length_append] at hn; simpa using hn) (form_init h).1)
/-- the word of a word's value is the word -/
theorem vw_form : ∀ (n : Nat) (w : List Lt), form w → vw n (valW w) = if w.length ≤ n then some w.reverse else none := by
  intro n
  induction n with
  | zero =>
    intro w h
    rcases List.eq_nil_or_concat w with rfl | ⟨r, x, rfl⟩
    · rw [valW_nil]
      rfl
    · rw [List.concat_eq_append] at h ⊢
      have g := reg_last (reg_valW _ _ rfl h)
      unfold vw
      rw [if_neg g.2, if_neg (by simp)]
  | succ n ih =>
    intro w h
    rcases List.eq_nil_or_concat w with rfl | ⟨r, x, rfl⟩
    · rw [valW_nil]
      unfold vw
      rfl
    · rw [List.concat_eq_append] at h ⊢
      have g := reg_last (reg_valW _ _ rfl h)
      unfold vw
      rw [if_neg g.2, g.1]
      dsimp only
      rw [valW_snoc, act_inv2 _ _ (nrm_valW r), ih r (form_init h).1]
      by_cases c : r.length ≤ n
      · rw [if_pos c, if_pos (by simp; omega)]
        simp
      · rw [if_neg c, if_neg (by simp; omega)]
        rfl
/-! ### a found word has the form -/
theorem red_cons {x y : Lt} {w : List Lt} : red (x :: y :: w) = ((isS x != isS y) && red (y :: w)) := rfl
theorem val_pos {v : Vl} (w : Val v) (hn : ¬ (v.p = 1 ∧ v.q = 0)) : 0 < v.q := by
  obtain ⟨p, q⟩ := v
  have hv := w.nm
  unfold nrm at hv
  dsimp only at hv hn ⊢
  by_cases c : q < 0 ∨ q = 0 ∧ p < 0
  · rw [if_pos c] at hv
    unfold vneg at hv
    injection hv with h1 h2
    dsimp only at h1 h2
    omega
  · by_cases z : q = 0
    · exfalso
      obtain ⟨x, y, e⟩ := w.cop
      dsimp only at e
      rw [z, Int.mul_zero, Int.add_zero] at e
      have hp : 0 < p := by
        rcases Int.lt_trichotomy p 0 with h | h | h
        · omega
        · rw [h, Int.mul_zero] at e
          cases e
        · exact h
      have h1 := Int.eq_one_of_dvd_one (by omega) (show p ∣ 1 from ⟨x, by rw [Int.mul_comm]; exact e.symm⟩)
      omega
    · omega
theorem form_snoc {w : List Lt} {x : Lt} (h : form w) (h1 : w = [] → x = .s) (h2 : w = [.s] → x = .r) (h3 : ∀ y, w.getLast? = some y → isS y ≠ isS x) : form (w ++ [x]) := by
  refine ⟨red_snoc w x h.1 h3, ?_⟩
  rcases h.2 with rfl | rfl | ⟨r, rfl⟩
  · rw [h1 rfl]
    exact .inr (.inl rfl)
  · rw [h2 rfl]
    exact .inr (.inr ⟨[], rfl⟩)
  · exact .inr (.inr ⟨r ++ [x], rfl⟩)
theorem vw_shape : ∀ (n : Nat) (v : Vl) (ls : List Lt), Val v → vw n v = some ls → form ls.reverse ∧ (ls = [] ∧ v = inf ∨ ∃ r, ls = lastL v :: r) := by
  intro n
  induction n with
  | zero =>
    intro v ls hv h
    unfold vw at h
    split at h
    · rename_i c
      cases h
      refine ⟨⟨rfl, .inl rfl⟩, .inl ⟨rfl, ?_⟩⟩
      obtain ⟨p, q⟩ := v
      obtain ⟨rfl, rfl⟩ := c
      rfl
    · cases h
  | succ n ih =>
    intro v ls hv h
    unfold vw at h
    split at h
    · rename_i c
      cases h
      refine ⟨⟨rfl, .inl rfl⟩, .inl ⟨rfl, ?_⟩⟩
      obtain ⟨p, q⟩ := v
      obtain ⟨rfl, rfl⟩ := c
      rfl
    · rename_i c
      obtain ⟨r, hr, rfl⟩ := Option.map_eq_some_iff.mp h
      have hq := val_pos hv c
      have w2 : Val (act (lastL v).inv.mv v) := hv.act (det_mv _)
      have e2 := vw_val _ _ _ w2.nm hr
      obtain ⟨f, hs⟩ := ih _ _ w2 hr
      refine ⟨?_, .inr ⟨r, rfl⟩⟩
      rw [List.reverse_cons]
      have hl : r.reverse.getLast? = r.head? := by rw [List.getLast?_reverse]
      have en : r.reverse = [] → act (lastL v).inv.mv v = inf := fun z => by rw [← e2, z, valW_nil]
      have es : r.reverse = [.s] → act (lastL v).inv.mv v = ⟨0, 1⟩ := fun z => by rw [← e2, z]; decide
      have eh : ∀ y, r.reverse.getLast? = some y → y = lastL (act (lastL v).inv.mv v) := by
        intro y hy
        rw [hl] at hy
        rcases hs with ⟨z, _⟩ | ⟨r2, z⟩
        · rw [z] at hy
          cases hy
        · rw [z] at hy
          cases hy
          rfl
      have ez : (act (lastL v).inv.mv v).q = 0 → r.reverse = [] := fun z => by
        by_cases c2 : (act (lastL v).inv.mv v).p = 1 ∧ (act (lastL v).inv.mv v).q = 0
        · unfold vw at hr
          rw [if_pos c2] at hr
          cases hr
          rfl
        · have := val_pos w2 c2
          omega
      clear ih hs e2 h hr hl w2
      obtain ⟨p, q⟩ := v
      dsimp only at hq c
      unfold lastL at en es eh ez ⊢
      dsimp only at en es eh ez ⊢
      by_cases c1 : 0 ≤ p
      · rw [if_pos c1] at en es eh ez ⊢
        refine form_snoc f (fun _ => rfl) (fun z => ?_) fun y hy => ?_
        · exfalso
          have := es z
          unfold Lt.inv Lt.mv act app nrm vneg at this
          dsimp only at this
          split at this <;> (injection this with h1 h2; omega)
        · have := eh y hy
          by_cases c0 : p = 0
          · -- the first letter: nothing stands ahead of it
            exfalso
            have hx : r.reverse ≠ [] := fun z => by
              rw [z] at hy
              cases hy
            refine hx (ez ?_)
            unfold Lt.inv Lt.mv act app nrm vneg
            dsimp only
            split <;> (dsimp only; omega)
          · have e3 : act Lt.s.inv.mv ⟨p, q⟩ = ⟨-q, p⟩ := by
              unfold Lt.inv Lt.mv act app nrm vneg
              dsimp only
              rw [if_pos (.inl (by omega))]
              refine vext ?_ ?_ <;> dsimp only <;> omega
            rw [e3] at this
            dsimp only at this
            rw [if_neg (by omega)] at this
            split at this <;> (rw [this]; decide)
      · rw [if_neg c1] at en es eh ⊢
        by_cases c2 : -p ≤ q
        · rw [if_pos c2] at en es eh ⊢
          have e3 : act Lt.r.inv.mv ⟨p, q⟩ = ⟨p + q, -p⟩ := by
            unfold Lt.inv Lt.mv act app nrm vneg
            dsimp only
            rw [if_neg (by omega)]
            refine vext ?_ ?_ <;> dsimp only <;> omega
          rw [e3] at en es eh
          refine form_snoc f (fun z => ?_) (fun _ => rfl) fun y hy => ?_
          · have := en z
            unfold inf at this
            injection this with h1 h2
            omega
          · have := eh y hy
            dsimp only at this
            rw [if_pos (by omega)] at this
            rw [this]
            decide
        · rw [if_neg c2] at en es eh ⊢
          have e3 : act Lt.R.inv.mv ⟨p, q⟩ = ⟨q, -p - q⟩ := by
            unfold Lt.inv Lt.mv act app nrm vneg
            dsimp only
            rw [if_neg (by omega)]
            refine vext ?_ ?_ <;> dsimp only <;> omega
          rw [e3] at en es eh
          refine form_snoc f (fun z => ?_) (fun z => ?_) fun y hy => ?_
          · have := en z
            unfold inf at this
            injection this with h1 h2
            omega
          · have := es z
            injection this with h1 h2
            omega
          · have := eh y hy
            dsimp only at this
            rw [if_pos (by omega)] at this
            rw [this]
            decide
/-! ### long words -/
theorem vw_none : ∀ (p n : Nat), n ≤ 2 * p → vw n ⟨p, 1⟩ = none
  | 0, n, h => by
    have e : n = 0 := by omega
    subst e
    rfl
  | p + 1, 0, h => by
    unfold vw
    rw [if_neg (by dsimp only; omega)]
  | p + 1, 1, h => by
    unfold vw
    rw [if_neg (by dsimp only; omega)]
    dsimp only
    have e : lastL ⟨((p + 1 : Nat) : Int), 1⟩ = .s := by
      unfold lastL
      rw [if_pos (by dsimp only; omega)]
    have e2 : act Lt.s.inv.mv ⟨((p + 1 : Nat) : Int), 1⟩ = ⟨-1, ((p + 1 : Nat) : Int)⟩ := by
      unfold Lt.inv Lt.mv act app nrm vneg
      dsimp only
      rw [if_pos (.inl (by omega))]
      refine vext ?_ ?_ <;> dsimp only <;> omega
    rw [e, e2]
    unfold vw
    rw [if_neg (by dsimp only; omega)]
    rfl
  | p + 1, n + 2, h => by
    have ih := vw_none p n (by omega)
    unfold vw
    rw [if_neg (by dsimp only; omega)]
    dsimp only
    have e : lastL ⟨((p + 1 : Nat) : Int), 1⟩ = .s := by
      unfold lastL
      rw [if_pos (by dsimp only; omega)]
    have e2 : act Lt.s.inv.mv ⟨((p + 1 : Nat) : Int), 1⟩ = ⟨-1, ((p + 1 : Nat) : Int)⟩ := by
      unfold Lt.inv Lt.mv act app nrm vneg
      dsimp only
      rw [if_pos (.inl (by omega))]
      refine vext ?_ ?_ <;> dsimp only <;> omega
    rw [e, e2]
    unfold vw
    rw [if_neg (by dsimp only; omega)]
    dsimp only
    have e3 : lastL ⟨-1, ((p + 1 : Nat) : Int)⟩ = .r := by
      unfold lastL
      rw [if_neg (by dsimp only; omega), if_pos (by dsimp only; omega)]
    have e4 : act Lt.r.inv.mv ⟨-1, ((p + 1 : Nat) : Int)⟩ = ⟨(p : Int), 1⟩ := by
      unfold Lt.inv Lt.mv act app nrm vneg
      dsimp only
      rw [if_neg (by omega)]
      refine vext ?_ ?_ <;> dsimp only <;> omega
    rw [e3, e4, ih]
    rfl
theorem vw_deep : vw 60 ⟨1, 10 ^ 40⟩ = none := by decide +kernel
end Wm

set_option Elab.async false
set_option linter.all false
set_option maxRecDepth 100000
set_option maxHeartbeats 4000000
namespace DP
open PySem PySem.Spec L2 DL Wm
def kv_LETTER_MOVES : List (Str × D) := [("s", .tup [.int 0, .int 1, .int (-1), .int 0]), ("r", .tup [.int 0, .int 1, .int (-1), .int (-1)]), ("R", .tup [.int 1, .int 1, .int (-1), .int 0])]
def kv_INVERSES : List (Str × D) := [("s", .str "s"), ("r", .str "R"), ("R", .str "r")]
theorem wS1_s : ("s" : Str) = wS [.s] := by decide +kernel
theorem look_moves (x : Lt) : kv_LETTER_MOVES.lookup (wS [x]) = some (mvD x.mv) := by
  unfold kv_LETTER_MOVES
  simp only [wS_s, wS_r, wS_R]
  cases x <;> simp only [List.lookup_cons, beq_iff_eq, wS_eq] <;> rfl
theorem look_inv (x : Lt) : kv_INVERSES.lookup (wS [x]) = some (.str (wS [x.inv])) := by
  unfold kv_INVERSES
  simp only [wS_s, wS_r, wS_R]
  cases x <;> rfl
theorem Bn1 (x : Lt) : Bn 1 x.mv := by cases x <;> (unfold Bn Lt.mv; decide)
/-! ### the move of a word, by the program -/
def sp_move_of : DSp := sp_law_move
def d_move_of (c_product : DSp) : DS :=
  (dSeq (dSet (dC (.tup [.int 1, .int 0, .int 0, .int 1])) 1)
  (dSeq (dFor (diSq (dVar 0)) (hName 2) (dSet (dFn c_product 2 (dCons (dVar 1) (dCons (dIxT kv_LETTER_MOVES (dVar 2)) dNil))) 1))
  (dRet (dVar 1))))
theorem b_move_of {as : List D} {M : DM} {Qd : DK} {Xd : DX} (hl : as.length = 1) (h : sp_move_of as M Qd Xd) : d_move_of sp_product (endsD Qd Xd) (startD 3 as) M := by
  obtain ⟨w, rfl, hw, q⟩ := h
  unfold d_move_of
  simp only [atI_0, atI_1, atI_2, atI_3, ixN31, ixN32, ixN30, startD, List.map_cons, List.map_nil, List.length_cons, List.length_nil, List.cons_append, List.nil_append, Nat.reduceAdd, Nat.reduceSub, List.replicate, List.getElem?_cons_zero, List.getElem?_cons_succ, List.set_cons_zero, List.set_cons_succ, List.set_nil, true_and, and_true, if_true, ite_true]
  refine go_seq fun k hk => ?_; simp only [dSet, dAsg, dPar, dAug, dRet, dRetN, dDrop, dNext, dNever, dBreak, dCont, diSq, diR1, diR2, items, onI1, onI2, dVar, dC, dOp, dUn, dTest, onB, dAnd, dOr, dNot, dAndV, dOrV, dNotV, dIf, dNil, dCons, dTup, dLst, dLstM, dCall, dFn, hName, hNil, hCons, hSeq, hSub, setF, onSeq, seqD, dSl, doNo, doAt, onI, slF, lstV, lstM, on2, addF, mulF, iF, CT, negF, cmpF, id, ixF, onO, lenF, absF, maxF, minF, tupleF, listF, listFM, reprF, on1, dDictIx, dPairs, onS, lastD, dComp, bName, bSeq, bNames, dYes, wipeD, subF, fdivF, modF, powF, ltF, leF, gtF, geF, eqF, neF, endsD, atI_0, atI_1, atI_2, atI_3, ixN31, ixN32, ixN30, startD, List.map_cons, List.map_nil, List.length_cons, List.length_nil, List.cons_append, List.nil_append, Nat.reduceAdd, Nat.reduceSub, List.replicate, List.getElem?_cons_zero, List.getElem?_cons_succ, List.set_cons_zero, List.set_cons_succ, List.set_nil, true_and, and_true, if_true, ite_true]; subst hk
  refine go_seq fun k hk => ?_
  simp only [dFor, diSq, dVar, items, atI_0, atI_1, atI_2, atI_3, ixN31, ixN32, ixN30, startD, List.map_cons, List.map_nil, List.length_cons, List.length_nil, List.cons_append, List.nil_append, Nat.reduceAdd, Nat.reduceSub, List.replicate, List.getElem?_cons_zero, List.getElem?_cons_succ, List.set_cons_zero, List.set_cons_succ, List.set_nil, true_and, and_true, if_true, ite_true]
  rw [chars_wS]
  refine dLoop_inv (fun ds ρ M' => M' = M ∧ ∃ (suf : List Lt) (m : Mv) (n : Nat) (o : Option D), ds = suf.map (fun x => D.str (wS [x])) ∧ ρ = [some (.str (wS w)), some (mvD m), o] ∧ moveL m suf = moveW w ∧ Good n m ∧ n + suf.length ≤ w.length) ?_ ?_ _ _ _ ⟨rfl, w, one, 0, none, rfl, rfl, rfl, Good.one, by omega⟩
  · rintro ρ M' ⟨rfl, suf, m, n, o, e, rfl, em, hg, hn⟩
    have e2 : suf = [] := by
      cases suf with
      | nil => rfl
      | cons x r => cases e
    subst e2
    subst hk
    simp only [dSet, dAsg, dPar, dAug, dRet, dRetN, dDrop, dNext, dNever, dBreak, dCont, diSq, diR1, diR2, items, onI1, onI2, dVar, dC, dOp, dUn, dTest, onB, dAnd, dOr, dNot, dAndV, dOrV, dNotV, dIf, dNil, dCons, dTup, dLst, dLstM, dCall, dFn, hName, hNil, hCons, hSeq, hSub, setF, onSeq, seqD, dSl, doNo, doAt, onI, slF, lstV, lstM, on2, addF, mulF, iF, CT, negF, cmpF, id, ixF, onO, lenF, absF, maxF, minF, tupleF, listF, listFM, reprF, on1, dDictIx, dPairs, onS, lastD, dComp, bName, bSeq, bNames, dYes, wipeD, subF, fdivF, modF, powF, ltF, leF, gtF, geF, eqF, neF, endsD, atI_0, atI_1, atI_2, atI_3, ixN31, ixN32, ixN30, startD, List.map_cons, List.map_nil, List.length_cons, List.length_nil, List.cons_append, List.nil_append, Nat.reduceAdd, Nat.reduceSub, List.replicate, List.getElem?_cons_zero, List.getElem?_cons_succ, List.set_cons_zero, List.set_cons_succ, List.set_nil, true_and, and_true, if_true, ite_true]
    have e3 : m = moveW w := em
    rw [e3]
    exact rtD.of q
  · rintro d r ρ M' ⟨rfl, suf, m, n, o, e, rfl, em, hg, hn⟩ nx hnx
    cases suf with
    | nil => cases e
    | cons x suf =>
      rw [List.map_cons] at e
      injection e with e1 e2
      subst e1 e2
      simp only [hName, dSet, dFn, dCons, dNil, dIxT, dC, dVar, onS, look_moves, onO, atI_0, atI_1, atI_2, atI_3, ixN31, ixN32, ixN30, startD, List.map_cons, List.map_nil, List.length_cons, List.length_nil, List.cons_append, List.nil_append, Nat.reduceAdd, Nat.reduceSub, List.replicate, List.getElem?_cons_zero, List.getElem?_cons_succ, List.set_cons_zero, List.set_cons_succ, List.set_nil, true_and, and_true, if_true, ite_true]
      exact ⟨m, x.mv, n, 1, rfl, hg.bn, Bn1 x, by omega, hnx _ _ ⟨rfl, suf, _, n + 1, _, rfl, rfl, em, hg.letter x, by rw [List.length_cons] at hn; omega⟩⟩
def sp_value_of : DSp := fun as M Q _ => ∃ w : List Lt, as = [.str (wS w)] ∧ w.length ≤ 100000 ∧ Q (vlD (valW w)) M
def d_value_of (c_act : DSp) (c_move_of : DSp) : DS :=
  (dRet (dFn c_act 2 (dCons (dFn c_move_of 1 (dCons (dVar 0) dNil)) (dCons (dC (.tup [.int 1, .int 0])) dNil))))
theorem b_value_of {as : List D} {M : DM} {Qd : DK} {Xd : DX} (hl : as.length = 1) (h : sp_value_of as M Qd Xd) : d_value_of sp_act sp_move_of (endsD Qd Xd) (startD 1 as) M := by
  obtain ⟨w, rfl, hw, q⟩ := h
  unfold d_value_of
  simp only [dRet, dFn, dCons, dNil, dC, dVar, atI_0, atI_1, atI_2, atI_3, ixN31, ixN32, ixN30, startD, List.map_cons, List.map_nil, List.length_cons, List.length_nil, List.cons_append, List.nil_append, Nat.reduceAdd, Nat.reduceSub, List.replicate, List.getElem?_cons_zero, List.getElem?_cons_succ, List.set_cons_zero, List.set_cons_succ, List.set_nil, true_and, and_true, if_true, ite_true]
  exact ⟨w, rfl, hw, moveW w, inf, w.length, 0, rfl, (Good.word w).bn, by unfold Vn inf; decide, by omega, rtD.of q⟩
/-! ### letters of values -/
def sp_last_letter : DSp := fun as M Q _ => ∃ v : Vl, as = [vlD v] ∧ Q (.str (wS [lastL v])) M
def d_last_letter : DS :=
  (dSeq (dAsg (dVar 0) (hSeq 2 (hCons (hName 1) (hCons (hName 2) hNil))))
  (dSeq (dIfS (dTest (dOp geF (dVar 1) (dC (.int 0)))) (dRet (dC (.str "s"))) dNext)
  (dRet (dIf (dTest (dOp leF (dUn negF (dVar 1)) (dVar 2))) (dC (.str "r")) (dC (.str "R"))))))
theorem b_last_letter {as : List D} {M : DM} {Qd : DK} {Xd : DX} (hl : as.length = 1) (h : sp_last_letter as M Qd Xd) : d_last_letter (endsD Qd Xd) (startD 3 as) M := by
  obtain ⟨v, rfl, q⟩ := h
  unfold d_last_letter
  simp only [atI_0, atI_1, atI_2, atI_3, ixN31, ixN32, ixN30, startD, List.map_cons, List.map_nil, List.length_cons, List.length_nil, List.cons_append, List.nil_append, Nat.reduceAdd, Nat.reduceSub, List.replicate, List.getElem?_cons_zero, List.getElem?_cons_succ, List.set_cons_zero, List.set_cons_succ, List.set_nil, true_and, and_true, if_true, ite_true]
  refine go_seq fun k hk => ?_; simp only [vlD, intsD, Vl.l, dSet, dAsg, dPar, dAug, dRet, dRetN, dDrop, dNext, dNever, dBreak, dCont, diSq, diR1, diR2, items, onI1, onI2, dVar, dC, dOp, dUn, dTest, onB, dAnd, dOr, dNot, dAndV, dOrV, dNotV, dIf, dNil, dCons, dTup, dLst, dLstM, dCall, dFn, hName, hNil, hCons, hSeq, hSub, setF, onSeq, seqD, dSl, doNo, doAt, onI, slF, lstV, lstM, on2, addF, mulF, iF, CT, negF, cmpF, id, ixF, onO, lenF, absF, maxF, minF, tupleF, listF, listFM, reprF, on1, dDictIx, dPairs, onS, lastD, dComp, bName, bSeq, bNames, dYes, wipeD, subF, fdivF, modF, powF, ltF, leF, gtF, geF, eqF, neF, endsD, atI_0, atI_1, atI_2, atI_3, ixN31, ixN32, ixN30, startD, List.map_cons, List.map_nil, List.length_cons, List.length_nil, List.cons_append, List.nil_append, Nat.reduceAdd, Nat.reduceSub, List.replicate, List.getElem?_cons_zero, List.getElem?_cons_succ, List.set_cons_zero, List.set_cons_succ, List.set_nil, true_and, and_true, if_true, ite_true]; subst hk
  refine go_seq fun k hk => ?_; simp only [dIfS, dSet, dAsg, dPar, dAug, dRet, dRetN, dDrop, dNext, dNever, dBreak, dCont, diSq, diR1, diR2, items, onI1, onI2, dVar, dC, dOp, dUn, dTest, onB, dAnd, dOr, dNot, dAndV, dOrV, dNotV, dIf, dNil, dCons, dTup, dLst, dLstM, dCall, dFn, hName, hNil, hCons, hSeq, hSub, setF, onSeq, seqD, dSl, doNo, doAt, onI, slF, lstV, lstM, on2, addF, mulF, iF, CT, negF, cmpF, id, ixF, onO, lenF, absF, maxF, minF, tupleF, listF, listFM, reprF, on1, dDictIx, dPairs, onS, lastD, dComp, bName, bSeq, bNames, dYes, wipeD, subF, fdivF, modF, powF, ltF, leF, gtF, geF, eqF, neF, endsD, atI_0, atI_1, atI_2, atI_3, ixN31, ixN32, ixN30, startD, List.map_cons, List.map_nil, List.length_cons, List.length_nil, List.cons_append, List.nil_append, Nat.reduceAdd, Nat.reduceSub, List.replicate, List.getElem?_cons_zero, List.getElem?_cons_succ, List.set_cons_zero, List.set_cons_succ, List.set_nil, true_and, and_true, if_true, ite_true]
  unfold lastL at q
  by_cases c1 : 0 ≤ v.p
  · rw [if_pos (by simpa using c1)]
    rw [if_pos c1, ← wS_s] at q
    exact rtD.of q
  · rw [if_neg (by simpa using c1)]
    rw [if_neg c1] at q
    subst hk
    simp only [dSet, dAsg, dPar, dAug, dRet, dRetN, dDrop, dNext, dNever, dBreak, dCont, diSq, diR1, diR2, items, onI1, onI2, dVar, dC, dOp, dUn, dTest, onB, dAnd, dOr, dNot, dAndV, dOrV, dNotV, dIf, dNil, dCons, dTup, dLst, dLstM, dCall, dFn, hName, hNil, hCons, hSeq, hSub, setF, onSeq, seqD, dSl, doNo, doAt, onI, slF, lstV, lstM, on2, addF, mulF, iF, CT, negF, cmpF, id, ixF, onO, lenF, absF, maxF, minF, tupleF, listF, listFM, reprF, on1, dDictIx, dPairs, onS, lastD, dComp, bName, bSeq, bNames, dYes, wipeD, subF, fdivF, modF, powF, ltF, leF, gtF, geF, eqF, neF, endsD, atI_0, atI_1, atI_2, atI_3, ixN31, ixN32, ixN30, startD, List.map_cons, List.map_nil, List.length_cons, List.length_nil, List.cons_append, List.nil_append, Nat.reduceAdd, Nat.reduceSub, List.replicate, List.getElem?_cons_zero, List.getElem?_cons_succ, List.set_cons_zero, List.set_cons_succ, List.set_nil, true_and, and_true, if_true, ite_true]
    by_cases c2 : -v.p ≤ v.q
    · rw [if_pos (by simpa using c2)]
      rw [if_pos c2, ← wS_r] at q
      exact rtD.of q
    · rw [if_neg (by simpa using c2)]
      rw [if_neg c2, ← wS_R] at q
      exact rtD.of q
theorem joinL_nil : ∀ xs : List (List Nat), TL.joinL [] xs = xs.flatten
  | [] => rfl
  | [p] => by
    show p = _
    simp
  | p :: q :: r => by
    show p ++ ([] ++ TL.joinL [] (q :: r)) = _
    rw [joinL_nil (q :: r)]
    simp
theorem join_wS (ls : List Lt) : Txt.join "" (ls.map fun x => wS [x]) = wS ls := by
  have e0 : ("" : Str) = SX.S [] := by decide +kernel
  have e1 : (ls.map fun x => wS [x]) = (ls.map fun x => [code x]).map SX.S := by
    rw [List.map_map]
    rfl
  rw [e0, e1, SX.join_S, joinL_nil]
  have e2 : (ls.map fun x => [code x]).flatten = ls.map code := by
    clear e1
    induction ls with
    | nil => rfl
    | cons x r ih =>
      rw [List.map_cons, List.flatten_cons, ih]
      rfl
  rw [e2]
  rfl
/-! ### the letters of a value -/
def lwD : Option (List Lt) → D
  | some ls => .str (wS ls.reverse)
  | none => .non
def sp_letters_to : DSp := fun as M Q _ => ∃ (v : Vl) (n k : Nat), as = [vlD v, .int n] ∧ Vn k v ∧ k ≤ 100000 ∧ n ≤ 1000 ∧ Q (lwD (vw n v)) M
def d_letters_to (c_act : DSp) (c_last_letter : DSp) : DS :=
  (dSeq (dSet (dLstM dNil) 2)
  (dSeq (dWhile (dTest (dOp neF (dVar 0) (dC (.tup [.int 1, .int 0])))) (dSeq (dIfS (dTest (dOp eqF (dCall lenF (dCons (dVar 2) dNil)) (dVar 1))) (dRet (dC .non)) dNext)
  (dSeq (dSet (dFn c_last_letter 1 (dCons (dVar 0) dNil)) 3)
  (dSeq (dDrop (dMt "list" appF (dVar 2) (dCons (dVar 3) dNil)))
  (dSet (dFn c_act 2 (dCons (dIxT kv_LETTER_MOVES (dIxT kv_INVERSES (dVar 3))) (dCons (dVar 0) dNil))) 0)))))
  (dRet (dMt "str" joinF (dC (.str "")) (dCons (dRevL (dVar 2)) dNil)))))
theorem inf_iff (u : Vl) : (u.p = 1 ∧ u.q = 0) = (u = inf) := by
  obtain ⟨p, q⟩ := u
  unfold inf
  simp
theorem sub_put {M : DM} {p : Addr} {o : MO} (h : M p = none) : Sub M (put M p o) := fun a u e => by
  rw [put_ne]
  · exact e
  · intro z
    rw [z, h] at e
    cases e
theorem noLs_wS : ∀ ls : List Lt, noLs (ls.map fun x => D.str (wS [x])) = true
  | [] => noLs_nil
  | x :: ls => by
    rw [List.map_cons, noLs_cons, noLs_wS ls]
    rfl
theorem strB_wS (ls : List Lt) : strB (ls.map fun x => D.str (wS [x])) = some (ls.map fun x => wS [x]) := strB_map (fun x => wS [x]) ls
theorem sum_wS : ∀ ls : List Lt, ((ls.map fun x => wS [x]).map (·.length)).sum = ls.length
  | [] => rfl
  | x :: ls => by
    rw [List.map_cons, List.map_cons, List.sum_cons, sum_wS ls, List.length_cons]
    have : (wS [x]).length = 1 := wS_len [x]
    omega
theorem vw_inf (n : Nat) : vw n inf = some [] := by
  unfold vw
  rfl
theorem vw_zero {u : Vl} (h : u ≠ inf) : vw 0 u = none := by
  unfold vw
  rw [if_neg (by rw [inf_iff]; exact h)]
theorem vw_succ {u : Vl} (n : Nat) (h : u ≠ inf) : vw (n + 1) u = (vw n (act (lastL u).inv.mv u)).map (lastL u :: ·) := by
  conv => lhs; unfold vw
  rw [if_neg (by rw [inf_iff]; exact h)]
theorem b_letters_to {as : List D} {M : DM} {Qd : DK} {Xd : DX} (hl : as.length = 2) (h : sp_letters_to as M Qd Xd) : d_letters_to sp_act sp_last_letter (endsD Qd Xd) (startD 4 as) M := by
  obtain ⟨v, n, k0, rfl, hv, hk0, hn, q⟩ := h
  unfold d_letters_to
  simp only [atI_0, atI_1, atI_2, atI_3, ixN31, ixN32, ixN30, startD, List.map_cons, List.map_nil, List.length_cons, List.length_nil, List.cons_append, List.nil_append, Nat.reduceAdd, Nat.reduceSub, List.replicate, List.getElem?_cons_zero, List.getElem?_cons_succ, List.set_cons_zero, List.set_cons_succ, List.set_nil, true_and, and_true, if_true, ite_true]
  refine go_seq fun k hk => ?_
  simp only [dSet, dLstM, dNil, atI_0, atI_1, atI_2, atI_3, ixN31, ixN32, ixN30, startD, List.map_cons, List.map_nil, List.length_cons, List.length_nil, List.cons_append, List.nil_append, Nat.reduceAdd, Nat.reduceSub, List.replicate, List.getElem?_cons_zero, List.getElem?_cons_succ, List.set_cons_zero, List.set_cons_succ, List.set_nil, true_and, and_true, if_true, ite_true]
  refine ⟨by decide, noLs_nil, fun p hp => ?_⟩
  subst hk
  refine go_seq fun k hk => ?_
  refine ⟨fun m ρ M' => ∃ (u : Vl) (ls : List Lt) (o : Option D), ρ = [some (vlD u), some (.int n), some (.ref p), o] ∧ M' = put M p (.lst (ls.map fun x => .str (wS [x]))) ∧ ls.length ≤ n ∧ m = n - ls.length ∧ Vn (k0 + 3 * ls.length) u ∧ (vw (n - ls.length) u).map (ls ++ ·) = vw n v, ⟨_, v, [], none, rfl, rfl, Nat.zero_le _, rfl, hv, ?_⟩, ?_⟩
  · rw [List.length_nil, Nat.sub_zero]
    cases vw n v <;> rfl
  rintro m ρ M' ⟨u, ls, o, rfl, rfl, hl, rfl, hu, hw⟩
  simp only [dTest, dOp, dVar, dC, atI_0, atI_1, atI_2, atI_3, ixN31, ixN32, ixN30, startD, List.map_cons, List.map_nil, List.length_cons, List.length_nil, List.cons_append, List.nil_append, Nat.reduceAdd, Nat.reduceSub, List.replicate, List.getElem?_cons_zero, List.getElem?_cons_succ, List.set_cons_zero, List.set_cons_succ, List.set_nil, true_and, and_true, if_true, ite_true]
  refine cmp_vl (n := inf) ?_
  simp only [onB]
  by_cases c : u = inf
  · rw [if_neg (by simp [c])]
    subst hk
    simp only [dRet, dMt, dC, dCons, dNil, dRevL, dVar, lstV, put_same, onO, joinF, on1, onSeq, seqD, atI_0, atI_1, atI_2, atI_3, ixN31, ixN32, ixN30, startD, List.map_cons, List.map_nil, List.length_cons, List.length_nil, List.cons_append, List.nil_append, Nat.reduceAdd, Nat.reduceSub, List.replicate, List.getElem?_cons_zero, List.getElem?_cons_succ, List.set_cons_zero, List.set_cons_succ, List.set_nil, true_and, and_true, if_true, ite_true]
    refine ⟨.inr ⟨rfl, _, rfl⟩, ?_⟩
    rw [← List.map_reverse, strB_wS]
    rw [c, vw_inf] at hw
    have e : vw n v = some ls := by
      rw [← hw]
      simp
    have hs : ((ls.reverse.map fun x => wS [x]).map (·.length)).sum = ls.reverse.length := sum_wS _
    have e0 : ("" : Str).length = 0 := by decide +kernel
    refine ⟨?_, ?_⟩
    · rw [hs, List.length_reverse, e0, Nat.mul_zero]
      omega
    · rw [join_wS]
      rw [e] at q
      exact ⟨_, M, sub_put hp, .same _, q⟩
  · rw [if_pos (by simp [c])]
    refine go_seq fun k2 hk2 => ?_
    simp only [dIfS, dTest, dOp, dCall, dCons, dNil, dVar, lenF, on1, onSeq, seqD, put_same, List.length_map, eqF, cmpF, id, onB, atI_0, atI_1, atI_2, atI_3, ixN31, ixN32, ixN30, startD, List.map_cons, List.map_nil, List.length_cons, List.length_nil, List.cons_append, List.nil_append, Nat.reduceAdd, Nat.reduceSub, List.replicate, List.getElem?_cons_zero, List.getElem?_cons_succ, List.set_cons_zero, List.set_cons_succ, List.set_nil, true_and, and_true, if_true, ite_true]
    by_cases c2 : ls.length = n
    · rw [if_pos (by simp [c2])]
      have e : vw n v = none := by
        rw [← hw, c2, Nat.sub_self, vw_zero c]
        rfl
      rw [e] at q
      exact ⟨_, M, sub_put hp, .same _, q⟩
    · rw [if_neg (by simp; omega)]
      obtain ⟨j, hj⟩ : ∃ j, n - ls.length = j + 1 := ⟨n - ls.length - 1, by omega⟩
      rw [hj, vw_succ j c] at hw
      subst hk2
      simp only [dNext]
      refine go_seq fun k3 hk3 => ?_
      simp only [dSet, dFn, dCons, dNil, dVar, atI_0, atI_1, atI_2, atI_3, ixN31, ixN32, ixN30, startD, List.map_cons, List.map_nil, List.length_cons, List.length_nil, List.cons_append, List.nil_append, Nat.reduceAdd, Nat.reduceSub, List.replicate, List.getElem?_cons_zero, List.getElem?_cons_succ, List.set_cons_zero, List.set_cons_succ, List.set_nil, true_and, and_true, if_true, ite_true]
      refine ⟨u, rfl, ?_⟩
      subst hk3
      refine go_seq fun k4 hk4 => ?_
      simp only [dDrop, dMt, dVar, dCons, dNil, appF, on1, onM, put_same, put_put, List.length_map, atI_0, atI_1, atI_2, atI_3, ixN31, ixN32, ixN30, startD, List.map_cons, List.map_nil, List.length_cons, List.length_nil, List.cons_append, List.nil_append, Nat.reduceAdd, Nat.reduceSub, List.replicate, List.getElem?_cons_zero, List.getElem?_cons_succ, List.set_cons_zero, List.set_cons_succ, List.set_nil, true_and, and_true, if_true, ite_true]
      refine ⟨.inl ⟨rfl, by simp [lstM, put_same]⟩, by rw [sizeLine_eq]; omega, rfl, ?_⟩
      subst hk4
      simp only [dSet, dFn, dCons, dNil, dIxT, dVar, onS, look_inv, look_moves, onO, atI_0, atI_1, atI_2, atI_3, ixN31, ixN32, ixN30, startD, List.map_cons, List.map_nil, List.length_cons, List.length_nil, List.cons_append, List.nil_append, Nat.reduceAdd, Nat.reduceSub, List.replicate, List.getElem?_cons_zero, List.getElem?_cons_succ, List.set_cons_zero, List.set_cons_succ, List.set_nil, true_and, and_true, if_true, ite_true]
      refine ⟨(lastL u).inv.mv, u, 1, k0 + 3 * ls.length, rfl, Bn1 _, hu, by omega, ?_⟩
      refine ⟨n - (ls ++ [lastL u]).length, by rw [List.length_append, List.length_singleton]; omega, _, ls ++ [lastL u], _, rfl, ?_, by rw [List.length_append, List.length_singleton]; omega, rfl, ?_, ?_⟩
      · rw [List.map_append]
        rfl
      · refine (Vn.act (Bn1 _) hu).mono ?_
        rw [List.length_append, List.length_singleton]
        omega
      · rw [← hw, List.length_append, List.length_singleton, show n - (ls.length + 1) = j by omega, Option.map_map]
        congr 1
        funext r
        simp
/-! ### the word of a value -/
def sp_value_word (ξ : Str → Addr) : DSp := fun as M Q X => ∃ (v : Vl) (n k : Nat), as = [vlD v, .int n] ∧ Vn k v ∧ k ≤ 100000 ∧ n ≤ 1000 ∧ (∀ ls, vw n v = some ls → Q (.str (wS ls.reverse)) M) ∧ (vw n v = none → X (.ref (ξ "LimitExceeded"), [("limit", .int n)]) M)
def d_value_word (ξ : Str → Addr) (c_letters_to : DSp) : DS :=
  (dSeq (dSet (dFn c_letters_to 2 (dCons (dVar 0) (dCons (dVar 1) dNil))) 2)
  (dSeq (dIfS (dTest (dIsN (dVar 2))) (dRaise (ξ "LimitExceeded") "limit" (dVar 1)) dNext)
  (dRet (dVar 2))))
theorem b_value_word {ξ : Str → Addr} {as : List D} {M : DM} {Qd : DK} {Xd : DX} (hl : as.length = 2) (h : sp_value_word ξ as M Qd Xd) : d_value_word ξ sp_letters_to (endsD Qd Xd) (startD 3 as) M := by
  obtain ⟨v, n, k0, rfl, hv, hk0, hn, q1, q2⟩ := h
  unfold d_value_word
  simp only [atI_0, atI_1, atI_2, atI_3, ixN31, ixN32, ixN30, startD, List.map_cons, List.map_nil, List.length_cons, List.length_nil, List.cons_append, List.nil_append, Nat.reduceAdd, Nat.reduceSub, List.replicate, List.getElem?_cons_zero, List.getElem?_cons_succ, List.set_cons_zero, List.set_cons_succ, List.set_nil, true_and, and_true, if_true, ite_true]
  refine go_seq fun k hk => ?_
  simp only [dSet, dFn, dCons, dNil, dVar, atI_0, atI_1, atI_2, atI_3, ixN31, ixN32, ixN30, startD, List.map_cons, List.map_nil, List.length_cons, List.length_nil, List.cons_append, List.nil_append, Nat.reduceAdd, Nat.reduceSub, List.replicate, List.getElem?_cons_zero, List.getElem?_cons_succ, List.set_cons_zero, List.set_cons_succ, List.set_nil, true_and, and_true, if_true, ite_true]
  refine ⟨v, n, k0, rfl, hv, hk0, hn, ?_⟩
  subst hk
  refine go_seq fun k hk => ?_
  simp only [dIfS, dTest, dIsN, dVar, onB, dRaise, atI_0, atI_1, atI_2, atI_3, ixN31, ixN32, ixN30, startD, List.map_cons, List.map_nil, List.length_cons, List.length_nil, List.cons_append, List.nil_append, Nat.reduceAdd, Nat.reduceSub, List.replicate, List.getElem?_cons_zero, List.getElem?_cons_succ, List.set_cons_zero, List.set_cons_succ, List.set_nil, true_and, and_true, if_true, ite_true]
  cases e : vw n v with
  | none =>
    simp only [lwD, isNonD, if_true]
    exact q2 e
  | some ls =>
    simp only [lwD, isNonD, Bool.false_eq_true, if_false, dNext]
    subst hk
    simp only [dRet, dVar, atI_0, atI_1, atI_2, atI_3, ixN31, ixN32, ixN30, startD, List.map_cons, List.map_nil, List.length_cons, List.length_nil, List.cons_append, List.nil_append, Nat.reduceAdd, Nat.reduceSub, List.replicate, List.getElem?_cons_zero, List.getElem?_cons_succ, List.set_cons_zero, List.set_cons_succ, List.set_nil, true_and, and_true, if_true, ite_true]
    exact rtD.of (q1 ls e)
def fwD (n : Nat) : Option (List Lt) → D
  | some ls => .str (wS ls.reverse)
  | none => .int n
def sp_law_found (ξ : Str → Addr) : DSp := fun as M Q _ => ∃ (v : Vl) (n k : Nat), as = [vlD v, .int n] ∧ Vn k v ∧ k ≤ 100000 ∧ n ≤ 1000 ∧ Q (fwD n (vw n v)) M
def d_law_found (ξ : Str → Addr) (exm : Value → Value → Option Bool) (c_value_word : DSp) : DS :=
  (dSeq (dSet (dC .non) 2)
  (dSeq (dTry exm (dSet (dFnK1 c_value_word 1 1 (dCons (dVar 0) dNil) (dCons (dVar 1) dNil)) 2) [(.ref (ξ "LimitExceeded"), some 3, fun a cls od => (dSet (dXf a cls od (ξ "LimitExceeded") 3 "limit") 2))])
  (dRet (dVar 2))))
theorem b_law_found {ξ : Str → Addr} {exm : Value → Value → Option Bool} (hE : exm (.ref (ξ "LimitExceeded")) (.ref (ξ "LimitExceeded")) = some true) {as : List D} {M : DM} {Qd : DK} {Xd : DX} (hl : as.length = 2) (h : sp_law_found ξ as M Qd Xd) : d_law_found ξ exm (sp_value_word ξ) (endsD Qd Xd) (startD 4 as) M := by
  obtain ⟨v, n, k0, rfl, hv, hk0, hn, q⟩ := h
  unfold d_law_found
  simp only [atI_0, atI_1, atI_2, atI_3, ixN31, ixN32, ixN30, startD, List.map_cons, List.map_nil, List.length_cons, List.length_nil, List.cons_append, List.nil_append, Nat.reduceAdd, Nat.reduceSub, List.replicate, List.getElem?_cons_zero, List.getElem?_cons_succ, List.set_cons_zero, List.set_cons_succ, List.set_nil, true_and, and_true, if_true, ite_true]
  refine go_seq fun k hk => ?_; simp only [dSet, dAsg, dPar, dAug, dRet, dRetN, dDrop, dNext, dNever, dBreak, dCont, diSq, diR1, diR2, items, onI1, onI2, dVar, dC, dOp, dUn, dTest, onB, dAnd, dOr, dNot, dAndV, dOrV, dNotV, dIf, dNil, dCons, dTup, dLst, dLstM, dCall, dFn, hName, hNil, hCons, hSeq, hSub, setF, onSeq, seqD, dSl, doNo, doAt, onI, slF, lstV, lstM, on2, addF, mulF, iF, CT, negF, cmpF, id, ixF, onO, lenF, absF, maxF, minF, tupleF, listF, listFM, reprF, on1, dDictIx, dPairs, onS, lastD, dComp, bName, bSeq, bNames, dYes, wipeD, subF, fdivF, modF, powF, ltF, leF, gtF, geF, eqF, neF, endsD, atI_0, atI_1, atI_2, atI_3, ixN31, ixN32, ixN30, startD, List.map_cons, List.map_nil, List.length_cons, List.length_nil, List.cons_append, List.nil_append, Nat.reduceAdd, Nat.reduceSub, List.replicate, List.getElem?_cons_zero, List.getElem?_cons_succ, List.set_cons_zero, List.set_cons_succ, List.set_nil, true_and, and_true, if_true, ite_true]; subst hk
  refine go_seq fun k hk => ?_
  simp only [dTry, dSet, dFnK1, dCons, dNil, dVar, atI_0, atI_1, atI_2, atI_3, ixN31, ixN32, ixN30, startD, List.map_cons, List.map_nil, List.length_cons, List.length_nil, List.cons_append, List.nil_append, Nat.reduceAdd, Nat.reduceSub, List.replicate, List.getElem?_cons_zero, List.getElem?_cons_succ, List.set_cons_zero, List.set_cons_succ, List.set_nil, true_and, and_true, if_true, ite_true]
  have fin : ∀ (o3 : Option D) (y : D), Qd y M → k (endsD Qd Xd) [some (vlD v), some (.int n), some y, o3] M := by
    intro o3 y q
    subst hk
    simp only [dSet, dAsg, dPar, dAug, dRet, dRetN, dDrop, dNext, dNever, dBreak, dCont, diSq, diR1, diR2, items, onI1, onI2, dVar, dC, dOp, dUn, dTest, onB, dAnd, dOr, dNot, dAndV, dOrV, dNotV, dIf, dNil, dCons, dTup, dLst, dLstM, dCall, dFn, hName, hNil, hCons, hSeq, hSub, setF, onSeq, seqD, dSl, doNo, doAt, onI, slF, lstV, lstM, on2, addF, mulF, iF, CT, negF, cmpF, id, ixF, onO, lenF, absF, maxF, minF, tupleF, listF, listFM, reprF, on1, dDictIx, dPairs, onS, lastD, dComp, bName, bSeq, bNames, dYes, wipeD, subF, fdivF, modF, powF, ltF, leF, gtF, geF, eqF, neF, endsD, atI_0, atI_1, atI_2, atI_3, ixN31, ixN32, ixN30, startD, List.map_cons, List.map_nil, List.length_cons, List.length_nil, List.cons_append, List.nil_append, Nat.reduceAdd, Nat.reduceSub, List.replicate, List.getElem?_cons_zero, List.getElem?_cons_succ, List.set_cons_zero, List.set_cons_succ, List.set_nil, true_and, and_true, if_true, ite_true]
    exact rtD.of q
  refine ⟨v, n, k0, rfl, hv, hk0, hn, fun ls e => ?_, fun e => ?_⟩
  · rw [e] at q
    exact fin _ _ q
  · rw [e] at q
    refine ⟨true, hE, fun _ => ?_, fun z => by cases z⟩
    intro a dd
    simp only [bindX, sufN, dSet, dXf, atI_0, atI_1, atI_2, atI_3, ixN31, ixN32, ixN30, startD, List.map_cons, List.map_nil, List.length_cons, List.length_nil, List.cons_append, List.nil_append, Nat.reduceAdd, Nat.reduceSub, List.replicate, List.getElem?_cons_zero, List.getElem?_cons_succ, List.set_cons_zero, List.set_cons_succ, List.set_nil, true_and, and_true, if_true, ite_true]
    exact fin _ _ q
def sp_law_plain (ξ : Str → Addr) : DSp := fun as M Q _ => ∃ (v : Vl) (k : Nat), as = [vlD v] ∧ Vn k v ∧ k ≤ 100000 ∧ Q (fwD 60 (vw 60 v)) M
def d_law_plain (ξ : Str → Addr) (exm : Value → Value → Option Bool) (c_value_word : DSp) : DS :=
  (dSeq (dSet (dC .non) 1)
  (dSeq (dTry exm (dSet (dFnK0 c_value_word 1 [("limit", 60)] (dCons (dVar 0) dNil)) 1) [(.ref (ξ "LimitExceeded"), some 2, fun a cls od => (dSet (dXf a cls od (ξ "LimitExceeded") 2 "limit") 1))])
  (dRet (dVar 1))))
theorem b_law_plain {ξ : Str → Addr} {exm : Value → Value → Option Bool} (hE : exm (.ref (ξ "LimitExceeded")) (.ref (ξ "LimitExceeded")) = some true) {as : List D} {M : DM} {Qd : DK} {Xd : DX} (hl : as.length = 1) (h : sp_law_plain ξ as M Qd Xd) : d_law_plain ξ exm (sp_value_word ξ) (endsD Qd Xd) (startD 3 as) M := by
  obtain ⟨v, k0, rfl, hv, hk0, q⟩ := h
  unfold d_law_plain
  simp only [atI_0, atI_1, atI_2, atI_3, ixN31, ixN32, ixN30, startD, List.map_cons, List.map_nil, List.length_cons, List.length_nil, List.cons_append, List.nil_append, Nat.reduceAdd, Nat.reduceSub, List.replicate, List.getElem?_cons_zero, List.getElem?_cons_succ, List.set_cons_zero, List.set_cons_succ, List.set_nil, true_and, and_true, if_true, ite_true]
  refine go_seq fun k hk => ?_; simp only [dSet, dAsg, dPar, dAug, dRet, dRetN, dDrop, dNext, dNever, dBreak, dCont, diSq, diR1, diR2, items, onI1, onI2, dVar, dC, dOp, dUn, dTest, onB, dAnd, dOr, dNot, dAndV, dOrV, dNotV, dIf, dNil, dCons, dTup, dLst, dLstM, dCall, dFn, hName, hNil, hCons, hSeq, hSub, setF, onSeq, seqD, dSl, doNo, doAt, onI, slF, lstV, lstM, on2, addF, mulF, iF, CT, negF, cmpF, id, ixF, onO, lenF, absF, maxF, minF, tupleF, listF, listFM, reprF, on1, dDictIx, dPairs, onS, lastD, dComp, bName, bSeq, bNames, dYes, wipeD, subF, fdivF, modF, powF, ltF, leF, gtF, geF, eqF, neF, endsD, atI_0, atI_1, atI_2, atI_3, ixN31, ixN32, ixN30, startD, List.map_cons, List.map_nil, List.length_cons, List.length_nil, List.cons_append, List.nil_append, Nat.reduceAdd, Nat.reduceSub, List.replicate, List.getElem?_cons_zero, List.getElem?_cons_succ, List.set_cons_zero, List.set_cons_succ, List.set_nil, true_and, and_true, if_true, ite_true]; subst hk
  refine go_seq fun k hk => ?_
  simp only [dTry, dSet, dFnK0, kdD, dCons, dNil, dVar, atI_0, atI_1, atI_2, atI_3, ixN31, ixN32, ixN30, startD, List.map_cons, List.map_nil, List.length_cons, List.length_nil, List.cons_append, List.nil_append, Nat.reduceAdd, Nat.reduceSub, List.replicate, List.getElem?_cons_zero, List.getElem?_cons_succ, List.set_cons_zero, List.set_cons_succ, List.set_nil, true_and, and_true, if_true, ite_true]
  have fin : ∀ (o3 : Option D) (y : D), Qd y M → k (endsD Qd Xd) [some (vlD v), some y, o3] M := by
    intro o3 y q
    subst hk
    simp only [dSet, dAsg, dPar, dAug, dRet, dRetN, dDrop, dNext, dNever, dBreak, dCont, diSq, diR1, diR2, items, onI1, onI2, dVar, dC, dOp, dUn, dTest, onB, dAnd, dOr, dNot, dAndV, dOrV, dNotV, dIf, dNil, dCons, dTup, dLst, dLstM, dCall, dFn, hName, hNil, hCons, hSeq, hSub, setF, onSeq, seqD, dSl, doNo, doAt, onI, slF, lstV, lstM, on2, addF, mulF, iF, CT, negF, cmpF, id, ixF, onO, lenF, absF, maxF, minF, tupleF, listF, listFM, reprF, on1, dDictIx, dPairs, onS, lastD, dComp, bName, bSeq, bNames, dYes, wipeD, subF, fdivF, modF, powF, ltF, leF, gtF, geF, eqF, neF, endsD, atI_0, atI_1, atI_2, atI_3, ixN31, ixN32, ixN30, startD, List.map_cons, List.map_nil, List.length_cons, List.length_nil, List.cons_append, List.nil_append, Nat.reduceAdd, Nat.reduceSub, List.replicate, List.getElem?_cons_zero, List.getElem?_cons_succ, List.set_cons_zero, List.set_cons_succ, List.set_nil, true_and, and_true, if_true, ite_true]
    exact rtD.of q
  refine ⟨v, 60, k0, rfl, hv, hk0, by decide, fun ls e => ?_, fun e => ?_⟩
  · rw [e] at q
    exact fin _ _ q
  · rw [e] at q
    refine ⟨true, hE, fun _ => ?_, fun z => by cases z⟩
    intro a dd
    simp only [bindX, sufN, dSet, dXf, atI_0, atI_1, atI_2, atI_3, ixN31, ixN32, ixN30, startD, List.map_cons, List.map_nil, List.length_cons, List.length_nil, List.cons_append, List.nil_append, Nat.reduceAdd, Nat.reduceSub, List.replicate, List.getElem?_cons_zero, List.getElem?_cons_succ, List.set_cons_zero, List.set_cons_succ, List.set_nil, true_and, and_true, if_true, ite_true]
    exact fin _ _ q
end DP

set_option Elab.async false
set_option linter.all false
set_option maxRecDepth 100000
set_option maxHeartbeats 4000000
/-! words reduced on a stack; a move as steps and a value's word. -/
namespace Wm
/-! ### the stack, its top first -/
/-- two letters: none: they stand; some none: they cancel; some (some z): they melt -/
def prod : Lt → Lt → Option (Option Lt)
  | .s, .s => some none
  | .r, .r => some (some .R)
  | .R, .R => some (some .r)
  | .r, .R => some none
  | .R, .r => some none
  | _, _ => none
def push : List Lt → Lt → List Lt
  | [], x => [x]
  | y :: st, x => match prod y x with
    | none => x :: y :: st
    | some none => st
    | some (some z) => push st z
def redW (w : List Lt) : List Lt := (w.foldl push []).reverse
theorem prod_none {y x : Lt} (h : isS y ≠ isS x) : prod y x = none := by
  cases y <;> cases x <;> first | rfl | exact absurd rfl h
theorem push_ok {st : List Lt} {x : Lt} (h : ∀ y, st.head? = some y → isS y ≠ isS x) : push st x = x :: st := by
  cases st with
  | nil => rfl
  | cons y st =>
    unfold push
    rw [prod_none (h y rfl)]
theorem red_left : ∀ (n : Nat) (w a : List Lt), w.length = n → red (a ++ w) = true → red a = true
  | 0, w, a, hn, h => by
    rw [List.length_eq_zero_iff.mp hn, List.append_nil] at h
    exact h
  | n + 1, w, a, hn, h => by
    rcases List.eq_nil_or_concat w with rfl | ⟨r, x, rfl⟩
    · cases hn
    · rw [List.concat_eq_append, ← List.append_assoc] at h
      exact red_left n r a (by rw [List.length_concat] at hn; omega) (red_init _ _ h).1
theorem fold_red : ∀ (w st : List Lt), red (st.reverse ++ w) = true → w.foldl push st = w.reverse ++ st
  | [], st, _ => rfl
  | x :: w, st, h => by
    rw [List.foldl_cons]
    have e : red ((st.reverse ++ [x]) ++ w) = true := by
      rw [List.append_assoc]
      exact h
    have h2 : red (st.reverse ++ [x]) = true := red_left _ w _ rfl e
    rw [push_ok fun y hy => (red_init _ _ h2).2 y (by rw [List.getLast?_reverse]; exact hy)]
    rw [fold_red w (x :: st) (by rw [List.reverse_cons, List.append_assoc]; exact h)]
    simp
theorem redW_red {w : List Lt} (h : red w = true) : redW w = w := by
  unfold redW
  rw [fold_red w [] h]
  simp
theorem push_len : ∀ (st : List Lt) (x : Lt), (push st x).length ≤ st.length + 1
  | [], x => Nat.le_refl _
  | y :: st, x => by
    unfold push
    split
    · simp
    · simp; omega
    · rename_i z _
      have := push_len st z
      simp only [List.length_cons]
      omega
/-! ### steps by whole numbers -/
def stp (c : Int) : Mv := ⟨1, c, 0, 1⟩
theorem sgn_stp (c : Int) : sgn (stp c) = stp c := by
  unfold sgn stp
  rw [if_neg (by dsimp only; omega)]
theorem det_stp (c : Int) : det (stp c) = 1 := by simp [det, stp]
theorem stp_add (b c : Int) : mul (stp b) (stp c) = stp (b + c) := by
  apply ext <;> simp [mul, stp]
theorem act_stp (c : Int) : act (stp c) inf = inf := by
  unfold act app stp inf nrm
  simp
theorem moveL_mul : ∀ (w : List Lt) (m : Mv), sgn m = m → moveL m w = sgn (mul m (moveW w))
  | [], m, h => by
    show m = sgn (mul m one)
    rw [mul_one, h]
  | x :: w, m, h => by
    show moveL (sgn (mul m x.mv)) w = sgn (mul m (moveL (sgn (mul one x.mv)) w))
    rw [moveL_mul w _ (sgn_sgn _), moveL_mul w _ (sgn_sgn _), sgn_mul_l, sgn_mul_r, one_mul, ← mul_assoc, ← sgn_mul_l, ← sgn_mul_l (mul m (sgn x.mv)), sgn_mul_r]
theorem moveW_app (a b : List Lt) : moveW (a ++ b) = sgn (mul (moveW a) (moveW b)) := by
  have e : ∀ (a : List Lt) (m : Mv), moveL m (a ++ b) = moveL (moveL m a) b := by
    intro a
    induction a with
    | nil => intro m; rfl
    | cons x a ih => intro m; exact ih _
  show moveL one (a ++ b) = _
  rw [e, moveL_mul b _ (Good.word a).sg]
theorem valW_steps {c : Int} {u w : List Lt} (h : moveW w = sgn (mul (stp c) (moveW u))) : valW w = valW u := by
  unfold valW
  rw [h, ← act_act, act_stp]
theorem red_tail {x : Lt} {w : List Lt} (h : red (x :: w) = true) : red w = true := by
  cases w with
  | nil => rfl
  | cons y w =>
    have h2 : ((isS x != isS y) && red (y :: w)) = true := h
    rw [Bool.and_eq_true] at h2
    exact h2.2
/-- a reduced word is so many steps and a value's word -/
theorem dec : ∀ (n : Nat) (w : List Lt), w.length ≤ n → red w = true → ∃ (c : Int) (u : List Lt), form u ∧ u.length ≤ w.length + 2 ∧ c.natAbs ≤ w.length ∧ moveW w = sgn (mul (stp c) (moveW u)) := by
  have zero : ∀ w : List Lt, moveW w = sgn (mul (stp 0) (moveW w)) := fun w => by
    have e : stp 0 = one := rfl
    rw [e, one_mul, (Good.word w).sg]
  have two : ∀ (k : Int) (x y : Lt) (t : List Lt) (c : Int) (u : List Lt), moveW [x, y] = stp k → moveW t = sgn (mul (stp c) (moveW u)) → moveW (x :: y :: t) = sgn (mul (stp (k + c)) (moveW u)) := by
    intro k x y t c u h1 h2
    have e := moveW_app [x, y] t
    rw [List.cons_append, List.cons_append, List.nil_append] at e
    rw [e, h1, h2, sgn_mul_r, ← mul_assoc, stp_add]
  intro n
  induction n with
  | zero =>
    intro w hl _
    have e : w = [] := List.length_eq_zero_iff.mp (Nat.le_zero.mp hl)
    subst e
    exact ⟨0, [], ⟨rfl, .inl rfl⟩, by decide, by decide, zero []⟩
  | succ n ih =>
    intro w hl hr
    match w, hl, hr with
    | [], _, _ => exact ⟨0, [], ⟨rfl, .inl rfl⟩, by decide, by decide, zero []⟩
    | [.s], _, _ => exact ⟨0, [.s], ⟨rfl, .inr (.inl rfl)⟩, by decide, by decide, zero [.s]⟩
    | [.r], _, _ => exact ⟨1, [.s], ⟨rfl, .inr (.inl rfl)⟩, by decide, by decide, by decide⟩
    | .s :: .s :: t, _, hr => exact absurd hr (by simp [red, isS])
    | .s :: .r :: t, hl, hr => exact ⟨0, .s :: .r :: t, ⟨hr, .inr (.inr ⟨t, rfl⟩)⟩, by omega, by simp, zero _⟩
    | .s :: .R :: t, hl, hr =>
      obtain ⟨c, u, h1, h2, h3, h4⟩ := ih t (by simp at hl; omega) (red_tail (red_tail hr))
      exact ⟨-1 + c, u, h1, by simp at *; omega, by simp at *; omega, two (-1) .s .R t c u (by decide) h4⟩
    | .r :: .s :: t, hl, hr =>
      obtain ⟨c, u, h1, h2, h3, h4⟩ := ih t (by simp at hl; omega) (red_tail (red_tail hr))
      exact ⟨1 + c, u, h1, by simp at *; omega, by simp at *; omega, two 1 .r .s t c u (by decide) h4⟩
    | .r :: .r :: t, _, hr => exact absurd hr (by simp [red, isS])
    | .r :: .R :: t, _, hr => exact absurd hr (by simp [red, isS])
    | .R :: t, hl, hr =>
      refine ⟨1, .s :: .r :: t, ⟨?_, .inr (.inr ⟨t, rfl⟩)⟩, by simp, by simp, ?_⟩
      · cases t with
        | nil => rfl
        | cons y t =>
          have h2 : ((isS .R != isS y) && red (y :: t)) = true := hr
          show ((isS .s != isS .r) && ((isS .r != isS y) && red (y :: t))) = true
          simpa [isS] using h2
      · have e1 := moveW_app [.R] t
        have e2 := moveW_app [.s, .r] t
        rw [List.cons_append, List.nil_append] at e1
        rw [List.cons_append, List.cons_append, List.nil_append] at e2
        rw [e1, e2, sgn_mul_r, ← mul_assoc]
        have e3 : moveW [.R] = sgn (mul (stp 1) (moveW [.s, .r])) := by decide
        rw [e3, sgn_mul_l]
/-! ### the word of steps -/
def rs (c : Int) : List Lt := if 0 < c then (List.replicate c.toNat [Lt.r, Lt.s]).flatten else (List.replicate (-c).toNat [Lt.s, Lt.R]).flatten
theorem red_rep (x y : Lt) (h : isS x ≠ isS y) : ∀ n : Nat, red (List.replicate n [x, y]).flatten = true
  | 0 => rfl
  | 1 => by
    show ((isS x != isS y) && true) = true
    simpa using h
  | n + 2 => by
    have ih := red_rep x y h (n + 1)
    rw [List.replicate_succ, List.flatten_cons] at ih ⊢
    rw [List.replicate_succ, List.flatten_cons]
    show ((isS x != isS y) && ((isS y != isS x) && _)) = true
    have h2 : isS y ≠ isS x := fun z => h z.symm
    have e1 : (isS x != isS y) = true := by simpa using h
    have e2 : (isS y != isS x) = true := by simpa using h2
    rw [e1, e2]
    exact ih
theorem red_rs (c : Int) : red (rs c) = true := by
  unfold rs
  split
  · exact red_rep .r .s (by decide) _
  · exact red_rep .s .R (by decide) _
theorem rep_len (x y : Lt) (n : Nat) : (List.replicate n [x, y]).flatten.length = 2 * n := by
  induction n with
  | zero => rfl
  | succ n ih =>
    rw [List.replicate_succ, List.flatten_cons, List.length_append, ih]
    simp
    omega
theorem rs_len (c : Int) : (rs c).length = 2 * c.natAbs := by
  unfold rs
  split
  · rw [rep_len]
    omega
  · rw [rep_len]
    omega
/-- the word of a move, of at most n letters -/
def wordOf (n : Nat) (m : Mv) : Option (List Lt) := match vw (n + 3) (act m inf) with
  | none => none
  | some ls => if (n : Int) + 3 < ((sgn (mul m (moveW (ls.map Lt.inv)))).b.natAbs : Int) then none else
    if n < (redW (rs (sgn (mul m (moveW (ls.map Lt.inv)))).b ++ ls.reverse)).length then none else some (redW (rs (sgn (mul m (moveW (ls.map Lt.inv)))).b ++ ls.reverse))
theorem wordOf_stp (n : Nat) (c : Int) (h : 2 * c.natAbs ≤ n) : wordOf n (stp c) = some (rs c) := by
  have e0 : vw (n + 3) inf = some [] := by
    unfold vw
    rfl
  have e1 : sgn (mul (stp c) (moveW ([] : List Lt))) = stp c := by
    show sgn (mul (stp c) one) = _
    rw [mul_one, sgn_stp]
  unfold wordOf
  rw [act_stp, e0]
  dsimp only
  rw [List.map_nil, e1, List.reverse_nil, List.append_nil]
  have e2 : (stp c).b = c := rfl
  rw [e2, redW_red (red_rs c), if_neg (by omega), if_neg (by rw [rs_len]; omega)]
theorem stp_same {c : Int} {m : Mv} (hd : det m = 1) (hs : sgn m = m) : (sgn (mul (stp c) m) = m) = (c = 0) := by
  refine propext ⟨fun h => ?_, fun h => ?_⟩
  · have e := congrArg (fun z => sgn (mul z (inv m))) h
    rw [sgn_mul_l, mul_assoc, mul_inv m hd, mul_one, sgn_stp, sgn_one] at e
    have := congrArg Mv.b e
    exact this
  · have e : stp 0 = one := rfl
    rw [h, e, one_mul, hs]
end Wm

set_option Elab.async false
set_option linter.all false
set_option maxRecDepth 100000
set_option maxHeartbeats 4000000
/-! the word of a move is the only reduced word. -/
namespace Wm
theorem moveW_snoc (w : List Lt) (x : Lt) : moveW (w ++ [x]) = sgn (mul (moveW w) x.mv) := by
  rw [moveW_app]
  show sgn (mul (moveW w) (sgn (mul one x.mv))) = _
  rw [sgn_mul_r, one_mul]
theorem moveW_cons (x : Lt) (w : List Lt) : moveW (x :: w) = sgn (mul x.mv (moveW w)) := by
  rw [show x :: w = [x] ++ w from rfl, moveW_app]
  show sgn (mul (sgn (mul one x.mv)) (moveW w)) = _
  rw [sgn_mul_l, one_mul]
/-! ### reducing keeps the move -/
theorem push_move : ∀ (st : List Lt) (x : Lt), moveW (push st x).reverse = sgn (mul (moveW st.reverse) x.mv)
  | [], x => by
    show moveW [x] = sgn (mul one x.mv)
    rfl
  | y :: st, x => by
    have e : ∀ z : Mv, sgn (mul y.mv x.mv) = sgn z → sgn (mul (moveW (y :: st).reverse) x.mv) = sgn (mul (moveW st.reverse) z) := by
      intro z hz
      rw [List.reverse_cons, moveW_snoc, sgn_mul_l, mul_assoc, ← sgn_mul_r, hz, sgn_mul_r]
    unfold push
    cases h : prod y x with
    | none =>
      dsimp only
      rw [List.reverse_cons, moveW_snoc]
    | some o =>
      cases o with
      | none =>
        dsimp only
        rw [e one (by cases y <;> cases x <;> first | decide | cases h), mul_one, (Good.word _).sg]
      | some z =>
        dsimp only
        rw [push_move st z, e z.mv]
        cases y <;> cases x <;> first | (cases h; done) | (cases h; decide)
theorem fold_move : ∀ (w st : List Lt), moveW (w.foldl push st).reverse = moveW (st.reverse ++ w)
  | [], st => by rw [List.foldl_nil, List.append_nil]
  | x :: w, st => by
    rw [List.foldl_cons, fold_move w, moveW_app, push_move, ← moveW_snoc, ← moveW_app]
    simp
theorem move_redW (w : List Lt) : moveW (redW w) = moveW w := by
  unfold redW
  rw [fold_move]
  rfl
/-! ### inverses -/
theorem inv_mul_rev (m n : Mv) : inv (mul m n) = mul (inv n) (inv m) := by
  apply ext <;> simp only [inv, mul] <;> grind
theorem moveW_inv : ∀ w : List Lt, moveW (w.reverse.map Lt.inv) = sgn (inv (moveW w))
  | [] => by decide
  | x :: w => by
    rw [List.reverse_cons, List.map_append, moveW_app, moveW_inv w, moveW_cons, sgn_inv, inv_mul_rev]
    have e : moveW ([x].map Lt.inv) = sgn (inv x.mv) := by cases x <;> decide
    rw [e, sgn_mul_l, sgn_mul_r]
theorem inv_invL (x : Lt) : x.inv.inv = x := by cases x <;> rfl
theorem inv_word2 (w : List Lt) : (w.reverse.map Lt.inv).reverse.map Lt.inv = w := by
  rw [← List.map_reverse, List.reverse_reverse, List.map_map]
  have e : Lt.inv ∘ Lt.inv = id := funext inv_invL
  rw [e, List.map_id]
/-! ### steps and their words -/
def rsP (n : Nat) : List Lt := (List.replicate n [Lt.r, Lt.s]).flatten
def rsN (n : Nat) : List Lt := (List.replicate n [Lt.s, Lt.R]).flatten
theorem rsP_succ (n : Nat) : rsP (n + 1) = .r :: .s :: rsP n := by
  unfold rsP
  rw [List.replicate_succ, List.flatten_cons]
  rfl
theorem rsN_succ (n : Nat) : rsN (n + 1) = .s :: .R :: rsN n := by
  unfold rsN
  rw [List.replicate_succ, List.flatten_cons]
  rfl
theorem rs_nat (n : Nat) : rs (n : Int) = rsP n := by
  unfold rs
  split
  · rw [Int.toNat_natCast]
    rfl
  · have e : n = 0 := by omega
    subst e
    rfl
theorem rs_neg_nat (n : Nat) : rs (-(n : Int)) = rsN n := by
  unfold rs
  rw [if_neg (by omega), Int.neg_neg, Int.toNat_natCast]
  rfl
theorem rsP_len (n : Nat) : (rsP n).length = 2 * n := rep_len _ _ _
theorem rsN_len (n : Nat) : (rsN n).length = 2 * n := rep_len _ _ _
theorem move_rsP : ∀ n : Nat, moveW (rsP n) = stp n
  | 0 => rfl
  | n + 1 => by
    rw [rsP_succ, show Lt.r :: Lt.s :: rsP n = [Lt.r, Lt.s] ++ rsP n from rfl, moveW_app, move_rsP n]
    have e : moveW [Lt.r, Lt.s] = stp 1 := by decide
    rw [e, stp_add, sgn_stp, Int.add_comm]
    rfl
theorem move_rsN : ∀ n : Nat, moveW (rsN n) = stp (-(n : Int))
  | 0 => rfl
  | n + 1 => by
    rw [rsN_succ, show Lt.s :: Lt.R :: rsN n = [Lt.s, Lt.R] ++ rsN n from rfl, moveW_app, move_rsN n]
    have e : moveW [Lt.s, Lt.R] = stp (-1) := by decide
    rw [e, stp_add, sgn_stp]
    congr 1
    omega
theorem move_rs (c : Int) : moveW (rs c) = stp c := by
  rcases Int.le_total 0 c with h | h
  · obtain ⟨n, rfl⟩ := Int.eq_ofNat_of_zero_le h
    rw [rs_nat, move_rsP]
  · obtain ⟨n, e⟩ := Int.eq_ofNat_of_zero_le (show 0 ≤ -c by omega)
    have : c = -(n : Int) := by omega
    subst this
    rw [rs_neg_nat, move_rsN]
/-! ### a reduced word: so many steps, and a value's word -/
theorem red_app (x y : Lt) (h : isS x ≠ isS y) (t : List Lt) (ht : red t = true) (hh : ∀ z, t.head? = some z → isS y ≠ isS z) : ∀ n : Nat, red ((List.replicate n [x, y]).flatten ++ t) = true ∧ (∀ z, ((List.replicate n [x, y]).flatten ++ t).head? = some z → isS y ≠ isS z)
  | 0 => ⟨ht, hh⟩
  | n + 1 => by
    obtain ⟨a, b⟩ := red_app x y h t ht hh n
    rw [List.replicate_succ, List.flatten_cons]
    generalize (List.replicate n [x, y]).flatten = g at a b
    refine ⟨?_, fun z hz => ?_⟩
    · show ((isS x != isS y) && red (y :: (g ++ t))) = true
      have e1 : (isS x != isS y) = true := by simpa using h
      rw [e1, Bool.true_and]
      generalize g ++ t = v at a b
      cases v with
      | nil => rfl
      | cons z v =>
        show ((isS y != isS z) && red (z :: v)) = true
        have := b z rfl
        rw [a]
        simpa using this
    · cases hz
      exact fun z => h z.symm
theorem red_head {x y : Lt} {w : List Lt} (h : red (x :: y :: w) = true) : isS x ≠ isS y := by
  have h2 : ((isS x != isS y) && red (y :: w)) = true := h
  rw [Bool.and_eq_true] at h2
  simpa using h2.1
theorem decS : ∀ (n : Nat) (w : List Lt), w.length ≤ n → red w = true → (∀ z, w.head? = some z → isS z = true) → ∃ (k : Nat) (u : List Lt), form u ∧ w = rsN k ++ u := by
  intro n
  induction n with
  | zero =>
    intro w hl _ _
    have e : w = [] := List.length_eq_zero_iff.mp (Nat.le_zero.mp hl)
    subst e
    exact ⟨0, [], ⟨rfl, .inl rfl⟩, rfl⟩
  | succ n ih =>
    intro w hl hr hh
    match w, hl, hr, hh with
    | [], _, _, _ => exact ⟨0, [], ⟨rfl, .inl rfl⟩, rfl⟩
    | .r :: t, _, _, hh => exact absurd (hh .r rfl) (by decide)
    | .R :: t, _, _, hh => exact absurd (hh .R rfl) (by decide)
    | [.s], _, _, _ => exact ⟨0, [.s], ⟨rfl, .inr (.inl rfl)⟩, rfl⟩
    | .s :: .s :: t, _, hr, _ => exact absurd rfl (red_head hr)
    | .s :: .r :: t, _, hr, _ => exact ⟨0, _, ⟨hr, .inr (.inr ⟨t, rfl⟩)⟩, rfl⟩
    | .s :: .R :: t, hl, hr, _ =>
      obtain ⟨k, u, hu, e⟩ := ih t (by simp at hl; omega) (red_tail (red_tail hr)) (fun z hz => by
        cases t with
        | nil => cases hz
        | cons y t =>
          cases hz
          have := red_head (red_tail hr)
          cases z
          · rfl
          · exact absurd rfl this
          · exact absurd rfl this)
      exact ⟨k + 1, u, hu, by rw [rsN_succ, e]; rfl⟩
theorem decR : ∀ (n : Nat) (w : List Lt), w.length ≤ n → red w = true → (∀ z, w.head? = some z → isS z = false) → ∃ (k : Nat) (t : List Lt), w = rsP k ++ t ∧ (t = [] ∨ t = [.r] ∨ ∃ t', t = .R :: t') := by
  intro n
  induction n with
  | zero =>
    intro w hl _ _
    have e : w = [] := List.length_eq_zero_iff.mp (Nat.le_zero.mp hl)
    subst e
    exact ⟨0, [], rfl, .inl rfl⟩
  | succ n ih =>
    intro w hl hr hh
    match w, hl, hr, hh with
    | [], _, _, _ => exact ⟨0, [], rfl, .inl rfl⟩
    | .s :: t, _, _, hh => exact absurd (hh .s rfl) (by decide)
    | .R :: t, _, _, hh => exact ⟨0, _, rfl, .inr (.inr ⟨t, rfl⟩)⟩
    | [.r], _, _, _ => exact ⟨0, [.r], rfl, .inr (.inl rfl)⟩
    | .r :: .r :: t, _, hr, _ => exact absurd rfl (red_head hr)
    | .r :: .R :: t, _, hr, _ => exact absurd (show isS .r = isS .R from rfl) (red_head hr)
    | .r :: .s :: t, hl, hr, _ =>
      obtain ⟨k, u, e, hu⟩ := ih t (by simp at hl; omega) (red_tail (red_tail hr)) (fun z hz => by
        cases t with
        | nil => cases hz
        | cons y t =>
          cases hz
          have := red_head (red_tail hr)
          cases z
          · exact absurd rfl this
          · rfl
          · rfl)
      exact ⟨k + 1, u, by rw [rsP_succ, e]; rfl, hu⟩
theorem push_stand {st : List Lt} {x : Lt} {w : List Lt} (h : red (st.reverse ++ x :: w) = true) : push st x = x :: st := by
  have h2 : red (st.reverse ++ [x]) = true := by
    refine red_left _ w _ rfl ?_
    rw [List.append_assoc]
    exact h
  refine push_ok fun y hy => (red_init _ _ h2).2 y ?_
  rw [List.getLast?_reverse]
  exact hy
theorem red_rsP (k : Nat) : red (rsP k) = true := red_rep .r .s (by decide) k
theorem red_rsN (k : Nat) : red (rsN k) = true := red_rep .s .R (by decide) k
/-- the word is found again -/
theorem dec2 (w : List Lt) (hr : red w = true) : ∃ (c : Int) (u : List Lt), form u ∧ u.length ≤ w.length + 2 ∧ c.natAbs ≤ w.length ∧ redW (rs c ++ u) = w := by
  by_cases hs : ∀ z, w.head? = some z → isS z = true
  · obtain ⟨k, u, hu, rfl⟩ := decS _ w (Nat.le_refl _) hr hs
    refine ⟨-(k : Int), u, hu, ?_, ?_, ?_⟩
    · rw [List.length_append]
      omega
    · rw [List.length_append, rsN_len]
      omega
    · rw [rs_neg_nat, redW_red hr]
  · have hs2 : ∀ z, w.head? = some z → isS z = false := fun z hz => by
      by_cases c : isS z = true
      · exact absurd (fun y hy => by rw [hz] at hy; cases hy; exact c) hs
      · simpa using c
    obtain ⟨k, t, rfl, ht⟩ := decR _ w (Nat.le_refl _) hr hs2
    have f1 : (rsP k).foldl push [] = (rsP k).reverse := by
      have := fold_red (rsP k) [] (red_rsP k)
      rwa [List.append_nil] at this
    rcases ht with rfl | rfl | ⟨t', rfl⟩
    · refine ⟨k, [], ⟨rfl, .inl rfl⟩, by simp, ?_, ?_⟩
      · rw [List.length_append, rsP_len]
        omega
      · rw [rs_nat, redW_red hr]
    · refine ⟨((k + 1 : Nat) : Int), [.s], ⟨rfl, .inr (.inl rfl)⟩, by simp, ?_, ?_⟩
      · rw [List.length_append, rsP_len]
        simp
        omega
      · rw [rs_nat]
        have e : rsP (k + 1) ++ [Lt.s] = rsP k ++ [.r, .s, .s] := by
          have : rsP (k + 1) = rsP k ++ [.r, .s] := by
            unfold rsP
            rw [List.replicate_succ', List.flatten_append]
            rfl
          rw [this, List.append_assoc]
          rfl
        rw [e]
        unfold redW
        rw [List.foldl_append, f1, List.foldl_cons]
        have p1 : push (rsP k).reverse .r = .r :: (rsP k).reverse := push_stand (w := []) (by rw [List.reverse_reverse]; exact hr)
        rw [p1]
        show (Lt.r :: (rsP k).reverse).reverse = _
        simp
    · refine ⟨((k + 1 : Nat) : Int), .s :: .r :: t', ⟨?_, .inr (.inr ⟨t', rfl⟩)⟩, by simp; omega, ?_, ?_⟩
      · have h2 : red (Lt.R :: t') = true := by
          clear f1 hs hs2
          induction k with
          | zero => exact hr
          | succ k ih => exact ih (by
              rw [rsP_succ] at hr
              exact red_tail (red_tail hr))
        cases t' with
        | nil => rfl
        | cons y t' =>
          have := red_head h2
          show ((isS .s != isS .r) && ((isS .r != isS y) && red (y :: t'))) = true
          rw [red_tail h2]
          simpa [isS] using this
      · rw [List.length_append, rsP_len]
        simp
        omega
      · rw [rs_nat]
        have e : rsP (k + 1) ++ Lt.s :: Lt.r :: t' = rsP k ++ [.r, .s, .s, .r] ++ t' := by
          have : rsP (k + 1) = rsP k ++ [.r, .s] := by
            unfold rsP
            rw [List.replicate_succ', List.flatten_append]
            rfl
          rw [this]
          simp
        rw [e]
        unfold redW
        rw [List.foldl_append, List.foldl_append, f1, List.foldl_cons]
        have p0 : push (rsP k).reverse .R = .R :: (rsP k).reverse := push_stand (w := t') (by rw [List.reverse_reverse]; exact hr)
        have p1 : push (rsP k).reverse .r = .r :: (rsP k).reverse := by
          refine push_ok fun y hy => ?_
          have h2 : red ((rsP k).reverse.reverse ++ [Lt.R]) = true := by
            refine red_left _ t' _ rfl ?_
            rw [List.reverse_reverse, List.append_assoc]
            exact hr
          exact (red_init _ _ h2).2 y (by rw [List.getLast?_reverse]; exact hy)
        rw [p1]
        show (t'.foldl push (push (rsP k).reverse .R)).reverse = _
        rw [p0, fold_red t' _ (by rw [List.reverse_cons, List.reverse_reverse, List.append_assoc]; exact hr)]
        simp
/-! ### the word of a move -/
theorem wordOf_dec (n : Nat) (c : Int) (u : List Lt) (hu : form u) : wordOf n (sgn (mul (stp c) (moveW u))) = if u.length ≤ n + 3 then (if n + 3 < c.natAbs then none else if n < (redW (rs c ++ u)).length then none else some (redW (rs c ++ u))) else none := by
  unfold wordOf
  have e1 : act (sgn (mul (stp c) (moveW u))) inf = valW u := by
    rw [← act_act, act_stp]
    rfl
  rw [e1, vw_form _ _ hu]
  by_cases h : u.length ≤ n + 3
  · rw [if_pos h, if_pos h]
    dsimp only
    rw [moveW_inv, List.reverse_reverse]
    have e2 : sgn (mul (sgn (mul (stp c) (moveW u))) (sgn (inv (moveW u)))) = stp c := by
      rw [sgn_mul_r, sgn_mul_l, mul_assoc, mul_inv _ (Good.word u).det, mul_one, sgn_stp]
    rw [e2]
    have e3 : (stp c).b = c := rfl
    rw [e3]
    have e4 : ((n : Int) + 3 < ((c.natAbs : Nat) : Int)) = (n + 3 < c.natAbs) := by
      refine propext ?_
      omega
    simp only [e4]
  · rw [if_neg h, if_neg h]
theorem wordOf_red (n : Nat) (w : List Lt) (hr : red w = true) : wordOf n (moveW w) = if w.length ≤ n then some w else none := by
  obtain ⟨c, u, hu, h1, h2, e⟩ := dec2 w hr
  have em : moveW w = sgn (mul (stp c) (moveW u)) := by
    rw [← move_rs, ← moveW_app, ← move_redW (rs c ++ u), e]
  rw [em, wordOf_dec n c u hu, e]
  by_cases h : w.length ≤ n
  · rw [if_pos h, if_pos (by omega), if_neg (by omega), if_neg (by omega)]
  · rw [if_neg h]
    split
    · split
      · rfl
      · rw [if_pos (by omega)]
    · rfl
/-- one reduced word for each move -/
theorem red_unique {v w : List Lt} (hv : red v = true) (hw : red w = true) (e : moveW v = moveW w) : v = w := by
  have h1 := wordOf_red (v.length + w.length) v hv
  have h2 := wordOf_red (v.length + w.length) w hw
  rw [if_pos (by omega)] at h1 h2
  rw [e, h2] at h1
  cases h1
  rfl
end Wm

set_option Elab.async false
set_option linter.all false
set_option maxRecDepth 100000
set_option maxHeartbeats 4000000
/-! the reduced word of a word is the only one of its move. -/
namespace Wm
theorem isS_of {x y : Lt} (h : prod x y = none) : isS x ≠ isS y := by
  intro z
  cases x <;> cases y <;> first | (cases h; done) | cases z
theorem red_push : ∀ (st : List Lt) (x : Lt), red st.reverse = true → red (push st x).reverse = true
  | [], x, _ => rfl
  | y :: st, x, h => by
    rw [List.reverse_cons] at h
    unfold push
    cases e : prod y x with
    | none =>
      dsimp only
      rw [List.reverse_cons, List.reverse_cons]
      refine red_snoc _ x h fun z hz => ?_
      rw [getLast_snoc] at hz
      cases hz
      exact isS_of e
    | some o =>
      cases o with
      | none => exact (red_init _ _ h).1
      | some z => exact red_push st z (red_init _ _ h).1
theorem red_fold : ∀ (w st : List Lt), red st.reverse = true → red (w.foldl push st).reverse = true
  | [], st, h => h
  | x :: w, st, h => red_fold w _ (red_push st x h)
theorem red_redW (w : List Lt) : red (redW w) = true := red_fold w [] rfl
theorem redW_eq {v w : List Lt} (h : moveW v = moveW w) : redW v = redW w := red_unique (red_redW v) (red_redW w) (by rw [move_redW, move_redW, h])
theorem redW_of {v w : List Lt} (hr : red v = true) (h : moveW v = moveW w) : v = redW w := red_unique hr (red_redW w) (by rw [move_redW, h])
theorem redW_join (a b : List Lt) : redW (redW a ++ redW b) = redW (a ++ b) := redW_eq (by rw [moveW_app, move_redW, move_redW, moveW_app])
theorem redW_nil {w : List Lt} (h : moveW w = one) : redW w = [] := by
  have : redW w = redW [] := redW_eq (by rw [h]; rfl)
  rw [this]
  rfl
theorem redW_inv (w : List Lt) : redW (w ++ w.reverse.map Lt.inv) = [] := redW_nil (by rw [moveW_app, moveW_inv, sgn_mul_r, mul_inv _ (Good.word w).det, sgn_one])
theorem redW_inv2 (w : List Lt) : redW (w.reverse.map Lt.inv ++ w) = [] := redW_nil (by rw [moveW_app, moveW_inv, sgn_mul_l, inv_mul _ (Good.word w).det, sgn_one])
theorem redW_there_back (n : Nat) : redW (rsP n ++ rsN n) = [] := redW_nil (by
  rw [moveW_app, move_rsP, move_rsN, stp_add, sgn_stp]
  have : (n : Int) + -(n : Int) = 0 := by omega
  rw [this]
  rfl)
theorem move_r3 : ∀ n : Nat, moveW (List.replicate (3 * n) .r) = one
  | 0 => rfl
  | n + 1 => by
    have e : List.replicate (3 * (n + 1)) Lt.r = [.r, .r, .r] ++ List.replicate (3 * n) .r := by
      rw [show 3 * (n + 1) = 3 + 3 * n by omega, ← List.replicate_append_replicate]
      rfl
    rw [e, moveW_app, move_r3 n]
    decide
theorem move_r31 (n : Nat) : moveW (List.replicate (3 * n + 1) .r) = moveW [.r] := by
  rw [← List.replicate_append_replicate, moveW_app, move_r3 n]
  decide
/-- a pair of neighbours is done -/
theorem move_pair (a b : List Lt) (x y : Lt) (o : Option Lt) (h : prod x y = some o) : moveW (a ++ o.toList ++ b) = moveW (a ++ [x, y] ++ b) := by
  have e : moveW o.toList = moveW [x, y] := by
    cases x <;> cases y <;> first | (cases h; done) | (cases h; decide)
  rw [moveW_app, moveW_app, e, ← moveW_app, ← moveW_app]
theorem red_take {w : List Lt} (h : red w = true) (n : Nat) : red (w.take n) = true := red_left _ (w.drop n) _ rfl (by rw [List.take_append_drop]; exact h)
end Wm

set_option Elab.async false
set_option linter.all false
set_option maxRecDepth 100000
set_option maxHeartbeats 4000000
namespace DP
open PySem PySem.Spec L2 DL Wm
def kt_LETTER_PRODUCTS : List (List Str × Str) := [(["s", "s"], ""), (["r", "r"], "R"), (["R", "R"], "r"), (["r", "R"], ""), (["R", "r"], "")]
def ltD (x : Lt) : D := .str (wS [x])
theorem noLs_lt : ∀ ls : List Lt, noLs (ls.map ltD) = true
  | [] => noLs_nil
  | x :: ls => by
    rw [List.map_cons, noLs_cons, noLs_lt ls]
    rfl
theorem look_prod (y x : Lt) : ttGet kt_LETTER_PRODUCTS [wS [y], wS [x]] = (prod y x).map fun o => wS o.toList := by
  unfold ttGet kt_LETTER_PRODUCTS
  simp only [wS_s, wS_r, wS_R, wS_nil, List.find?_cons, List.cons.injEq, wS_eq, and_true]
  cases y <;> cases x <;> rfl
/-! ### the stack -/
def sp_append_letter : DSp := fun as M Q _ => ∃ (p : Addr) (st : List Lt) (x : Lt), as = [.ref p, .str (wS [x])] ∧ M p = some (.lst (st.reverse.map ltD)) ∧ st.length ≤ 100000 ∧ Q .non (put M p (.lst ((push st x).reverse.map ltD)))
def d_append_letter : DS :=
  (dSeq (dWhile (dAnd (dTest (dOp neF (dVar 0) (dLst dNil))) (dTest (dInT kt_LETTER_PRODUCTS (dTup (dCons (dOp ixF (dVar 0) (dUn negF (dC (.int 1)))) (dCons (dVar 1) dNil)))))) (dSeq (dSet (dIxTT kt_LETTER_PRODUCTS (dTup (dCons (dMt "list" popF (dVar 0) dNil) (dCons (dVar 1) dNil)))) 1)
  (dIfS (dTest (dOp eqF (dVar 1) (dC (.str "")))) dRetN dNext)))
  (dDrop (dMt "list" appF (dVar 0) (dCons (dVar 1) dNil))))
theorem strB2' {a b : Str} : strB [D.str a, D.str b] = some [a, b] := rfl
theorem put_self {M : DM} {p : Addr} {o : MO} (h : M p = some o) : put M p o = M := by
  funext b
  unfold put
  split
  · rename_i e
    rw [e, h]
  · rfl
theorem strOk_wS (w : List Lt) : PyData.strOk (wS w) = true := by
  unfold PyData.strOk wS
  rw [← Array.all_toList]
  refine List.all_eq_true.mpr fun x hx => ?_
  obtain ⟨y, _, rfl⟩ := List.mem_map.mp hx
  cases y <;> decide
def ltP (x : Lt) : PyData := .str (wS [x])
theorem pyOfs_lt : ∀ ls : List Lt, pyOfs (ls.map ltD) = some (ls.map ltP)
  | [] => by simp [pyOfs]
  | x :: ls => by
    rw [List.map_cons]
    unfold pyOfs
    rw [pyOfs_lt ls]
    rfl
theorem lay_lt : ∀ ls : List Lt, PyData.canLayAll0 (ls.map ltP) = true
  | [] => by simp [PyData.canLayAll0]
  | x :: ls => by
    rw [List.map_cons]
    unfold PyData.canLayAll0
    rw [lay_lt ls]
    show (PyData.canLay0 (.str (wS [x])) && true) = true
    unfold PyData.canLay0
    rw [strOk_wS]
    rfl
theorem depth_lt : ∀ ls : List Lt, PyData.depthAll (ls.map ltP) = 0
  | [] => by simp [PyData.depthAll]
  | x :: ls => by
    rw [List.map_cons]
    unfold PyData.depthAll
    rw [depth_lt ls]
    simp [ltP, PyData.depth]
theorem ne_lts {M : DM} {p : Addr} {ls : List Lt} {Q : DK} (hM : M p = some (.lst (ls.map ltD))) (q : Q (.bl (!decide (ls = []))) M) : neF (.ref p) (.lst []) M Q := by
  have e : PyData.eqv (.list (ls.map ltP)) (.list []) = decide (ls = []) := by
    cases ls <;> simp [PyData.eqv, PyData.eqvAll]
  have s1 : SeqAt.shaped (.list (ls.map ltP)) = true := by
    unfold SeqAt.shaped PyData.canLay0 PyData.depth
    rw [lay_lt, depth_lt]
    rfl
  have s2 : SeqAt.shaped (.list []) = true := by decide +kernel
  have n : pyOfs [] = some [] := by simp [pyOfs]
  simp only [neF, cmpF, pyM, hM, pyOfs_lt, pyOf, n, Option.map_some, onP, e]
  exact ⟨s1, s2, q⟩
theorem eq_str2 {a b : List Lt} {M : DM} {Q : DK} (q : Q (.bl (decide (a = b))) M) : eqF (.str (wS a)) (.str (wS b)) M Q := by
  simp only [eqF, cmpF, id, wS_eq]
  exact q
theorem b_append_letter {as : List D} {M : DM} {Qd : DK} {Xd : DX} (hl : as.length = 2) (h : sp_append_letter as M Qd Xd) : d_append_letter (endsD Qd Xd) (startD 2 as) M := by
  obtain ⟨p, st, x, rfl, hM, hst, q⟩ := h
  unfold d_append_letter
  simp only [atI_0, atI_1, atI_2, atI_3, ixN31, ixN32, ixN30, startD, List.map_cons, List.map_nil, List.length_cons, List.length_nil, List.cons_append, List.nil_append, Nat.reduceAdd, Nat.reduceSub, List.replicate, List.getElem?_cons_zero, List.getElem?_cons_succ, List.set_cons_zero, List.set_cons_succ, List.set_nil, true_and, and_true, if_true, ite_true]
  refine go_seq fun k hk => ?_
  refine ⟨fun m ρ M' => ∃ (st' : List Lt) (x' : Lt), ρ = [some (.ref p), some (.str (wS [x']))] ∧ M' = put M p (.lst (st'.reverse.map ltD)) ∧ st'.length = m ∧ st'.length ≤ 100000 ∧ push st' x' = push st x, ⟨_, st, x, rfl, (put_self hM).symm, rfl, hst, rfl⟩, ?_⟩
  rintro m ρ M' ⟨st', x', rfl, rfl, rfl, hs', hp⟩
  simp only [dAnd, dTest, dOp, dVar, dLst, dNil, atI_0, atI_1, atI_2, atI_3, ixN31, ixN32, ixN30, startD, List.map_cons, List.map_nil, List.length_cons, List.length_nil, List.cons_append, List.nil_append, Nat.reduceAdd, Nat.reduceSub, List.replicate, List.getElem?_cons_zero, List.getElem?_cons_succ, List.set_cons_zero, List.set_cons_succ, List.set_nil, true_and, and_true, if_true, ite_true]
  refine ⟨Nat.zero_le _, ne_lts put_same ?_⟩
  have fin : push st x = x' :: st' → k (endsD Qd Xd) [some (.ref p), some (.str (wS [x']))] (put M p (.lst (st'.reverse.map ltD))) := by
    intro e
    subst hk
    simp only [dDrop, dMt, dVar, dCons, dNil, appF, on1, onM, put_same, put_put, List.length_map, atI_0, atI_1, atI_2, atI_3, ixN31, ixN32, ixN30, startD, List.map_cons, List.map_nil, List.length_cons, List.length_nil, List.cons_append, List.nil_append, Nat.reduceAdd, Nat.reduceSub, List.replicate, List.getElem?_cons_zero, List.getElem?_cons_succ, List.set_cons_zero, List.set_cons_succ, List.set_nil, true_and, and_true, if_true, ite_true]
    refine ⟨.inl ⟨rfl, by simp [lstM, put_same]⟩, by rw [sizeLine_eq, List.length_reverse]; omega, rfl, ?_⟩
    rw [e] at q
    rw [List.reverse_cons, List.map_append] at q
    exact rtD.of q
  cases st' with
  | nil =>
    simp only [onB]
    rw [if_neg (by simp)]
    exact fin hp.symm
  | cons y st2 =>
    simp only [onB]
    rw [if_pos (by simp)]
    have e1 : atI ((y :: st2).reverse.map ltD) (-1) = some (.str (wS [y])) := by
      rw [List.reverse_cons, List.map_append]
      have := atI_last (st2.reverse.map ltD) (ltD y)
      exact this
    simp only [dInT, dTup, dCons, dNil, dOp, dVar, dUn, dC, negF, ixF, onSeq, seqD, put_same, e1, onO, tupS, strB2', look_prod, atI_0, atI_1, atI_2, atI_3, ixN31, ixN32, ixN30, startD, List.map_cons, List.map_nil, List.length_cons, List.length_nil, List.cons_append, List.nil_append, Nat.reduceAdd, Nat.reduceSub, List.replicate, List.getElem?_cons_zero, List.getElem?_cons_succ, List.set_cons_zero, List.set_cons_succ, List.set_nil, true_and, and_true, if_true, ite_true]
    refine ⟨by decide, ?_⟩
    cases hpr : prod y x' with
    | none =>
      simp only [Option.map_none, Option.isSome_none, onB, Bool.false_eq_true, if_false]
      refine fin ?_
      rw [← hp]
      unfold push
      rw [hpr]
    | some o =>
      simp only [Option.map_some, Option.isSome_some, onB, if_true]
      refine go_seq fun k2 hk2 => ?_
      have e2 : ((y :: st2).reverse.map ltD).getLast? = some (.str (wS [y])) := by
        rw [List.reverse_cons, List.map_append]
        exact List.getLast?_concat ..
      have e3 : ((y :: st2).reverse.map ltD).dropLast = st2.reverse.map ltD := by
        rw [List.reverse_cons, List.map_append]
        exact List.dropLast_concat ..
      simp only [dSet, dIxTT, dTup, dCons, dNil, dMt, popF, onM, put_same, put_put, e2, e3, dVar, onO, tupS, strB2', look_prod, hpr, Option.map_some, atI_0, atI_1, atI_2, atI_3, ixN31, ixN32, ixN30, startD, List.map_cons, List.map_nil, List.length_cons, List.length_nil, List.cons_append, List.nil_append, Nat.reduceAdd, Nat.reduceSub, List.replicate, List.getElem?_cons_zero, List.getElem?_cons_succ, List.set_cons_zero, List.set_cons_succ, List.set_nil, true_and, and_true, if_true, ite_true]
      refine ⟨.inl ⟨rfl, by simp [lstM, put_same]⟩, by decide, ?_⟩
      subst hk2
      simp only [dIfS, dTest, dOp, dVar, dC, wS_nil, atI_0, atI_1, atI_2, atI_3, ixN31, ixN32, ixN30, startD, List.map_cons, List.map_nil, List.length_cons, List.length_nil, List.cons_append, List.nil_append, Nat.reduceAdd, Nat.reduceSub, List.replicate, List.getElem?_cons_zero, List.getElem?_cons_succ, List.set_cons_zero, List.set_cons_succ, List.set_nil, true_and, and_true, if_true, ite_true]
      refine eq_str2 ?_
      cases o with
      | none =>
        simp only [onB, Option.toList_none, decide_true, if_true]
        have e4 : push st x = st2 := by
          rw [← hp]
          unfold push
          rw [hpr]
        rw [e4] at q
        exact rtD.of q
      | some z =>
        simp only [onB, Option.toList_some, reduceCtorEq, decide_false, Bool.false_eq_true, if_false, dNext]
        refine ⟨st2.length, by simp, st2, z, rfl, rfl, rfl, by simp at hs'; omega, ?_⟩
        rw [← hp]
        conv => rhs; unfold push
        rw [hpr]
def sp_reduce_word : DSp := fun as M Q _ => ∃ w : List Lt, as = [.str (wS w)] ∧ w.length ≤ 100000 ∧ Q (.str (wS (redW w))) M
def d_reduce_word (c_append_letter : DSp) : DS :=
  (dSeq (dSet (dLstM dNil) 1)
  (dSeq (dFor (diSq (dVar 0)) (hName 2) (dDrop (dFn c_append_letter 2 (dCons (dVar 1) (dCons (dVar 2) dNil)))))
  (dRet (dMt "str" joinF (dC (.str "")) (dCons (dVar 1) dNil)))))
theorem b_reduce_word {as : List D} {M : DM} {Qd : DK} {Xd : DX} (hl : as.length = 1) (h : sp_reduce_word as M Qd Xd) : d_reduce_word sp_append_letter (endsD Qd Xd) (startD 3 as) M := by
  obtain ⟨w, rfl, hw, q⟩ := h
  unfold d_reduce_word
  simp only [atI_0, atI_1, atI_2, atI_3, ixN31, ixN32, ixN30, startD, List.map_cons, List.map_nil, List.length_cons, List.length_nil, List.cons_append, List.nil_append, Nat.reduceAdd, Nat.reduceSub, List.replicate, List.getElem?_cons_zero, List.getElem?_cons_succ, List.set_cons_zero, List.set_cons_succ, List.set_nil, true_and, and_true, if_true, ite_true]
  refine go_seq fun k hk => ?_
  simp only [dSet, dLstM, dNil, atI_0, atI_1, atI_2, atI_3, ixN31, ixN32, ixN30, startD, List.map_cons, List.map_nil, List.length_cons, List.length_nil, List.cons_append, List.nil_append, Nat.reduceAdd, Nat.reduceSub, List.replicate, List.getElem?_cons_zero, List.getElem?_cons_succ, List.set_cons_zero, List.set_cons_succ, List.set_nil, true_and, and_true, if_true, ite_true]
  refine ⟨by decide, noLs_nil, fun p hp => ?_⟩
  subst hk
  refine go_seq fun k hk => ?_
  simp only [dFor, diSq, dVar, items, atI_0, atI_1, atI_2, atI_3, ixN31, ixN32, ixN30, startD, List.map_cons, List.map_nil, List.length_cons, List.length_nil, List.cons_append, List.nil_append, Nat.reduceAdd, Nat.reduceSub, List.replicate, List.getElem?_cons_zero, List.getElem?_cons_succ, List.set_cons_zero, List.set_cons_succ, List.set_nil, true_and, and_true, if_true, ite_true]
  rw [chars_wS]
  refine dLoop_inv (fun ds ρ M' => ∃ (pre suf : List Lt) (o : Option D), w = pre ++ suf ∧ ds = suf.map (fun x => D.str (wS [x])) ∧ ρ = [some (.str (wS w)), some (.ref p), o] ∧ M' = put M p (.lst ((pre.foldl push []).reverse.map ltD)) ∧ (pre.foldl push []).length ≤ pre.length) ?_ ?_ _ _ _ ⟨[], w, none, rfl, rfl, rfl, rfl, Nat.le_refl _⟩
  · rintro ρ M' ⟨pre, suf, o, e, e2, rfl, rfl, hpl⟩
    have e3 : suf = [] := by
      cases suf with
      | nil => rfl
      | cons x r => cases e2
    subst e3
    rw [List.append_nil] at e
    subst e
    subst hk
    simp only [dRet, dMt, dC, dCons, dNil, dVar, joinF, on1, onSeq, seqD, put_same, onO, atI_0, atI_1, atI_2, atI_3, ixN31, ixN32, ixN30, startD, List.map_cons, List.map_nil, List.length_cons, List.length_nil, List.cons_append, List.nil_append, Nat.reduceAdd, Nat.reduceSub, List.replicate, List.getElem?_cons_zero, List.getElem?_cons_succ, List.set_cons_zero, List.set_cons_succ, List.set_nil, true_and, and_true, if_true, ite_true]
    refine ⟨.inr ⟨rfl, _, rfl⟩, ?_⟩
    have eb : strB ((w.foldl push []).reverse.map ltD) = some ((w.foldl push []).reverse.map fun x => wS [x]) := strB_wS _
    rw [eb]
    have hs := sum_wS (w.foldl push []).reverse
    have e0 : ("" : Str).length = 0 := by decide +kernel
    refine ⟨?_, ?_⟩
    · rw [hs, List.length_reverse, e0, Nat.mul_zero]
      omega
    · rw [join_wS]
      exact ⟨_, M, sub_put hp, .same _, q⟩
  · rintro d r ρ M' ⟨pre, suf, o, e, e2, rfl, rfl, hpl⟩ nx hnx
    cases suf with
    | nil => cases e2
    | cons x suf =>
      rw [List.map_cons] at e2
      injection e2 with e3 e4
      subst e3 e4
      simp only [hName, dDrop, dFn, dCons, dNil, dVar, atI_0, atI_1, atI_2, atI_3, ixN31, ixN32, ixN30, startD, List.map_cons, List.map_nil, List.length_cons, List.length_nil, List.cons_append, List.nil_append, Nat.reduceAdd, Nat.reduceSub, List.replicate, List.getElem?_cons_zero, List.getElem?_cons_succ, List.set_cons_zero, List.set_cons_succ, List.set_nil, true_and, and_true, if_true, ite_true]
      have hl2 : pre.length ≤ w.length := by
        rw [e, List.length_append]
        omega
      refine ⟨p, pre.foldl push [], x, rfl, put_same, by omega, ?_⟩
      rw [put_put]
      refine hnx _ _ ⟨pre ++ [x], suf, _, by rw [e, List.append_assoc]; rfl, rfl, rfl, ?_, ?_⟩
      · rw [List.foldl_append]
        rfl
      · rw [List.foldl_append, List.length_append]
        exact Nat.le_trans (push_len _ _) (by simp; omega)
end DP

set_option Elab.async false
set_option linter.all false
set_option maxRecDepth 100000
set_option maxHeartbeats 4000000
namespace DP
open PySem PySem.Spec L2 DL Wm
theorem fold_cps (z : List Nat) : ∀ (n : Nat) (a : Array Nat), (List.replicate n z.toArray).foldl (fun x1 x2 => x1 ++ x2) a = a ++ (List.replicate n z).flatten.toArray
  | 0, a => by simp
  | n + 1, a => by
    rw [List.replicate_succ, List.foldl_cons, fold_cps z n, List.replicate_succ, List.flatten_cons]
    simp
theorem mul_wS (w : List Lt) (n : Int) (hw : w ≠ []) : Txt.mul (wS w) n = wS (List.replicate n.toNat w).flatten := by
  unfold Txt.mul
  by_cases h1 : n < 1
  · rw [if_pos h1, show n.toNat = 0 by omega]
    rfl
  · rw [if_neg h1]
    have hl : (wS w).length ≠ 0 := by
      rw [wS_len]
      intro z
      exact hw (List.length_eq_zero_iff.mp z)
    by_cases h2 : n = 1
    · rw [if_pos (by rw [h2]; rfl), h2]
      simp
    · rw [if_neg (by simp [h2, hl])]
      have := fold_cps (w.map code) n.toNat #[]
      unfold wS
      dsimp only
      rw [this]
      have e : (List.replicate n.toNat (w.map code)).flatten = (List.replicate n.toNat w).flatten.map code := by
        rw [List.map_flatten, List.map_replicate]
      rw [e]
      simp
theorem wS_rs : ("rs" : Str) = wS [.r, .s] := by decide +kernel
theorem wS_sR : ("sR" : Str) = wS [.s, .R] := by decide +kernel
theorem rs_pos {c : Int} (h : 0 < c) : wS (rs c) = Txt.mul (wS [.r, .s]) c := by
  rw [mul_wS _ _ (by simp)]
  unfold rs
  rw [if_pos h]
theorem rs_neg {c : Int} (h : ¬ 0 < c) : wS (rs c) = Txt.mul (wS [.s, .R]) (-c) := by
  rw [mul_wS _ _ (by simp)]
  unfold rs
  rw [if_neg h]
theorem revStr_wS (w : List Lt) : revStr (wS w) = wS w.reverse := by
  unfold revStr
  rw [wS_toList]
  unfold wS
  rw [List.map_reverse]
theorem fold_len : ∀ (w st : List Lt), (w.foldl push st).length ≤ st.length + w.length
  | [], st => Nat.le_refl _
  | x :: w, st => by
    rw [List.foldl_cons, List.length_cons]
    have := fold_len w (push st x)
    have := push_len st x
    omega
theorem redW_len (w : List Lt) : (redW w).length ≤ w.length := by
  unfold redW
  rw [List.length_reverse]
  have := fold_len w []
  rw [List.length_nil] at this
  omega
/-! ### the inverse of a word -/
def sp_inverse_word : DSp := fun as M Q _ => ∃ w : List Lt, as = [.str (wS w)] ∧ w.length ≤ 100000 ∧ Q (.str (wS (w.reverse.map Lt.inv))) M
def d_inverse_word : DS :=
  (dRet (dMt "str" joinF (dC (.str "")) (dCons (dComp (diSq (dRevS (dVar 0))) (bName 1) dYes (dIxT kv_INVERSES (dVar 1)) [1]) dNil)))
theorem b_inverse_word {as : List D} {M : DM} {Qd : DK} {Xd : DX} (hl : as.length = 1) (h : sp_inverse_word as M Qd Xd) : d_inverse_word (endsD Qd Xd) (startD 2 as) M := by
  obtain ⟨w, rfl, hw, q⟩ := h
  unfold d_inverse_word
  simp only [dRet, dMt, dComp, diSq, dRevS, dVar, dC, dCons, dNil, onS, items, revStr_wS, atI_0, atI_1, atI_2, atI_3, ixN31, ixN32, ixN30, startD, List.map_cons, List.map_nil, List.length_cons, List.length_nil, List.cons_append, List.nil_append, Nat.reduceAdd, Nat.reduceSub, List.replicate, List.getElem?_cons_zero, List.getElem?_cons_succ, List.set_cons_zero, List.set_cons_succ, List.set_nil, true_and, and_true, if_true, ite_true]
  have hl2 : (wS w).length ≤ sizeLine := by rw [wS_len, sizeLine_eq]; omega
  have hl3 : (chars (wS w.reverse)).length ≤ sizeLine := by rw [chars_wS, List.length_map, List.length_reverse, sizeLine_eq]; omega
  refine ⟨.inr ⟨rfl, _, rfl⟩, hl2, hl3, ?_⟩
  rw [chars_wS]
  refine dCL_map (fun x => .str (wS [x])) (fun x => .str (wS [x.inv])) trivial _ [] (fun x _ => rfl) (fun x _ A B hA => ?_) ?_
  · simp only [bName, dYes, dIxT, dVar, onS, look_inv, onO, wipeD, atI_0, atI_1, atI_2, atI_3, ixN31, ixN32, ixN30, startD, List.map_cons, List.map_nil, List.length_cons, List.length_nil, List.cons_append, List.nil_append, Nat.reduceAdd, Nat.reduceSub, List.replicate, List.getElem?_cons_zero, List.getElem?_cons_succ, List.set_cons_zero, List.set_cons_succ, List.set_nil, true_and, and_true, if_true, ite_true]
    exact hA
  · rw [List.nil_append]
    have e : (w.reverse.map fun x => D.str (wS [x.inv])) = (w.reverse.map Lt.inv).map fun x => D.str (wS [x]) := by
      rw [List.map_map]
      rfl
    rw [e]
    generalize hv : w.reverse.map Lt.inv = v at q ⊢
    have hvl : v.length = w.length := by rw [← hv, List.length_map, List.length_reverse]
    simp only [joinF, on1, onSeq, seqD, onO]
    have eb : strB (v.map fun x => D.str (wS [x])) = some (v.map fun x => wS [x]) := strB_wS _
    rw [eb]
    have hs := sum_wS v
    have e0 : ("" : Str).length = 0 := by decide +kernel
    refine ⟨?_, ?_⟩
    · rw [hs, e0, Nat.mul_zero]
      omega
    · rw [join_wS]
      exact rtD.of q
/-! ### the word of a move -/
def sp_word_of (ξ : Str → Addr) : DSp := fun as M Q X => ∃ (m : Mv) (n j : Nat), as = [mvD m, .int n] ∧ Bn j m ∧ j ≤ 90000 ∧ n ≤ 900 ∧ (∀ w, wordOf n m = some w → Q (.str (wS w)) M) ∧ (wordOf n m = none → X (.ref (ξ "LimitExceeded"), [("limit", .int n)]) M)
def d_word_of (ξ : Str → Addr) (c_reduce_word : DSp) (c_product : DSp) (c_move_of : DSp) (c_inverse_word : DSp) (c_letters_to : DSp) (c_act : DSp) : DS :=
  (dSeq (dSet (dFn c_letters_to 2 (dCons (dFn c_act 2 (dCons (dVar 0) (dCons (dC (.tup [.int 1, .int 0])) dNil))) (dCons (dOp addF (dVar 1) (dC (.int 3))) dNil))) 2)
  (dSeq (dIfS (dTest (dIsN (dVar 2))) (dRaise (ξ "LimitExceeded") "limit" (dVar 1)) dNext)
  (dSeq (dSet (dOp ixF (dFn c_product 2 (dCons (dVar 0) (dCons (dFn c_move_of 1 (dCons (dFn c_inverse_word 1 (dCons (dVar 2) dNil)) dNil)) dNil))) (dC (.int 1))) 3)
  (dSeq (dIfS (dTest (dOp gtF (dCall absF (dCons (dVar 3) dNil)) (dOp addF (dVar 1) (dC (.int 3))))) (dRaise (ξ "LimitExceeded") "limit" (dVar 1)) dNext)
  (dSeq (dSet (dFn c_reduce_word 1 (dCons (dOp addF (dIf (dTest (dOp gtF (dVar 3) (dC (.int 0)))) (dOp mulSF (dC (.str "rs")) (dVar 3)) (dOp mulSF (dC (.str "sR")) (dUn negF (dVar 3)))) (dVar 2)) dNil)) 4)
  (dSeq (dIfS (dTest (dOp gtF (dCall lenF (dCons (dVar 4) dNil)) (dVar 1))) (dRaise (ξ "LimitExceeded") "limit" (dVar 1)) dNext)
  (dRet (dVar 4))))))))
theorem b_word_of {ξ : Str → Addr} {as : List D} {M : DM} {Qd : DK} {Xd : DX} (hl : as.length = 2) (h : sp_word_of ξ as M Qd Xd) : d_word_of ξ sp_reduce_word sp_product sp_move_of sp_inverse_word sp_letters_to sp_act (endsD Qd Xd) (startD 5 as) M := by
  obtain ⟨m, n, j, rfl, hm, hj, hn, q1, q2⟩ := h
  unfold d_word_of
  simp only [atI_0, atI_1, atI_2, atI_3, ixN31, ixN32, ixN30, startD, List.map_cons, List.map_nil, List.length_cons, List.length_nil, List.cons_append, List.nil_append, Nat.reduceAdd, Nat.reduceSub, List.replicate, List.getElem?_cons_zero, List.getElem?_cons_succ, List.set_cons_zero, List.set_cons_succ, List.set_nil, true_and, and_true, if_true, ite_true]
  refine go_seq fun k hk => ?_
  simp only [dSet, dFn, dOp, dTup, dCons, dNil, dVar, dC, addF, atI_0, atI_1, atI_2, atI_3, ixN31, ixN32, ixN30, startD, List.map_cons, List.map_nil, List.length_cons, List.length_nil, List.cons_append, List.nil_append, Nat.reduceAdd, Nat.reduceSub, List.replicate, List.getElem?_cons_zero, List.getElem?_cons_succ, List.set_cons_zero, List.set_cons_succ, List.set_nil, true_and, and_true, if_true, ite_true]
  have e3 : ((n : Int) + 3) = ((n + 3 : Nat) : Int) := rfl
  have vi : Vn 0 inf := by unfold Vn inf; decide
  refine ⟨m, inf, j, 0, rfl, hm, vi, by omega, ?_⟩
  rw [e3]
  refine ⟨act m inf, n + 3, j + 0 + 1, rfl, Vn.act hm vi, by omega, by omega, ?_⟩
  subst hk
  refine go_seq fun k hk => ?_
  simp only [dIfS, dTest, dIsN, dVar, onB, dRaise, atI_0, atI_1, atI_2, atI_3, ixN31, ixN32, ixN30, startD, List.map_cons, List.map_nil, List.length_cons, List.length_nil, List.cons_append, List.nil_append, Nat.reduceAdd, Nat.reduceSub, List.replicate, List.getElem?_cons_zero, List.getElem?_cons_succ, List.set_cons_zero, List.set_cons_succ, List.set_nil, true_and, and_true, if_true, ite_true]
  unfold wordOf at q1 q2
  cases e : vw (n + 3) (act m inf) with
  | none =>
    rw [e] at q2
    simp only [lwD, isNonD, if_true]
    exact q2 rfl
  | some ls =>
    rw [e] at q1 q2
    have hls := vw_len _ _ _ e
    simp only [lwD, isNonD, Bool.false_eq_true, if_false, dNext]
    subst hk
    refine go_seq fun k hk => ?_
    simp only [dSet, dFn, dOp, dCons, dNil, dVar, dC, atI_0, atI_1, atI_2, atI_3, ixN31, ixN32, ixN30, startD, List.map_cons, List.map_nil, List.length_cons, List.length_nil, List.cons_append, List.nil_append, Nat.reduceAdd, Nat.reduceSub, List.replicate, List.getElem?_cons_zero, List.getElem?_cons_succ, List.set_cons_zero, List.set_cons_succ, List.set_nil, true_and, and_true, if_true, ite_true]
    have e4 : ls.reverse.reverse.map Lt.inv = ls.map Lt.inv := by rw [List.reverse_reverse]
    have l4 : (ls.map Lt.inv).length = ls.length := List.length_map ..
    refine ⟨ls.reverse, rfl, by rw [List.length_reverse]; omega, ?_⟩
    rw [e4]
    refine ⟨ls.map Lt.inv, rfl, by omega, m, moveW (ls.map Lt.inv), j, (ls.map Lt.inv).length, rfl, hm, (Good.word _).bn, by omega, ?_⟩
    dsimp only at q1 q2
    generalize sgn (mul m (moveW (ls.map Lt.inv))) = z at q1 q2 ⊢
    have ez : ∀ (Q : DK), Q (.int z.b) M → ixF (mvD z) (.int 1) M Q := fun Q q => q
    refine ez _ ?_
    obtain ⟨c, hc⟩ : ∃ c, c = z.b := ⟨_, rfl⟩
    rw [← hc] at q1 q2 ⊢
    subst hk
    refine go_seq fun k hk => ?_
    simp only [dIfS, dTest, dOp, dCall, absF, onI1, gtF, iF, CT, dCons, dNil, dVar, dC, addF, onB, dRaise, atI_0, atI_1, atI_2, atI_3, ixN31, ixN32, ixN30, startD, List.map_cons, List.map_nil, List.length_cons, List.length_nil, List.cons_append, List.nil_append, Nat.reduceAdd, Nat.reduceSub, List.replicate, List.getElem?_cons_zero, List.getElem?_cons_succ, List.set_cons_zero, List.set_cons_succ, List.set_nil, true_and, and_true, if_true, ite_true]
    have ea : (if c < 0 then -c else c) = (c.natAbs : Int) := by split <;> omega
    rw [ea]
    by_cases c1 : (n : Int) + 3 < (c.natAbs : Int)
    · rw [if_pos (decide_eq_true c1)]
      rw [if_pos c1] at q2
      exact q2 rfl
    · rw [if_neg (by simpa using c1)]
      rw [if_neg c1] at q1 q2
      simp only [dNext]
      subst hk
      refine go_seq fun k hk => ?_
      have lr := rs_len c
      have big : (rs c ++ ls.reverse).length ≤ 100000 := by
        rw [List.length_append, List.length_reverse, lr]
        omega
      simp only [dSet, dFn, dOp, dIf, dTest, dUn, negF, gtF, iF, CT, onB, dCons, dNil, dVar, dC, atI_0, atI_1, atI_2, atI_3, ixN31, ixN32, ixN30, startD, List.map_cons, List.map_nil, List.length_cons, List.length_nil, List.cons_append, List.nil_append, Nat.reduceAdd, Nat.reduceSub, List.replicate, List.getElem?_cons_zero, List.getElem?_cons_succ, List.set_cons_zero, List.set_cons_succ, List.set_nil, true_and, and_true, if_true, ite_true]
      have lw : (redW (rs c ++ ls.reverse)).length ≤ sizeLine := by
        have := redW_len (rs c ++ ls.reverse)
        rw [sizeLine_eq]
        omega
      have fin : k (endsD Qd Xd) [some (mvD m), some (.int n), some (.str (wS ls.reverse)), some (.int c), some (.str (wS (redW (rs c ++ ls.reverse))))] M := by
        subst hk
        refine go_seq fun k2 hk2 => ?_
        simp only [dIfS, dTest, dOp, dCall, lenF, on1, gtF, iF, CT, dCons, dNil, dVar, dC, onB, dRaise, wS_len, atI_0, atI_1, atI_2, atI_3, ixN31, ixN32, ixN30, startD, List.map_cons, List.map_nil, List.length_cons, List.length_nil, List.cons_append, List.nil_append, Nat.reduceAdd, Nat.reduceSub, List.replicate, List.getElem?_cons_zero, List.getElem?_cons_succ, List.set_cons_zero, List.set_cons_succ, List.set_nil, true_and, and_true, if_true, ite_true]
        by_cases c2 : n < (redW (rs c ++ ls.reverse)).length
        · rw [if_pos (decide_eq_true (by omega))]
          rw [if_pos c2] at q2
          exact ⟨lw, q2 rfl⟩
        · rw [if_neg (by simpa using (by omega : ¬ (n : Int) < ((redW (rs c ++ ls.reverse)).length : Int)))]
          rw [if_neg c2] at q1
          simp only [dNext]
          subst hk2
          simp only [dRet, dVar, atI_0, atI_1, atI_2, atI_3, ixN31, ixN32, ixN30, startD, List.map_cons, List.map_nil, List.length_cons, List.length_nil, List.cons_append, List.nil_append, Nat.reduceAdd, Nat.reduceSub, List.replicate, List.getElem?_cons_zero, List.getElem?_cons_succ, List.set_cons_zero, List.set_cons_succ, List.set_nil, true_and, and_true, if_true, ite_true]
          exact ⟨lw, rtD.of (q1 _ rfl)⟩
      have ladd : (wS (rs c)).length + (wS ls.reverse).length ≤ sizeLine := by
        rw [wS_len, wS_len, sizeLine_eq]
        rw [List.length_append] at big
        omega
      by_cases c3 : 0 < c
      · rw [if_pos (decide_eq_true c3)]
        simp only [mulSF, wS_rs]
        rw [← rs_pos c3]
        refine ⟨by omega, by omega, by rw [wS_len, sizeLine_eq]; simp; omega, ?_⟩
        simp only [addF, wS_app]
        exact ⟨ladd, _, rfl, big, fin⟩
      · rw [if_neg (by simpa using c3)]
        simp only [mulSF, wS_sR]
        rw [← rs_neg c3]
        refine ⟨by omega, by omega, by rw [wS_len, sizeLine_eq]; simp; omega, ?_⟩
        simp only [addF, wS_app]
        exact ⟨ladd, _, rfl, big, fin⟩
end DP

set_option Elab.async false
set_option linter.all false
set_option maxRecDepth 100000
set_option maxHeartbeats 4000000
namespace K07
open PySem PySem.Spec L2 DL Wm DP
theorem wS_ss : ("ss" : Str) = wS [.s, .s] := by decide +kernel
theorem wS_rr : ("rr" : Str) = wS [.r, .r] := by decide +kernel
theorem wS_RR : ("RR" : Str) = wS [.R, .R] := by decide +kernel
theorem wS_Rr : ("Rr" : Str) = wS [.R, .r] := by decide +kernel
theorem wS_srR : ("srR" : Str) = wS [.s, .r, .R] := by decide +kernel
theorem look_pair (x y : Lt) : valD [Sum.inr "ss", Sum.inr "rr", Sum.inr "RR", Sum.inr "rR", Sum.inr "Rr"] [D.str "", D.str "R", D.str "r", D.str "", D.str ""] (Sum.inr (wS [x, y]) : Key) = (prod x y).map fun o => D.str (wS o.toList) := by
  simp only [valD, wS_ss, wS_rr, wS_RR, wS_rR, wS_Rr, wS_r, wS_R, wS_nil, Sum.inr.injEq, wS_eq]
  cases x <;> cases y <;> simp [prod]
/-! ### kinds -/
def kd (a b : List Lt) : D := if a = [] then .str (wS b) else if b = [] then .str (wS a) else getD kt_LETTER_PRODUCTS [wS a, wS b]
def sp_multiply_kinds : DSp := fun as M Q _ => ∃ a b : List Lt, as = [.str (wS a), .str (wS b)] ∧ Q (kd a b) M
def d_multiply_kinds : DS :=
  (dSeq (dIfS (dTest (dOp eqF (dVar 0) (dC (.str "")))) (dRet (dVar 1)) dNext)
  (dSeq (dIfS (dTest (dOp eqF (dVar 1) (dC (.str "")))) (dRet (dVar 0)) dNext)
  (dRet (dGetTT kt_LETTER_PRODUCTS (dTup (dCons (dVar 0) (dCons (dVar 1) dNil)))))))
theorem strB2'' {a b : Str} : strB [D.str a, D.str b] = some [a, b] := rfl
theorem b_multiply_kinds {as : List D} {M : DM} {Qd : DK} {Xd : DX} (hl : as.length = 2) (h : sp_multiply_kinds as M Qd Xd) : d_multiply_kinds (endsD Qd Xd) (startD 2 as) M := by
  obtain ⟨a, b, rfl, q⟩ := h
  unfold d_multiply_kinds
  unfold kd at q
  simp only [atI_0, atI_1, atI_2, atI_3, ixN31, ixN32, ixN30, startD, List.map_cons, List.map_nil, List.length_cons, List.length_nil, List.cons_append, List.nil_append, Nat.reduceAdd, Nat.reduceSub, List.replicate, List.getElem?_cons_zero, List.getElem?_cons_succ, List.set_cons_zero, List.set_cons_succ, List.set_nil, true_and, and_true, if_true, ite_true]
  refine go_seq fun k hk => ?_
  simp only [dIfS, dTest, dOp, dVar, dC, wS_nil, atI_0, atI_1, atI_2, atI_3, ixN31, ixN32, ixN30, startD, List.map_cons, List.map_nil, List.length_cons, List.length_nil, List.cons_append, List.nil_append, Nat.reduceAdd, Nat.reduceSub, List.replicate, List.getElem?_cons_zero, List.getElem?_cons_succ, List.set_cons_zero, List.set_cons_succ, List.set_nil, true_and, and_true, if_true, ite_true]
  refine eq_str2 ?_
  simp only [onB]
  by_cases ca : a = []
  · rw [if_pos (decide_eq_true ca)]
    rw [if_pos ca] at q
    simp only [dRet, dVar, atI_0, atI_1, atI_2, atI_3, ixN31, ixN32, ixN30, startD, List.map_cons, List.map_nil, List.length_cons, List.length_nil, List.cons_append, List.nil_append, Nat.reduceAdd, Nat.reduceSub, List.replicate, List.getElem?_cons_zero, List.getElem?_cons_succ, List.set_cons_zero, List.set_cons_succ, List.set_nil, true_and, and_true, if_true, ite_true]
    exact rtD.of q
  · rw [if_neg (by simpa using ca)]
    rw [if_neg ca] at q
    simp only [dNext]
    subst hk
    refine go_seq fun k hk => ?_
    simp only [dIfS, dTest, dOp, dVar, dC, wS_nil, atI_0, atI_1, atI_2, atI_3, ixN31, ixN32, ixN30, startD, List.map_cons, List.map_nil, List.length_cons, List.length_nil, List.cons_append, List.nil_append, Nat.reduceAdd, Nat.reduceSub, List.replicate, List.getElem?_cons_zero, List.getElem?_cons_succ, List.set_cons_zero, List.set_cons_succ, List.set_nil, true_and, and_true, if_true, ite_true]
    refine eq_str2 ?_
    simp only [onB]
    by_cases cb : b = []
    · rw [if_pos (decide_eq_true cb)]
      rw [if_pos cb] at q
      simp only [dRet, dVar, atI_0, atI_1, atI_2, atI_3, ixN31, ixN32, ixN30, startD, List.map_cons, List.map_nil, List.length_cons, List.length_nil, List.cons_append, List.nil_append, Nat.reduceAdd, Nat.reduceSub, List.replicate, List.getElem?_cons_zero, List.getElem?_cons_succ, List.set_cons_zero, List.set_cons_succ, List.set_nil, true_and, and_true, if_true, ite_true]
      exact rtD.of q
    · rw [if_neg (by simpa using cb)]
      rw [if_neg cb] at q
      simp only [dNext]
      subst hk
      simp only [dRet, dGetTT, dTup, dCons, dNil, dVar, tupS, strB2'', onO, atI_0, atI_1, atI_2, atI_3, ixN31, ixN32, ixN30, startD, List.map_cons, List.map_nil, List.length_cons, List.length_nil, List.cons_append, List.nil_append, Nat.reduceAdd, Nat.reduceSub, List.replicate, List.getElem?_cons_zero, List.getElem?_cons_succ, List.set_cons_zero, List.set_cons_succ, List.set_nil, true_and, and_true, if_true, ite_true]
      exact ⟨by decide, rtD.of q⟩
/-! ### joining -/
def sp_join_words : DSp := fun as M Q _ => ∃ a b : List Lt, as = [.str (wS a), .str (wS b)] ∧ a.length + b.length ≤ 100000 ∧ Q (.str (wS (redW (a ++ b)))) M
def d_join_words (c_reduce_word : DSp) : DS :=
  (dRet (dFn c_reduce_word 1 (dCons (dOp addF (dVar 0) (dVar 1)) dNil)))
theorem b_join_words {as : List D} {M : DM} {Qd : DK} {Xd : DX} (hl : as.length = 2) (h : sp_join_words as M Qd Xd) : d_join_words sp_reduce_word (endsD Qd Xd) (startD 2 as) M := by
  obtain ⟨a, b, rfl, hn, q⟩ := h
  unfold d_join_words
  simp only [dRet, dFn, dOp, dCons, dNil, dVar, addF, wS_app, wS_len, atI_0, atI_1, atI_2, atI_3, ixN31, ixN32, ixN30, startD, List.map_cons, List.map_nil, List.length_cons, List.length_nil, List.cons_append, List.nil_append, Nat.reduceAdd, Nat.reduceSub, List.replicate, List.getElem?_cons_zero, List.getElem?_cons_succ, List.set_cons_zero, List.set_cons_succ, List.set_nil, true_and, and_true, if_true, ite_true]
  exact ⟨by rw [sizeLine_eq]; omega, _, rfl, by rw [List.length_append]; exact hn, rtD.of q⟩
/-! ### the law's reducing -/
def sp_law_reduced : DSp := fun as M Q _ => ∃ w : List Lt, as = [.str (wS w)] ∧ w.length ≤ 100000 ∧ Q (.str (wS (redW w))) M
def d_law_reduced : DS :=
  (dSeq (dSet (dDisp [("ss", (dC (.str ""))), ("rr", (dC (.str "R"))), ("RR", (dC (.str "r"))), ("rR", (dC (.str ""))), ("Rr", (dC (.str "")))]) 1)
  (dSeq (dSet (dC (.int 0)) 2)
  (dSeq (dWhile (dTest (dOp ltF (dVar 2) (dOp subF (dCall lenF (dCons (dVar 0) dNil)) (dC (.int 1))))) (dSeq (dPar 3 4 (dCons (dSl (dVar 0) (doAt (dVar 2)) (doAt (dOp addF (dVar 2) (dC (.int 2))))) (dCons (dSl (dVar 0) (doAt (dOp addF (dVar 2) (dC (.int 2)))) doNo) dNil)))
  (dIfS (dTest (dInD id (dVar 3) (dVar 1))) (dSeq (dSet (dOp addF (dOp addF (dSl (dVar 0) doNo (doAt (dVar 2))) (dIxD (dVar 1) (dVar 3))) (dVar 4)) 0)
  (dSet (dCall maxF (dCons (dOp subF (dVar 2) (dC (.int 1))) (dCons (dC (.int 0)) dNil))) 2)) (dSet (dOp addF (dVar 2) (dC (.int 1))) 2))))
  (dRet (dVar 0)))))
theorem two_at {v : List Lt} {i : Nat} (h : i + 1 < v.length) : ∃ x y, v = v.take i ++ [x, y] ++ v.drop (i + 2) ∧ (v.drop i).take 2 = [x, y] := by
  refine ⟨v[i], v[i + 1], ?_, ?_⟩
  · have e1 : v.drop i = v[i] :: v.drop (i + 1) := List.drop_eq_getElem_cons (by omega)
    have e2 : v.drop (i + 1) = v[i + 1] :: v.drop (i + 2) := List.drop_eq_getElem_cons h
    conv => lhs; rw [← List.take_append_drop i v, e1, e2]
    simp
  · have e1 : v.drop i = v[i] :: v.drop (i + 1) := List.drop_eq_getElem_cons (by omega)
    have e2 : v.drop (i + 1) = v[i + 1] :: v.drop (i + 2) := List.drop_eq_getElem_cons h
    rw [e1, e2]
    rfl
theorem b_law_reduced {as : List D} {M : DM} {Qd : DK} {Xd : DX} (hl : as.length = 1) (h : sp_law_reduced as M Qd Xd) : d_law_reduced (endsD Qd Xd) (startD 5 as) M := by
  obtain ⟨w, rfl, hw, q⟩ := h
  unfold d_law_reduced
  simp only [atI_0, atI_1, atI_2, atI_3, ixN31, ixN32, ixN30, startD, List.map_cons, List.map_nil, List.length_cons, List.length_nil, List.cons_append, List.nil_append, Nat.reduceAdd, Nat.reduceSub, List.replicate, List.getElem?_cons_zero, List.getElem?_cons_succ, List.set_cons_zero, List.set_cons_succ, List.set_nil, true_and, and_true, if_true, ite_true]
  refine go_seq fun k hk => ?_
  simp only [dSet, dDisp, dPairs, dC, atI_0, atI_1, atI_2, atI_3, ixN31, ixN32, ixN30, startD, List.map_cons, List.map_nil, List.length_cons, List.length_nil, List.cons_append, List.nil_append, Nat.reduceAdd, Nat.reduceSub, List.replicate, List.getElem?_cons_zero, List.getElem?_cons_succ, List.set_cons_zero, List.set_cons_succ, List.set_nil, true_and, and_true, if_true, ite_true]
  refine ⟨by decide, by decide +kernel, by decide, ?_⟩
  subst hk
  refine go_seq fun k hk => ?_; simp only [dSet, dAsg, dPar, dAug, dRet, dRetN, dDrop, dNext, dNever, dBreak, dCont, diSq, diR1, diR2, items, onI1, onI2, dVar, dC, dOp, dUn, dTest, onB, dAnd, dOr, dNot, dAndV, dOrV, dNotV, dIf, dNil, dCons, dTup, dLst, dLstM, dCall, dFn, hName, hNil, hCons, hSeq, hSub, setF, onSeq, seqD, dSl, doNo, doAt, onI, slF, lstV, lstM, on2, addF, mulF, iF, CT, negF, cmpF, id, ixF, onO, lenF, absF, maxF, minF, tupleF, listF, listFM, reprF, on1, dDictIx, dPairs, onS, lastD, dComp, bName, bSeq, bNames, dYes, wipeD, subF, fdivF, modF, powF, ltF, leF, gtF, geF, eqF, neF, endsD, atI_0, atI_1, atI_2, atI_3, ixN31, ixN32, ixN30, startD, List.map_cons, List.map_nil, List.length_cons, List.length_nil, List.cons_append, List.nil_append, Nat.reduceAdd, Nat.reduceSub, List.replicate, List.getElem?_cons_zero, List.getElem?_cons_succ, List.set_cons_zero, List.set_cons_succ, List.set_nil, true_and, and_true, if_true, ite_true]; subst hk
  refine go_seq fun k hk => ?_
  generalize hP : (D.dct [Sum.inr "ss", Sum.inr "rr", Sum.inr "RR", Sum.inr "rR", Sum.inr "Rr"] [D.str "", D.str "R", D.str "r", D.str "", D.str ""]) = P
  refine ⟨fun m ρ M' => ∃ (v : List Lt) (i : Nat) (o3 o4 : Option D), ρ = [some (.str (wS v)), some P, some (.int i), o3, o4] ∧ M' = M ∧ i ≤ v.length ∧ m = 2 * v.length - i ∧ v.length ≤ w.length ∧ moveW v = moveW w ∧ red (v.take (i + 1)) = true, ⟨_, w, 0, none, none, rfl, rfl, Nat.zero_le _, rfl, Nat.le_refl _, rfl, ?_⟩, ?_⟩
  · cases w with
    | nil => rfl
    | cons x w => rfl
  rintro m ρ M' ⟨v, i, o3, o4, rfl, rfl, hi, rfl, hv, hm, hr⟩
  have ls : v.length ≤ sizeLine := by rw [sizeLine_eq]; omega
  simp only [dTest, dOp, dVar, dCall, dCons, dNil, dC, lenF, on1, subF, ltF, iF, CT, wS_len, onB, atI_0, atI_1, atI_2, atI_3, ixN31, ixN32, ixN30, startD, List.map_cons, List.map_nil, List.length_cons, List.length_nil, List.cons_append, List.nil_append, Nat.reduceAdd, Nat.reduceSub, List.replicate, List.getElem?_cons_zero, List.getElem?_cons_succ, List.set_cons_zero, List.set_cons_succ, List.set_nil, true_and, and_true, if_true, ite_true]
  refine ⟨ls, ?_⟩
  by_cases c : i + 1 < v.length
  · rw [if_pos (by simp; omega)]
    obtain ⟨x, y, e, e1⟩ := two_at c
    refine go_seq fun k2 hk2 => ?_
    simp only [dPar, dCons, dNil, dSl, dVar, dOp, dC, doAt, doNo, addF, onI, slF, wS_len, atI_0, atI_1, atI_2, atI_3, ixN31, ixN32, ixN30, startD, List.map_cons, List.map_nil, List.length_cons, List.length_nil, List.cons_append, List.nil_append, Nat.reduceAdd, Nat.reduceSub, List.replicate, List.getElem?_cons_zero, List.getElem?_cons_succ, List.set_cons_zero, List.set_cons_succ, List.set_nil, true_and, and_true, if_true, ite_true]
    have sin : ∀ (n d j : Nat), j ≤ n → HT.sIx n d (some (j : Int)) = j := fun n d j h => by
      rw [HT.sIx_nat]
      exact Nat.min_eq_left h
    have e2 : cutS (wS v) (some (i : Int)) (some ((i : Int) + 2)) = wS [x, y] := by
      rw [cut_wS, show ((i : Int) + 2) = ((i + 2 : Nat) : Int) by omega, sin _ _ _ (by omega), sin _ _ _ (by omega), show i + 2 - i = 2 by omega, e1]
    have e5 : cutS (wS v) (some ((i : Int) + 2)) none = wS (v.drop (i + 2)) := by
      rw [cut_wS, show ((i : Int) + 2) = ((i + 2 : Nat) : Int) by omega, sin _ _ _ (by omega), HT.sIx_none]
      congr 1
      exact List.take_of_length_le (by simp)
    have e6 : cutS (wS v) none (some (i : Int)) = wS (v.take i) := by
      rw [cut_wS, HT.sIx_none, sin _ _ _ (by omega)]
      rfl
    refine ⟨ls, ls, ?_⟩
    rw [e2, e5]
    subst hk2
    simp only [dIfS, dTest, dInD, dVar, id, atI_0, atI_1, atI_2, atI_3, ixN31, ixN32, ixN30, startD, List.map_cons, List.map_nil, List.length_cons, List.length_nil, List.cons_append, List.nil_append, Nat.reduceAdd, Nat.reduceSub, List.replicate, List.getElem?_cons_zero, List.getElem?_cons_succ, List.set_cons_zero, List.set_cons_succ, List.set_nil, true_and, and_true, if_true, ite_true]
    subst hP
    simp only [dctV, keyD, onO, look_pair, Option.isSome_map, onB]
    cases hp : prod x y with
    | some o =>
      simp only [Option.isSome_some, if_true]
      refine go_seq fun k2 hk2 => ?_
      simp only [dSet, dOp, dSl, doNo, doAt, dIxD, dVar, onI, slF, wS_len, dctV, keyD, onO, look_pair, hp, Option.map_some, addF, wS_app, e6, atI_0, atI_1, atI_2, atI_3, ixN31, ixN32, ixN30, startD, List.map_cons, List.map_nil, List.length_cons, List.length_nil, List.cons_append, List.nil_append, Nat.reduceAdd, Nat.reduceSub, List.replicate, List.getElem?_cons_zero, List.getElem?_cons_succ, List.set_cons_zero, List.set_cons_succ, List.set_nil, true_and, and_true, if_true, ite_true]
      have lt : (v.take i).length = i := by rw [List.length_take]; omega
      have ld : (v.drop (i + 2)).length = v.length - (i + 2) := List.length_drop
      have lo : o.toList.length ≤ 1 := by cases o <;> simp
      refine ⟨ls, by rw [lt, sizeLine_eq]; omega, by rw [List.length_append, lt, ld, sizeLine_eq]; omega, ?_⟩
      subst hk2
      simp only [dSet, dCall, dOp, dCons, dNil, dVar, dC, subF, iF, CT, maxF, onI2, atI_0, atI_1, atI_2, atI_3, ixN31, ixN32, ixN30, startD, List.map_cons, List.map_nil, List.length_cons, List.length_nil, List.cons_append, List.nil_append, Nat.reduceAdd, Nat.reduceSub, List.replicate, List.getElem?_cons_zero, List.getElem?_cons_succ, List.set_cons_zero, List.set_cons_succ, List.set_nil, true_and, and_true, if_true, ite_true]
      have em : (if (0 : Int) > (i : Int) - 1 then 0 else (i : Int) - 1) = ((i - 1 : Nat) : Int) := by split <;> omega
      rw [em]
      have lv : (v.take i ++ o.toList ++ v.drop (i + 2)).length = i + o.toList.length + (v.length - (i + 2)) := by rw [List.length_append, List.length_append, lt, ld]
      refine ⟨_, ?_, v.take i ++ o.toList ++ v.drop (i + 2), i - 1, _, _, by rfl, by rw [lv]; omega, rfl, by rw [lv]; omega, ?_, ?_⟩
      · rw [lv]
        omega
      · rw [move_pair _ _ _ _ _ hp, ← e]
        exact hm
      · cases i with
        | zero =>
          show red (List.take 1 _) = true
          generalize List.take 0 v ++ o.toList ++ List.drop (0 + 2) v = g
          cases g with
          | nil => rfl
          | cons a g => rfl
        | succ j =>
          rw [Nat.add_sub_cancel, List.append_assoc, List.take_append_of_le_length (by rw [lt]; exact Nat.le_refl _), List.take_take, Nat.min_self]
          have := red_take hr (j + 1)
          rw [List.take_take] at this
          rwa [Nat.min_eq_left (by omega)] at this
    | none =>
      simp only [Option.isSome_none, Bool.false_eq_true, if_false, dSet, dOp, dVar, dC, addF, atI_0, atI_1, atI_2, atI_3, ixN31, ixN32, ixN30, startD, List.map_cons, List.map_nil, List.length_cons, List.length_nil, List.cons_append, List.nil_append, Nat.reduceAdd, Nat.reduceSub, List.replicate, List.getElem?_cons_zero, List.getElem?_cons_succ, List.set_cons_zero, List.set_cons_succ, List.set_nil, true_and, and_true, if_true, ite_true]
      refine ⟨2 * v.length - (i + 1), by omega, v, i + 1, _, _, by rfl, by omega, rfl, hv, hm, ?_⟩
      have lt : (v.take i).length = i := by rw [List.length_take]; omega
      have t1 : v.take (i + 1) = v.take i ++ [x] := by
        conv => lhs; rw [e]
        rw [List.append_assoc, List.take_append, lt, Nat.add_sub_cancel_left, List.take_of_length_le (by rw [lt]; omega)]
        rfl
      have t2 : v.take (i + 1 + 1) = v.take i ++ [x] ++ [y] := by
        conv => lhs; rw [e]
        rw [List.append_assoc, List.take_append, lt, show i + 1 + 1 - i = 2 by omega, List.take_of_length_le (by rw [lt]; omega)]
        simp
      rw [t2]
      rw [t1] at hr
      refine red_snoc _ y hr fun z hz => ?_
      rw [getLast_snoc] at hz
      cases hz
      exact isS_of hp
  · rw [if_neg (by simp; omega)]
    subst hk
    simp only [dSet, dAsg, dPar, dAug, dRet, dRetN, dDrop, dNext, dNever, dBreak, dCont, diSq, diR1, diR2, items, onI1, onI2, dVar, dC, dOp, dUn, dTest, onB, dAnd, dOr, dNot, dAndV, dOrV, dNotV, dIf, dNil, dCons, dTup, dLst, dLstM, dCall, dFn, hName, hNil, hCons, hSeq, hSub, setF, onSeq, seqD, dSl, doNo, doAt, onI, slF, lstV, lstM, on2, addF, mulF, iF, CT, negF, cmpF, id, ixF, onO, lenF, absF, maxF, minF, tupleF, listF, listFM, reprF, on1, dDictIx, dPairs, onS, lastD, dComp, bName, bSeq, bNames, dYes, wipeD, subF, fdivF, modF, powF, ltF, leF, gtF, geF, eqF, neF, endsD, atI_0, atI_1, atI_2, atI_3, ixN31, ixN32, ixN30, startD, List.map_cons, List.map_nil, List.length_cons, List.length_nil, List.cons_append, List.nil_append, Nat.reduceAdd, Nat.reduceSub, List.replicate, List.getElem?_cons_zero, List.getElem?_cons_succ, List.set_cons_zero, List.set_cons_succ, List.set_nil, true_and, and_true, if_true, ite_true]
    rw [List.take_of_length_le (by omega)] at hr
    rw [redW_of hr hm]
    exact rtD.of q
/-! ### letters -/
def sp_law_letters : DSp := fun as M Q _ => ∃ (p : Addr) (n : Int), as = [.ref p, .int n] ∧ Pen M p ∧ 0 < n ∧ n ≤ 100 ∧ ∀ (w : List Lt) M', w.length ≤ 3000 → PenTo M M' p → Q (.str (wS w)) M'
def d_law_letters (c_law_draw : DSp) (c_law_word : DSp) : DS :=
  (dSeq (dSet (dC (.str "")) 2)
  (dSeq (dFor (diR1 (dCons (dFn c_law_draw 2 (dCons (dVar 0) (dCons (dVar 1) dNil))) dNil)) (hName 3) (dIfS (dTest (dOp eqF (dFn c_law_draw 2 (dCons (dVar 0) (dCons (dC (.int 6)) dNil))) (dC (.int 0)))) (dSeq (dSet (dFn c_law_word 2 (dCons (dVar 0) (dCons (dC (.int 12)) dNil))) 4)
  (dSeq (dSet (dMt "str" joinF (dC (.str "")) (dCons (dComp (diSq (dRevS (dVar 4))) (bName 6) dYes (dDictIx [("s", (dC (.str "s"))), ("r", (dC (.str "R"))), ("R", (dC (.str "r")))] (dVar 6)) [6]) dNil)) 5)
  (dSet (dOp addF (dOp addF (dVar 2) (dVar 4)) (dVar 5)) 2))) (dSet (dOp addF (dVar 2) (dOp ixF (dC (.str "srR")) (dFn c_law_draw 2 (dCons (dVar 0) (dCons (dC (.int 3)) dNil))))) 2)))
  (dRet (dVar 2))))
theorem dict_inv (x : Lt) : lastD [("s", D.str "s"), ("r", D.str "R"), ("R", D.str "r")] (wS [x]) = some (.str (wS [x.inv])) := by
  simp only [lastD, wS_s, wS_r, wS_R, wS_eq]
  cases x <;> simp [Lt.inv]
theorem b_law_letters {as : List D} {M : DM} {Qd : DK} {Xd : DX} (hl : as.length = 2) (h : sp_law_letters as M Qd Xd) : d_law_letters sp_law_draw sp_law_word (endsD Qd Xd) (startD 7 as) M := by
  obtain ⟨p, n, rfl, hP, hn0, hn, q⟩ := h
  unfold d_law_letters
  simp only [atI_0, atI_1, atI_2, atI_3, ixN31, ixN32, ixN30, startD, List.map_cons, List.map_nil, List.length_cons, List.length_nil, List.cons_append, List.nil_append, Nat.reduceAdd, Nat.reduceSub, List.replicate, List.getElem?_cons_zero, List.getElem?_cons_succ, List.set_cons_zero, List.set_cons_succ, List.set_nil, true_and, and_true, if_true, ite_true]
  refine go_seq fun k hk => ?_; simp only [dSet, dAsg, dPar, dAug, dRet, dRetN, dDrop, dNext, dNever, dBreak, dCont, diSq, diR1, diR2, items, onI1, onI2, dVar, dC, dOp, dUn, dTest, onB, dAnd, dOr, dNot, dAndV, dOrV, dNotV, dIf, dNil, dCons, dTup, dLst, dLstM, dCall, dFn, hName, hNil, hCons, hSeq, hSub, setF, onSeq, seqD, dSl, doNo, doAt, onI, slF, lstV, lstM, on2, addF, mulF, iF, CT, negF, cmpF, id, ixF, onO, lenF, absF, maxF, minF, tupleF, listF, listFM, reprF, on1, dDictIx, dPairs, onS, lastD, dComp, bName, bSeq, bNames, dYes, wipeD, subF, fdivF, modF, powF, ltF, leF, gtF, geF, eqF, neF, endsD, atI_0, atI_1, atI_2, atI_3, ixN31, ixN32, ixN30, startD, List.map_cons, List.map_nil, List.length_cons, List.length_nil, List.cons_append, List.nil_append, Nat.reduceAdd, Nat.reduceSub, List.replicate, List.getElem?_cons_zero, List.getElem?_cons_succ, List.set_cons_zero, List.set_cons_succ, List.set_nil, true_and, and_true, if_true, ite_true]; subst hk
  refine go_seq fun k hk => ?_
  simp only [dFor, diR1, onI1, dFn, dCons, dNil, dVar, atI_0, atI_1, atI_2, atI_3, ixN31, ixN32, ixN30, startD, List.map_cons, List.map_nil, List.length_cons, List.length_nil, List.cons_append, List.nil_append, Nat.reduceAdd, Nat.reduceSub, List.replicate, List.getElem?_cons_zero, List.getElem?_cons_succ, List.set_cons_zero, List.set_cons_succ, List.set_nil, true_and, and_true, if_true, ite_true]
  refine ⟨p, n, rfl, hP, hn0, log2_lit (by omega) (by omega), fun v M2 v0 vn t2 => ?_⟩
  simp only [onI1]
  refine ⟨by omega, by omega, ?_⟩
  have l2 : (rangeD 0 v.toNat).length ≤ 100 := by
    unfold rangeD
    rw [List.length_map, List.length_range]
    omega
  refine dLoop_inv (fun ds ρ M' => PenTo M M' p ∧ ∃ (w : List Lt) (o3 o4 o5 o6 : Option D), w.length + 30 * ds.length ≤ 3000 ∧ ρ = [some (.ref p), some (.int n), some (.str (wS w)), o3, o4, o5, o6]) ?_ ?_ _ _ _ ⟨t2, [], _, _, _, _, by simp; omega, rfl⟩
  · rintro ρ M' ⟨t, w, o3, o4, o5, o6, hw, rfl⟩
    dsimp only
    subst hk
    simp only [dRet, dVar, atI_0, atI_1, atI_2, atI_3, ixN31, ixN32, ixN30, startD, List.map_cons, List.map_nil, List.length_cons, List.length_nil, List.cons_append, List.nil_append, Nat.reduceAdd, Nat.reduceSub, List.replicate, List.getElem?_cons_zero, List.getElem?_cons_succ, List.set_cons_zero, List.set_cons_succ, List.set_nil, true_and, and_true, if_true, ite_true]
    exact rtD.of (q w M' (by simpa using hw) t)
  · rintro d r ρ M' ⟨t, w, o3, o4, o5, o6, hw, rfl⟩ nx hnx
    rw [List.length_cons] at hw
    simp only [hName, dIfS, dTest, dOp, dFn, dCons, dNil, dVar, dC, atI_0, atI_1, atI_2, atI_3, ixN31, ixN32, ixN30, startD, List.map_cons, List.map_nil, List.length_cons, List.length_nil, List.cons_append, List.nil_append, Nat.reduceAdd, Nat.reduceSub, List.replicate, List.getElem?_cons_zero, List.getElem?_cons_succ, List.set_cons_zero, List.set_cons_succ, List.set_nil, true_and, and_true, if_true, ite_true]
    refine ⟨p, 6, rfl, t.pen, by decide, log2_lit (by decide) (by decide), fun z M3 z0 z6 t3 => ?_⟩
    simp only [eqF, cmpF, id, onB]
    by_cases c : z = 0
    · rw [if_pos (decide_eq_true c)]
      refine go_seq fun k2 hk2 => ?_
      simp only [dSet, dFn, dCons, dNil, dVar, dC, atI_0, atI_1, atI_2, atI_3, ixN31, ixN32, ixN30, startD, List.map_cons, List.map_nil, List.length_cons, List.length_nil, List.cons_append, List.nil_append, Nat.reduceAdd, Nat.reduceSub, List.replicate, List.getElem?_cons_zero, List.getElem?_cons_succ, List.set_cons_zero, List.set_cons_succ, List.set_nil, true_and, and_true, if_true, ite_true]
      refine ⟨p, 12, rfl, t3.pen, by decide, by decide, fun u M4 hr hu t4 => ?_⟩
      subst hk2
      refine go_seq fun k2 hk2 => ?_
      have lu : (wS u).length ≤ sizeLine := by rw [wS_len, sizeLine_eq]; omega
      have lr : (chars (wS u.reverse)).length ≤ sizeLine := by rw [chars_wS, List.length_map, List.length_reverse, sizeLine_eq]; omega
      simp only [dSet, dMt, dComp, diSq, dRevS, dVar, dC, dCons, dNil, onS, items, revStr_wS, atI_0, atI_1, atI_2, atI_3, ixN31, ixN32, ixN30, startD, List.map_cons, List.map_nil, List.length_cons, List.length_nil, List.cons_append, List.nil_append, Nat.reduceAdd, Nat.reduceSub, List.replicate, List.getElem?_cons_zero, List.getElem?_cons_succ, List.set_cons_zero, List.set_cons_succ, List.set_nil, true_and, and_true, if_true, ite_true]
      refine ⟨.inr ⟨rfl, _, rfl⟩, lu, lr, ?_⟩
      rw [chars_wS]
      refine dCL_map (fun x => .str (wS [x])) (fun x => .str (wS [x.inv])) trivial _ [] (fun x _ => rfl) (fun x _ A B hA => ?_) ?_
      · simp only [bName, dYes, dDictIx, dPairs, dVar, dC, onS, dict_inv, onO, wipeD, atI_0, atI_1, atI_2, atI_3, ixN31, ixN32, ixN30, startD, List.map_cons, List.map_nil, List.length_cons, List.length_nil, List.cons_append, List.nil_append, Nat.reduceAdd, Nat.reduceSub, List.replicate, List.getElem?_cons_zero, List.getElem?_cons_succ, List.set_cons_zero, List.set_cons_succ, List.set_nil, true_and, and_true, if_true, ite_true]
        exact ⟨by decide, rfl, hA⟩
      · rw [List.nil_append]
        have e : (u.reverse.map fun x => D.str (wS [x.inv])) = (u.reverse.map Lt.inv).map fun x => D.str (wS [x]) := by
          rw [List.map_map]
          rfl
        rw [e]
        generalize hv : u.reverse.map Lt.inv = b
        have hvl : b.length = u.length := by rw [← hv, List.length_map, List.length_reverse]
        simp only [joinF, on1, onSeq, seqD, onO]
        have eb : strB (b.map fun x => D.str (wS [x])) = some (b.map fun x => wS [x]) := strB_wS _
        rw [eb]
        have hs := sum_wS b
        have e0 : ("" : Str).length = 0 := by decide +kernel
        refine ⟨?_, ?_⟩
        · rw [hs, e0, Nat.mul_zero]
          omega
        · rw [join_wS]
          subst hk2
          simp only [dSet, dOp, dVar, addF, wS_app, wS_len, atI_0, atI_1, atI_2, atI_3, ixN31, ixN32, ixN30, startD, List.map_cons, List.map_nil, List.length_cons, List.length_nil, List.cons_append, List.nil_append, Nat.reduceAdd, Nat.reduceSub, List.replicate, List.getElem?_cons_zero, List.getElem?_cons_succ, List.set_cons_zero, List.set_cons_succ, List.set_nil, true_and, and_true, if_true, ite_true]
          exact ⟨by rw [sizeLine_eq]; omega, by rw [sizeLine_eq, List.length_append]; omega, hnx _ _ ⟨(t.trans t3).trans t4, _, _, _, _, _, by rw [List.length_append, List.length_append]; omega, rfl⟩⟩
    · rw [if_neg (by simpa using c)]
      simp only [dSet, dOp, dFn, dCons, dNil, dVar, dC, atI_0, atI_1, atI_2, atI_3, ixN31, ixN32, ixN30, startD, List.map_cons, List.map_nil, List.length_cons, List.length_nil, List.cons_append, List.nil_append, Nat.reduceAdd, Nat.reduceSub, List.replicate, List.getElem?_cons_zero, List.getElem?_cons_succ, List.set_cons_zero, List.set_cons_succ, List.set_nil, true_and, and_true, if_true, ite_true]
      refine ⟨p, 3, rfl, t3.pen, by decide, log2_lit (by decide) (by decide), fun y M4 y0 y3 t4 => ?_⟩
      have ix : ∀ (Q : DK), (∀ x : Lt, Q (.str (wS [x])) M4) → ixF (.str "srR") (.int y) M4 Q := fun Q q => by
        simp only [ixF, wS_srR, wS_toList, wS_len]
        refine ⟨by decide, ?_⟩
        have hy : y = 0 ∨ y = 1 ∨ y = 2 := by omega
        rcases hy with rfl | rfl | rfl
        · exact q .s
        · exact q .r
        · exact q .R
      refine ix _ fun x => ?_
      simp only [addF, wS_app, wS_len]
      exact ⟨by rw [sizeLine_eq]; simp; omega, hnx _ _ ⟨(t.trans t3).trans t4, _, _, _, _, _, by rw [List.length_append, List.length_singleton]; omega, rfl⟩⟩
end K07

set_option Elab.async false
set_option linter.all false
set_option maxRecDepth 100000
set_option maxHeartbeats 4000000
namespace K07
open PySem PySem.Spec L2 DL Wm DP
def sp_law : DSp := fun as M Q _ => ∃ ns : List Int, as = [.seq (ns.map D.int)] ∧ M = (fun _ => none) ∧ ∀ M', Q (.bl true) M'
def d_law (c_reduce_word : DSp) (c_join_words : DSp) (c_law_reduced : DSp) (c_law_word : DSp) (c_inverse_word : DSp) (c_law_draw : DSp) (c_law_move : DSp) (c_move_of : DSp) (c_law_letters : DSp) (c_multiply_kinds : DSp) (c_law_pen : DSp) : DS :=
  (dSeq (dSet (dFn c_law_pen 1 (dCons (dVar 0) dNil)) 1)
  (dSeq (dSet (dDispT [(["s", "s"], ""), (["r", "r"], "R"), (["R", "R"], "r"), (["r", "R"], ""), (["R", "r"], "")]) 2)
  (dSeq (dFor (diSq (dTup (dCons (dC (.str "")) (dCons (dC (.str "s")) (dCons (dC (.str "r")) (dCons (dC (.str "R")) dNil)))))) (hName 3) (dFor (diSq (dTup (dCons (dC (.str "")) (dCons (dC (.str "s")) (dCons (dC (.str "r")) (dCons (dC (.str "R")) dNil)))))) (hName 4) (dSeq (dSet (dIf (dTest (dOp (inF id) (dC (.str "")) (dTup (dCons (dVar 3) (dCons (dVar 4) dNil))))) (dOp addF (dVar 3) (dVar 4)) (dGetT (dVar 2) (dTup (dCons (dVar 3) (dCons (dVar 4) dNil))))) 5)
  (dIfS (dTest (dOp neF (dFn c_multiply_kinds 2 (dCons (dVar 3) (dCons (dVar 4) dNil))) (dVar 5))) (dRet (dC (.bl false))) dNext))))
  (dSeq (dFor (diR1 (dCons (dC (.int 4)) dNil)) (hName 6) (dSeq (dSet (dFn c_law_letters 2 (dCons (dVar 1) (dCons (dC (.int 30)) dNil))) 7)
  (dSeq (dSet (dFn c_reduce_word 1 (dCons (dVar 7) dNil)) 8)
  (dSeq (dIfS (dOr (dTest (dOp neF (dVar 8) (dFn c_law_reduced 1 (dCons (dVar 7) dNil)))) (dOr (dTest (dOp neF (dFn c_law_move 1 (dCons (dVar 8) dNil)) (dFn c_law_move 1 (dCons (dVar 7) dNil)))) (dTest (dOp neF (dFn c_move_of 1 (dCons (dVar 7) dNil)) (dFn c_law_move 1 (dCons (dVar 7) dNil)))))) (dRet (dC (.bl false))) dNext)
  (dSeq (dSet (dFn c_law_draw 2 (dCons (dVar 1) (dCons (dOp addF (dCall lenF (dCons (dVar 7) dNil)) (dC (.int 1))) dNil))) 9)
  (dSeq (dIfS (dTest (dOp neF (dFn c_join_words 2 (dCons (dFn c_reduce_word 1 (dCons (dSl (dVar 7) doNo (doAt (dVar 9))) dNil)) (dCons (dFn c_reduce_word 1 (dCons (dSl (dVar 7) (doAt (dVar 9)) doNo) dNil)) dNil))) (dVar 8))) (dRet (dC (.bl false))) dNext)
  (dSeq (dSet (dFn c_inverse_word 1 (dCons (dVar 8) dNil)) 10)
  (dSeq (dIfS (dOr (dTest (dOp neF (dFn c_join_words 2 (dCons (dVar 8) (dCons (dVar 10) dNil))) (dC (.str "")))) (dOr (dTest (dOp neF (dFn c_join_words 2 (dCons (dVar 10) (dCons (dVar 8) dNil))) (dC (.str "")))) (dTest (dOp neF (dFn c_inverse_word 1 (dCons (dVar 10) dNil)) (dVar 8))))) (dRet (dC (.bl false))) dNext)
  (dSeq (dPar 11 4 (dCons (dFn c_law_word 2 (dCons (dVar 1) (dCons (dC (.int 40)) dNil))) (dCons (dFn c_law_word 2 (dCons (dVar 1) (dCons (dC (.int 40)) dNil))) dNil)))
  (dIfS (dOr (dTest (dOp neF (dFn c_join_words 2 (dCons (dVar 11) (dCons (dVar 4) dNil))) (dFn c_law_reduced 1 (dCons (dOp addF (dVar 11) (dVar 4)) dNil)))) (dTest (dOp neF (dFn c_reduce_word 1 (dCons (dVar 11) dNil)) (dVar 11)))) (dRet (dC (.bl false))) dNext))))))))))
  (dSeq (dIfS (dOr (dTest (dOp neF (dFn c_reduce_word 1 (dCons (dOp mulSF (dC (.str "rs")) (dC (.int 2500))) dNil)) (dOp mulSF (dC (.str "rs")) (dC (.int 2500))))) (dTest (dOp neF (dFn c_reduce_word 1 (dCons (dOp addF (dOp mulSF (dC (.str "rs")) (dC (.int 1250))) (dOp mulSF (dC (.str "sR")) (dC (.int 1250)))) dNil)) (dC (.str ""))))) (dRet (dC (.bl false))) dNext)
  (dRet (dAndV (dOp eqF (dFn c_reduce_word 1 (dCons (dOp mulSF (dC (.str "rr")) (dC (.int 150))) dNil)) (dC (.str ""))) (dOp eqF (dFn c_reduce_word 1 (dCons (dOp mulSF (dC (.str "r")) (dC (.int 4999))) dNil)) (dC (.str "r"))))))))))
theorem ne_mv {m n : Mv} {M : DM} {Q : DK} (e : m = n) (h : Q (.bl false) M) : neF (mvD m) (mvD n) M Q := by
  refine cmp_mv ?_
  simp only [e, decide_true, Bool.not_true]
  exact h
theorem ne_str {a b : Str} {M : DM} {Q : DK} (e : a = b) (h : Q (.bl false) M) : neF (.str a) (.str b) M Q := by
  subst e
  simp only [neF, cmpF, decide_true, Bool.not_true]
  exact h
theorem eq_str {a b : Str} {M : DM} {Q : DK} (e : a = b) (h : Q (.bl true) M) : eqF (.str a) (.str b) M Q := by
  subst e
  simp only [eqF, cmpF, decide_true, id]
  exact h
theorem ne_non {M : DM} {Q : DK} (h : Q (.bl false) M) : neF .non .non M Q := by
  simp only [neF, cmpF, pyM, pyOf, onP]
  exact ⟨by decide +kernel, by decide +kernel, by simpa [PyData.eqv] using h⟩
theorem ne_get {kvs : List (List Str × Str)} {ks : List Str} {M : DM} {Q : DK} (h : Q (.bl false) M) : neF (getD kvs ks) (getD kvs ks) M Q := by
  unfold getD
  cases ttGet kvs ks with
  | none => exact ne_non h
  | some z => exact ne_str rfl h
def kinds : List (List Lt) := [[], [.s], [.r], [.R]]
theorem kinds_D : [D.str "", D.str "s", D.str "r", D.str "R"] = kinds.map fun w => D.str (wS w) := by
  rw [wS_nil, wS_s, wS_r, wS_R]
  rfl
def tb : List (List Str × Str) := [(["s", "s"], ""), (["r", "r"], "R"), (["R", "R"], "r"), (["r", "R"], ""), (["R", "r"], "")]
theorem rep_rep (n k : Nat) : (List.replicate n (List.replicate k Lt.r)).flatten = List.replicate (n * k) Lt.r := by
  induction n with
  | zero => simp
  | succ n ih =>
    rw [List.replicate_succ, List.flatten_cons, ih, List.replicate_append_replicate]
    congr 1
    rw [Nat.succ_mul]
    omega
theorem mul_rs (n : Nat) : Txt.mul ("rs" : Str) (n : Int) = wS (rsP n) := by
  rw [wS_rs, mul_wS _ _ (by simp), Int.toNat_natCast]
  rfl
theorem mul_sR (n : Nat) : Txt.mul ("sR" : Str) (n : Int) = wS (rsN n) := by
  rw [wS_sR, mul_wS _ _ (by simp), Int.toNat_natCast]
  rfl
theorem mul_rr (n : Nat) : Txt.mul ("rr" : Str) (n : Int) = wS (List.replicate (n * 2) .r) := by
  rw [wS_rr, mul_wS _ _ (by simp), Int.toNat_natCast, ← rep_rep]
  rfl
theorem mul_r (n : Nat) : Txt.mul ("r" : Str) (n : Int) = wS (List.replicate (n * 1) .r) := by
  rw [wS_r, mul_wS _ _ (by simp), Int.toNat_natCast, ← rep_rep]
  rfl
theorem big1 : ∃ A, Txt.mul ("rs" : Str) 2500 = wS A ∧ A.length = 5000 ∧ redW A = A := by
  refine ⟨rsP 2500, mul_rs 2500, rsP_len 2500, redW_red (red_rsP _)⟩
theorem big2 : ∃ A B, Txt.mul ("rs" : Str) 1250 = wS A ∧ Txt.mul ("sR" : Str) 1250 = wS B ∧ A.length = 2500 ∧ B.length = 2500 ∧ redW (A ++ B) = [] :=
  ⟨rsP 1250, rsN 1250, mul_rs 1250, mul_sR 1250, rsP_len 1250, rsN_len 1250, redW_there_back 1250⟩
theorem red_r3 (n m : Nat) (h : m = 3 * n) : redW (List.replicate m .r) = [] := by
  subst h
  exact redW_nil (move_r3 n)
theorem red_r31 (n m : Nat) (h : m = 3 * n + 1) : redW (List.replicate m .r) = [.r] := by
  subst h
  rw [redW_eq (move_r31 n), redW_red rfl]
theorem big3 : ∃ A, Txt.mul ("rr" : Str) 150 = wS A ∧ A.length = 300 ∧ redW A = [] :=
  ⟨List.replicate (150 * 2) .r, mul_rr 150, List.length_replicate, red_r3 100 _ rfl⟩
theorem big4 : ∃ A, Txt.mul ("r" : Str) 4999 = wS A ∧ A.length = 4999 ∧ redW A = [.r] :=
  ⟨List.replicate (4999 * 1) .r, mul_r 4999, List.length_replicate, red_r31 1666 _ rfl⟩
theorem len2 : ("rs" : Str).length = 2 ∧ ("sR" : Str).length = 2 ∧ ("rr" : Str).length = 2 ∧ ("r" : Str).length = 1 := by decide +kernel
theorem mul_ok {z : Str} {n : Int} {M : DM} {Q : DK} (h : z.length ≤ 2) (h0 : 0 ≤ n) (hn : n ≤ 5000) (q : Q (.str (Txt.mul z n)) M) : mulSF (.str z) (.int n) M Q := by
  simp only [mulSF]
  refine ⟨by omega, by omega, ?_, q⟩
  have h1 : n.toNat ≤ 5000 := by omega
  have := Nat.mul_le_mul h h1
  rw [sizeLine_eq]
  omega
theorem cut_lo (w : List Lt) (i : Nat) (h : i ≤ w.length) : cutS (wS w) none (some (i : Int)) = wS (w.take i) := by
  rw [cut_wS, HT.sIx_none, HT.sIx_nat, Nat.min_eq_left h]
  rfl
theorem cut_hi (w : List Lt) (i : Nat) (h : i ≤ w.length) : cutS (wS w) (some (i : Int)) none = wS (w.drop i) := by
  rw [cut_wS, HT.sIx_none, HT.sIx_nat, Nat.min_eq_left h]
  congr 1
  exact List.take_of_length_le (by simp)
theorem b_law {as : List D} {M : DM} {Qd : DK} {Xd : DX} (hl : as.length = 1) (h : sp_law as M Qd Xd) : d_law sp_reduce_word sp_join_words sp_law_reduced sp_law_word sp_inverse_word sp_law_draw sp_law_move sp_move_of sp_law_letters sp_multiply_kinds sp_law_pen (endsD Qd Xd) (startD 12 as) M := by
  obtain ⟨ns, rfl, rfl, q⟩ := h
  unfold d_law
  simp only [atI_0, atI_1, atI_2, atI_3, ixN31, ixN32, ixN30, startD, List.map_cons, List.map_nil, List.length_cons, List.length_nil, List.cons_append, List.nil_append, Nat.reduceAdd, Nat.reduceSub, List.replicate, List.getElem?_cons_zero, List.getElem?_cons_succ, List.set_cons_zero, List.set_cons_succ, List.set_nil, true_and, and_true, if_true, ite_true]
  refine go_seq fun k hk => ?_; simp only [dSet, dAsg, dPar, dAug, dRet, dRetN, dDrop, dNext, dNever, dBreak, dCont, diSq, diR1, diR2, items, onI1, onI2, dVar, dC, dOp, dUn, dTest, onB, dAnd, dOr, dNot, dAndV, dOrV, dNotV, dIf, dNil, dCons, dTup, dLst, dLstM, dCall, dFn, hName, hNil, hCons, hSeq, hSub, setF, onSeq, seqD, dSl, doNo, doAt, onI, slF, lstV, lstM, on2, addF, mulF, iF, CT, negF, cmpF, id, ixF, onO, lenF, absF, maxF, minF, tupleF, listF, listFM, reprF, on1, dDictIx, dPairs, onS, lastD, dComp, bName, bSeq, bNames, dYes, wipeD, subF, fdivF, modF, powF, ltF, leF, gtF, geF, eqF, neF, endsD, atI_0, atI_1, atI_2, atI_3, ixN31, ixN32, ixN30, startD, List.map_cons, List.map_nil, List.length_cons, List.length_nil, List.cons_append, List.nil_append, Nat.reduceAdd, Nat.reduceSub, List.replicate, List.getElem?_cons_zero, List.getElem?_cons_succ, List.set_cons_zero, List.set_cons_succ, List.set_nil, true_and, and_true, if_true, ite_true]; subst hk
  refine ⟨ns, rfl, fun p M1 hP _ => ?_⟩
  refine go_seq fun k hk => ?_
  simp only [dSet, dDispT, atI_0, atI_1, atI_2, atI_3, ixN31, ixN32, ixN30, startD, List.map_cons, List.map_nil, List.length_cons, List.length_nil, List.cons_append, List.nil_append, Nat.reduceAdd, Nat.reduceSub, List.replicate, List.getElem?_cons_zero, List.getElem?_cons_succ, List.set_cons_zero, List.set_cons_succ, List.set_nil, true_and, and_true, if_true, ite_true]
  show k (endsD Qd Xd) [some (.seq (ns.map D.int)), some (.ref p), some (.dtt tb), none, none, none, none, none, none, none, none, none] M1
  subst hk
  refine go_seq fun k hk => ?_
  simp only [dFor, diSq, dTup, dCons, dNil, dC, items, List.cons_append, List.nil_append, atI_0, atI_1, atI_2, atI_3, ixN31, ixN32, ixN30, startD, List.map_cons, List.map_nil, List.length_cons, List.length_nil, List.cons_append, List.nil_append, Nat.reduceAdd, Nat.reduceSub, List.replicate, List.getElem?_cons_zero, List.getElem?_cons_succ, List.set_cons_zero, List.set_cons_succ, List.set_nil, true_and, and_true, if_true, ite_true]
  refine ⟨by decide, ?_⟩
  rw [kinds_D]
  refine dLoop_inv (fun ds ρ M => M = M1 ∧ ∃ (l : List (List Lt)) (o3 o4 o5 : Option D), ds = l.map (fun w => D.str (wS w)) ∧ (∀ w ∈ l, w.length ≤ 1) ∧ ρ = [some (.seq (ns.map D.int)), some (.ref p), some (.dtt tb), o3, o4, o5, none, none, none, none, none, none]) ?_ ?_ _ _ _ ⟨rfl, kinds, _, _, _, rfl, by decide, rfl⟩
  · rintro ρ M ⟨rfl, l, o3, o4, o5, _, _, rfl⟩
    dsimp only
    subst hk
    refine go_seq fun k hk => ?_
    simp only [dFor, diR1, onI1, dCons, dNil, dC]
    refine ⟨by decide, by decide, ?_⟩
    refine dLoop_inv (fun ds ρ M => Pen M p ∧ ∃ o3 o4 o5 o6 o7 o8 o9 o10 o11, ρ = [some (.seq (ns.map D.int)), some (.ref p), some (.dtt tb), o3, o4, o5, o6, o7, o8, o9, o10, o11]) ?_ ?_ _ _ _ ⟨hP, _, _, _, _, _, _, _, _, _, rfl⟩
    · rintro ρ M ⟨hP, o3, o4, o5, o6, o7, o8, o9, o10, o11, rfl⟩
      dsimp only
      subst hk
      refine go_seq fun k hk => ?_
      simp only [dIfS, dOr, dTest, dOp, dFn, dCons, dNil, dC, atI_0, atI_1, atI_2, atI_3, ixN31, ixN32, ixN30, startD, List.map_cons, List.map_nil, List.length_cons, List.length_nil, List.cons_append, List.nil_append, Nat.reduceAdd, Nat.reduceSub, List.replicate, List.getElem?_cons_zero, List.getElem?_cons_succ, List.set_cons_zero, List.set_cons_succ, List.set_nil, true_and, and_true, if_true, ite_true]
      obtain ⟨A, eA, lA, rA⟩ := big1
      obtain ⟨B, C, eB, eC, lB, lC, rB⟩ := big2
      obtain ⟨E, eE, lE, rE⟩ := big3
      obtain ⟨F, eF, lF, rF⟩ := big4
      refine mul_ok (by rw [len2.1]; exact Nat.le_refl _) (by decide) (by decide) ?_
      rw [eA]
      refine ⟨A, rfl, by omega, mul_ok (by rw [len2.1]; exact Nat.le_refl _) (by decide) (by decide) ?_⟩
      rw [eA]
      refine ne_str (by rw [rA]) ?_
      simp only [onB, Bool.false_eq_true, if_false]
      refine mul_ok (by rw [len2.1]; exact Nat.le_refl _) (by decide) (by decide) (mul_ok (by rw [len2.2.1]; exact Nat.le_refl _) (by decide) (by decide) ?_)
      rw [eB, eC]
      simp only [addF, wS_app, wS_len]
      refine ⟨by rw [lB, lC, sizeLine_eq]; omega, _, rfl, by rw [List.length_append, lB, lC]; omega, ne_str (by rw [rB, wS_nil]) ?_⟩
      simp only [onB, Bool.false_eq_true, if_false, dNext]
      subst hk
      simp only [dRet, dAndV, dTest, dOp, dFn, dCons, dNil, dC, atI_0, atI_1, atI_2, atI_3, ixN31, ixN32, ixN30, startD, List.map_cons, List.map_nil, List.length_cons, List.length_nil, List.cons_append, List.nil_append, Nat.reduceAdd, Nat.reduceSub, List.replicate, List.getElem?_cons_zero, List.getElem?_cons_succ, List.set_cons_zero, List.set_cons_succ, List.set_nil, true_and, and_true, if_true, ite_true]
      refine mul_ok (by rw [len2.2.2.1]; exact Nat.le_refl _) (by decide) (by decide) ?_
      rw [eE]
      refine ⟨_, rfl, by omega, eq_str (by rw [rE, wS_nil]) ?_⟩
      simp only [onB, if_true]
      refine mul_ok (by rw [len2.2.2.2]; decide) (by decide) (by decide) ?_
      rw [eF]
      refine ⟨_, rfl, by omega, eq_str (by rw [rF, wS_r]) ?_⟩
      exact rtD.of (q _)
    clear hP
    rintro d r ρ M ⟨hP, o3, o4, o5, o6, o7, o8, o9, o10, o11, rfl⟩ nx hnx
    simp only [hName, atI_0, atI_1, atI_2, atI_3, ixN31, ixN32, ixN30, startD, List.map_cons, List.map_nil, List.length_cons, List.length_nil, List.cons_append, List.nil_append, Nat.reduceAdd, Nat.reduceSub, List.replicate, List.getElem?_cons_zero, List.getElem?_cons_succ, List.set_cons_zero, List.set_cons_succ, List.set_nil, true_and, and_true, if_true, ite_true]
    refine go_seq fun k2 hk2 => ?_
    simp only [dSet, dFn, dCons, dNil, dVar, dC, atI_0, atI_1, atI_2, atI_3, ixN31, ixN32, ixN30, startD, List.map_cons, List.map_nil, List.length_cons, List.length_nil, List.cons_append, List.nil_append, Nat.reduceAdd, Nat.reduceSub, List.replicate, List.getElem?_cons_zero, List.getElem?_cons_succ, List.set_cons_zero, List.set_cons_succ, List.set_nil, true_and, and_true, if_true, ite_true]
    refine ⟨p, 30, rfl, hP, by decide, by decide, fun t M2 ht t2 => ?_⟩
    have lt : t.length ≤ sizeLine := by rw [sizeLine_eq]; omega
    have lf := redW_len t
    subst hk2
    refine go_seq fun k2 hk2 => ?_
    simp only [dSet, dFn, dCons, dNil, dVar, dC, atI_0, atI_1, atI_2, atI_3, ixN31, ixN32, ixN30, startD, List.map_cons, List.map_nil, List.length_cons, List.length_nil, List.cons_append, List.nil_append, Nat.reduceAdd, Nat.reduceSub, List.replicate, List.getElem?_cons_zero, List.getElem?_cons_succ, List.set_cons_zero, List.set_cons_succ, List.set_nil, true_and, and_true, if_true, ite_true]
    refine ⟨t, rfl, by omega, ?_⟩
    subst hk2
    refine go_seq fun k2 hk2 => ?_
    simp only [dIfS, dOr, dTest, dOp, dFn, dCons, dNil, dVar, dC, atI_0, atI_1, atI_2, atI_3, ixN31, ixN32, ixN30, startD, List.map_cons, List.map_nil, List.length_cons, List.length_nil, List.cons_append, List.nil_append, Nat.reduceAdd, Nat.reduceSub, List.replicate, List.getElem?_cons_zero, List.getElem?_cons_succ, List.set_cons_zero, List.set_cons_succ, List.set_nil, true_and, and_true, if_true, ite_true]
    refine ⟨t, rfl, by omega, ne_str rfl ?_⟩
    simp only [onB, Bool.false_eq_true, if_false]
    refine ⟨redW t, rfl, by omega, t, rfl, by omega, ne_mv (move_redW t) ?_⟩
    simp only [onB, Bool.false_eq_true, if_false]
    refine ⟨t, rfl, by omega, t, rfl, by omega, ne_mv rfl ?_⟩
    simp only [onB, Bool.false_eq_true, if_false, dNext]
    subst hk2
    refine go_seq fun k2 hk2 => ?_
    simp only [dSet, dFn, dOp, dCall, lenF, on1, dCons, dNil, dVar, dC, addF, wS_len, atI_0, atI_1, atI_2, atI_3, ixN31, ixN32, ixN30, startD, List.map_cons, List.map_nil, List.length_cons, List.length_nil, List.cons_append, List.nil_append, Nat.reduceAdd, Nat.reduceSub, List.replicate, List.getElem?_cons_zero, List.getElem?_cons_succ, List.set_cons_zero, List.set_cons_succ, List.set_nil, true_and, and_true, if_true, ite_true]
    refine ⟨lt, p, (t.length : Int) + 1, rfl, t2.pen, by omega, log2_lit (by omega) (by omega), fun a M3 a0 a1 t3 => ?_⟩
    obtain ⟨i, rfl⟩ := Int.eq_ofNat_of_zero_le a0
    have hi : i ≤ t.length := by omega
    subst hk2
    refine go_seq fun k2 hk2 => ?_
    simp only [dIfS, dTest, dOp, dFn, dSl, doNo, doAt, dCons, dNil, dVar, onI, slF, wS_len, atI_0, atI_1, atI_2, atI_3, ixN31, ixN32, ixN30, startD, List.map_cons, List.map_nil, List.length_cons, List.length_nil, List.cons_append, List.nil_append, Nat.reduceAdd, Nat.reduceSub, List.replicate, List.getElem?_cons_zero, List.getElem?_cons_succ, List.set_cons_zero, List.set_cons_succ, List.set_nil, true_and, and_true, if_true, ite_true]
    refine ⟨lt, ?_⟩
    rw [cut_lo t i hi]
    refine ⟨t.take i, rfl, by rw [List.length_take]; omega, lt, ?_⟩
    rw [cut_hi t i hi]
    have l1 := redW_len (t.take i)
    have l2 := redW_len (t.drop i)
    rw [List.length_take] at l1
    rw [List.length_drop] at l2
    refine ⟨t.drop i, rfl, by rw [List.length_drop]; omega, redW (t.take i), redW (t.drop i), rfl, by omega, ne_str ?_ ?_⟩
    · rw [redW_join, List.take_append_drop]
    simp only [onB, Bool.false_eq_true, if_false, dNext]
    subst hk2
    refine go_seq fun k2 hk2 => ?_
    simp only [dSet, dFn, dCons, dNil, dVar, atI_0, atI_1, atI_2, atI_3, ixN31, ixN32, ixN30, startD, List.map_cons, List.map_nil, List.length_cons, List.length_nil, List.cons_append, List.nil_append, Nat.reduceAdd, Nat.reduceSub, List.replicate, List.getElem?_cons_zero, List.getElem?_cons_succ, List.set_cons_zero, List.set_cons_succ, List.set_nil, true_and, and_true, if_true, ite_true]
    refine ⟨redW t, rfl, by omega, ?_⟩
    have lb : ((redW t).reverse.map Lt.inv).length = (redW t).length := by rw [List.length_map, List.length_reverse]
    subst hk2
    refine go_seq fun k2 hk2 => ?_
    simp only [dIfS, dOr, dTest, dOp, dFn, dCons, dNil, dVar, dC, atI_0, atI_1, atI_2, atI_3, ixN31, ixN32, ixN30, startD, List.map_cons, List.map_nil, List.length_cons, List.length_nil, List.cons_append, List.nil_append, Nat.reduceAdd, Nat.reduceSub, List.replicate, List.getElem?_cons_zero, List.getElem?_cons_succ, List.set_cons_zero, List.set_cons_succ, List.set_nil, true_and, and_true, if_true, ite_true]
    refine ⟨redW t, _, rfl, by omega, ne_str (by rw [redW_inv, wS_nil]) ?_⟩
    simp only [onB, Bool.false_eq_true, if_false]
    refine ⟨_, redW t, rfl, by omega, ne_str (by rw [redW_inv2, wS_nil]) ?_⟩
    simp only [onB, Bool.false_eq_true, if_false]
    refine ⟨_, rfl, by omega, ne_str (by rw [inv_word2]) ?_⟩
    simp only [onB, Bool.false_eq_true, if_false, dNext]
    subst hk2
    refine go_seq fun k2 hk2 => ?_
    simp only [dPar, dFn, dCons, dNil, dVar, dC, atI_0, atI_1, atI_2, atI_3, ixN31, ixN32, ixN30, startD, List.map_cons, List.map_nil, List.length_cons, List.length_nil, List.cons_append, List.nil_append, Nat.reduceAdd, Nat.reduceSub, List.replicate, List.getElem?_cons_zero, List.getElem?_cons_succ, List.set_cons_zero, List.set_cons_succ, List.set_nil, true_and, and_true, if_true, ite_true]
    refine ⟨p, 40, rfl, t3.pen, by decide, by decide, fun u M4 ru hu t4 => ⟨p, 40, rfl, t4.pen, by decide, by decide, fun v M5 rv hv t5 => ?_⟩⟩
    subst hk2
    simp only [dIfS, dOr, dTest, dOp, dFn, dCons, dNil, dVar, addF, wS_app, wS_len, atI_0, atI_1, atI_2, atI_3, ixN31, ixN32, ixN30, startD, List.map_cons, List.map_nil, List.length_cons, List.length_nil, List.cons_append, List.nil_append, Nat.reduceAdd, Nat.reduceSub, List.replicate, List.getElem?_cons_zero, List.getElem?_cons_succ, List.set_cons_zero, List.set_cons_succ, List.set_nil, true_and, and_true, if_true, ite_true]
    refine ⟨u, v, rfl, by omega, by rw [sizeLine_eq]; omega, u ++ v, rfl, by rw [List.length_append]; omega, ne_str rfl ?_⟩
    simp only [onB, Bool.false_eq_true, if_false]
    refine ⟨u, rfl, by omega, ne_str (by rw [redW_red ru]) ?_⟩
    simp only [onB, Bool.false_eq_true, if_false, dNext]
    exact hnx _ _ ⟨t5.pen, _, _, _, _, _, _, _, _, _, rfl⟩
  · rintro d r ρ M ⟨rfl, l, o3, o4, o5, e, hl2, rfl⟩ nx hnx
    cases l with
    | nil => cases e
    | cons a l =>
      rw [List.map_cons] at e
      injection e with e3 e4
      subst e3 e4
      have ha := hl2 a List.mem_cons_self
      simp only [hName, dFor, diSq, dTup, dCons, dNil, dC, items, List.cons_append, List.nil_append, atI_0, atI_1, atI_2, atI_3, ixN31, ixN32, ixN30, startD, List.map_cons, List.map_nil, List.length_cons, List.length_nil, List.cons_append, List.nil_append, Nat.reduceAdd, Nat.reduceSub, List.replicate, List.getElem?_cons_zero, List.getElem?_cons_succ, List.set_cons_zero, List.set_cons_succ, List.set_nil, true_and, and_true, if_true, ite_true]
      refine ⟨by decide, ?_⟩
      rw [kinds_D]
      refine dLoop_inv (fun ds ρ M2 => M2 = M ∧ ∃ (l : List (List Lt)) (o4 o5 : Option D), ds = l.map (fun w => D.str (wS w)) ∧ (∀ w ∈ l, w.length ≤ 1) ∧ ρ = [some (.seq (ns.map D.int)), some (.ref p), some (.dtt tb), some (.str (wS a)), o4, o5, none, none, none, none, none, none]) ?_ ?_ _ _ _ ⟨rfl, kinds, _, _, rfl, by decide, rfl⟩
      · rintro ρ M2 ⟨rfl, l2, o4, o5, _, _, rfl⟩
        exact hnx _ _ ⟨rfl, l, _, _, _, rfl, fun w hw => hl2 w (List.mem_cons_of_mem _ hw), rfl⟩
      · rintro d2 r2 ρ M2 ⟨rfl, l2, o4, o5, e, hl3, rfl⟩ nx2 hnx2
        cases l2 with
        | nil => cases e
        | cons b l2 =>
          rw [List.map_cons] at e
          injection e with e3 e4
          subst e3 e4
          have hb := hl3 b List.mem_cons_self
          simp only [hName, atI_0, atI_1, atI_2, atI_3, ixN31, ixN32, ixN30, startD, List.map_cons, List.map_nil, List.length_cons, List.length_nil, List.cons_append, List.nil_append, Nat.reduceAdd, Nat.reduceSub, List.replicate, List.getElem?_cons_zero, List.getElem?_cons_succ, List.set_cons_zero, List.set_cons_succ, List.set_nil, true_and, and_true, if_true, ite_true]
          refine go_seq fun k2 hk2 => ?_
          have fin : ∀ x, (∀ (Q : DK), Q (.bl false) M2 → neF (kd a b) x M2 Q) → k2 { nx := nx2, rt := (endsD Qd Xd).rt, ct := nx2, bk := nx, ex := (endsD Qd Xd).ex } [some (.seq (ns.map D.int)), some (.ref p), some (.dtt tb), some (.str (wS a)), some (.str (wS b)), some x, none, none, none, none, none, none] M2 := by
            intro x hx
            subst hk2
            simp only [dIfS, dTest, dOp, dFn, dCons, dNil, dVar, atI_0, atI_1, atI_2, atI_3, ixN31, ixN32, ixN30, startD, List.map_cons, List.map_nil, List.length_cons, List.length_nil, List.cons_append, List.nil_append, Nat.reduceAdd, Nat.reduceSub, List.replicate, List.getElem?_cons_zero, List.getElem?_cons_succ, List.set_cons_zero, List.set_cons_succ, List.set_nil, true_and, and_true, if_true, ite_true]
            refine ⟨a, b, rfl, hx _ ?_⟩
            simp only [onB, Bool.false_eq_true, if_false, dNext]
            exact hnx2 _ _ ⟨rfl, l2, _, _, rfl, fun w hw => hl3 w (List.mem_cons_of_mem _ hw), rfl⟩
          have sab : (wS a).length + (wS b).length ≤ sizeLine := by rw [wS_len, wS_len, sizeLine_eq]; omega
          simp only [dSet, dIf, dTest, dOp, dTup, dCons, dNil, dVar, dC, inF, strB2'', onO, wS_nil, List.cons_append, List.nil_append, id, onB, atI_0, atI_1, atI_2, atI_3, ixN31, ixN32, ixN30, startD, List.map_cons, List.map_nil, List.length_cons, List.length_nil, List.cons_append, List.nil_append, Nat.reduceAdd, Nat.reduceSub, List.replicate, List.getElem?_cons_zero, List.getElem?_cons_succ, List.set_cons_zero, List.set_cons_succ, List.set_nil, true_and, and_true, if_true, ite_true]
          refine ⟨by decide, ?_⟩
          simp only [List.any_cons, List.any_nil, Bool.or_false]
          have bq : ∀ w : List Lt, (wS w == wS []) = decide (w = []) := fun w => by
            rw [Bool.eq_iff_iff, beq_iff_eq, decide_eq_true_eq, wS_eq]
          rw [bq, bq]
          by_cases ca : a = []
          · rw [if_pos (by simp [ca])]
            simp only [addF, wS_app]
            refine ⟨sab, fin _ fun Q q => ?_⟩
            unfold kd
            rw [if_pos ca, ca]
            exact ne_str rfl q
          · by_cases cb : b = []
            · rw [if_pos (by simp [cb])]
              simp only [addF, wS_app]
              refine ⟨sab, fin _ fun Q q => ?_⟩
              unfold kd
              rw [if_neg ca, if_pos cb, cb, List.append_nil]
              exact ne_str rfl q
            · rw [if_neg (by simp [ca, cb])]
              simp only [dGetT, dTup, dCons, dNil, dVar, dttV, tupS, strB2'', onO, List.cons_append, List.nil_append, atI_0, atI_1, atI_2, atI_3, ixN31, ixN32, ixN30, startD, List.map_cons, List.map_nil, List.length_cons, List.length_nil, List.cons_append, List.nil_append, Nat.reduceAdd, Nat.reduceSub, List.replicate, List.getElem?_cons_zero, List.getElem?_cons_succ, List.set_cons_zero, List.set_cons_succ, List.set_nil, true_and, and_true, if_true, ite_true]
              refine ⟨by decide, fin _ fun Q q => ?_⟩
              unfold kd
              rw [if_neg ca, if_neg cb]
              exact ne_get q
theorem law_true {ns : List Int} (hl : ns.length ≤ 63) (hb : ∀ z ∈ ns, Builtin.Int.intBits z ≤ 1048576) : sp_law [.seq (ns.map D.int)] (fun _ => none) (fun d _ => d = D.bl true) (fun _ _ => False) := ⟨ns, rfl, rfl, fun _ => rfl⟩
end K07

set_option Elab.async false
set_option linter.all false
set_option maxRecDepth 100000
set_option maxHeartbeats 8000000
namespace K07
open PySem PySem.Spec L2 DL Wm DP
def topS (i : Nat) : Stmt := PySem.Challenge.pw_fracwalk_k07_words_reduced.main.body.getD i (.Pass ⟨0, 0, 0, 0⟩)
section
variable {P : Program} {w : World} {K : PySem.W.Frag} {mg : Str → Option Value} {base : Heap}
abbrev s_with_sign : Stmt := topS 2
abbrev N_with_sign : List Str := ["numbers", "number", "entry"]
theorem sc_with_sign : FnScope N_with_sign ["numbers"] (defScope s_with_sign) := ⟨rfl, rfl, rfl, by decide +kernel, rfl, by decide +kernel, by decide +kernel⟩
theorem ok_with_sign {sp : DSp} (hb : ∀ {as M Qd Xd}, as.length = 1 → sp as M Qd Xd → d_with_sign (endsD Qd Xd) (startD 3 as) M)
    (F : Df K mg "with_sign" s_with_sign ["numbers"])  (m_tuple : mg "tuple" = none) : Dn P w K mg base "with_sign" ["numbers"] 1 sp := by
  refine okF F sc_with_sign (by decide) (fun f cdv A outer s H E hr => ⟨d_with_sign, ?_, fun as M Qd Xd hl h => hb hl h⟩)
  have nd := sc_with_sign.nd
  exact (dz_cons (dz_for passD rfl (di_sq (dd_var 0)) (dg_name (i := 1) nd rfl (.inl rfl)) (dz_one (dz_if (dt_cmp (op_neU (by exact hr.units)) ov_ne (dd_var 1) dd_int (nomark _)) (dz_one (dz_ret (dd_if (dt_cmp op_lt ov_lt (dd_var 1) dd_int (nomark _)) (dd_call (pe_callTy call_tuple_of (by rfl) m_tuple (by decide +kernel) (dx_cons (dd_lc rfl nd (di_sq (dd_var 0)) (blkOk_by (N := N_with_sign) (sc := defScope s_with_sign) (own := [("entry", 2)]) (by decide +kernel)) rfl (bg_name (j := 2) (by decide)) (fun _ _ _ _ _ => (pg_name (i := 2) nd rfl (.inl rfl))) (fun _ _ _ _ _ => dt_nil) (fun _ _ _ _ _ => (dd_un un_neg uv_neg (dd_var 2)))) dx_nil)) cv_tuple) (dd_call (pe_callTy call_tuple_of (by rfl) m_tuple (by decide +kernel) (dx_cons (dd_var 0) dx_nil)) cv_tuple)))) dz_nil)))
      (dz_one (dz_ret (dd_call (pe_callTy call_tuple_of (by rfl) m_tuple (by decide +kernel) (dx_cons (dd_var 0) dx_nil)) cv_tuple))))

abbrev s_product : Stmt := topS 3
abbrev N_product : List Str := ["first", "then", "a", "b", "c", "d", "e", "f", "g", "h"]
theorem sc_product : FnScope N_product ["first", "then"] (defScope s_product) := ⟨rfl, rfl, rfl, by decide +kernel, rfl, by decide +kernel, by decide +kernel⟩
theorem ok_product {sp sp_with_sign : DSp} (hb : ∀ {as M Qd Xd}, as.length = 2 → sp as M Qd Xd → d_product sp_with_sign (endsD Qd Xd) (startD 10 as) M)
    (F : Df K mg "product" s_product ["first", "then"]) (G_with_sign : Dn P w K mg base "with_sign" ["numbers"] 1 sp_with_sign)  : Dn P w K mg base "product" ["first", "then"] 2 sp := by
  refine okF F sc_product (by decide) (fun f cdv A outer s H E hr => ⟨d_product sp_with_sign, ?_, fun as M Qd Xd hl h => hb hl h⟩)
  have nd := sc_product.nd
  exact (dz_cons (dz_asg (dd_var 0) (dg_tup rfl (dg_cons (dg_name (i := 2) nd rfl (.inl rfl)) (dg_cons (dg_name (i := 3) nd rfl (.inl rfl)) (dg_cons (dg_name (i := 4) nd rfl (.inl rfl)) (dg_cons (dg_name (i := 5) nd rfl (.inl rfl)) dg_nil))))))
      (dz_cons (dz_asg (dd_var 1) (dg_tup rfl (dg_cons (dg_name (i := 6) nd rfl (.inl rfl)) (dg_cons (dg_name (i := 7) nd rfl (.inl rfl)) (dg_cons (dg_name (i := 8) nd rfl (.inl rfl)) (dg_cons (dg_name (i := 9) nd rfl (.inl rfl)) dg_nil))))))
      (dz_one (dz_ret (dd_fnD G_with_sign (hr.mono (by decide)) (by rfl) takesD (dx_cons (dd_tup (dx_cons (dd_bin op_addU ov_add (dd_bin op_mulU ov_mul (dd_var 6) (dd_var 2)) (dd_bin op_mulU ov_mul (dd_var 7) (dd_var 4))) (dx_cons (dd_bin op_addU ov_add (dd_bin op_mulU ov_mul (dd_var 6) (dd_var 3)) (dd_bin op_mulU ov_mul (dd_var 7) (dd_var 5))) (dx_cons (dd_bin op_addU ov_add (dd_bin op_mulU ov_mul (dd_var 8) (dd_var 2)) (dd_bin op_mulU ov_mul (dd_var 9) (dd_var 4))) (dx_cons (dd_bin op_addU ov_add (dd_bin op_mulU ov_mul (dd_var 8) (dd_var 3)) (dd_bin op_mulU ov_mul (dd_var 9) (dd_var 5))) dx_nil))))) dx_nil))))))

abbrev s_multiply_kinds : Stmt := topS 8
abbrev N_multiply_kinds : List Str := ["one", "other"]
theorem sc_multiply_kinds : FnScope N_multiply_kinds ["one", "other"] (defScope s_multiply_kinds) := ⟨rfl, rfl, rfl, by decide +kernel, rfl, by decide +kernel, by decide +kernel⟩
theorem ok_multiply_kinds {sp : DSp} (hb : ∀ {as M Qd Xd}, as.length = 2 → sp as M Qd Xd → d_multiply_kinds (endsD Qd Xd) (startD 2 as) M)
    (F : Df K mg "multiply_kinds" s_multiply_kinds ["one", "other"])  (t_LETTER_PRODUCTS : KTTab K w mg "LETTER_PRODUCTS" kt_LETTER_PRODUCTS)  : Dn P w K mg base "multiply_kinds" ["one", "other"] 1 sp := by
  refine okF F sc_multiply_kinds (by decide) (fun f cdv A outer s H E hr => ⟨d_multiply_kinds, ?_, fun as M Qd Xd hl h => hb hl h⟩)
  have nd := sc_multiply_kinds.nd
  exact (dz_cons (dz_if (dt_cmp (op_eqU (by exact hr.units)) ov_eq (dd_var 0) dd_str (nomark _)) (dz_one (dz_ret (dd_var 1))) dz_nil)
      (dz_cons (dz_if (dt_cmp (op_eqU (by exact hr.units)) ov_eq (dd_var 1) dd_str (nomark _)) (dz_one (dz_ret (dd_var 0))) dz_nil)
      (dz_one (dz_ret (dd_getTT (hu_of hr) (by rfl) t_LETTER_PRODUCTS (dd_tup (dx_cons (dd_var 0) (dx_cons (dd_var 1) dx_nil))) ⟨by rfl, by rfl, by rfl, by rfl⟩)))))

abbrev s_append_letter : Stmt := topS 9
abbrev N_append_letter : List Str := ["letters", "letter"]
theorem sc_append_letter : FnScope N_append_letter ["letters", "letter"] (defScope s_append_letter) := ⟨rfl, rfl, rfl, by decide +kernel, rfl, by decide +kernel, by decide +kernel⟩
theorem ok_append_letter {sp : DSp} (hb : ∀ {as M Qd Xd}, as.length = 2 → sp as M Qd Xd → d_append_letter (endsD Qd Xd) (startD 2 as) M)
    (F : Df K mg "append_letter" s_append_letter ["letters", "letter"])  (t_LETTER_PRODUCTS : KTTab K w mg "LETTER_PRODUCTS" kt_LETTER_PRODUCTS)  : Dn P w K mg base "append_letter" ["letters", "letter"] 1 sp := by
  refine okF F sc_append_letter (by decide) (fun f cdv A outer s H E hr => ⟨d_append_letter, ?_, fun as M Qd Xd hl h => hb hl h⟩)
  have nd := sc_append_letter.nd
  exact (dz_cons (dz_while passD (PW.pt (dw_and (dt_cmp (op_neU (by exact hr.units)) ov_ne (dd_var 0) (dd_lst dx_nil) (nomark _)) (dw_and1 (dt_inT (hu_of hr) (by rfl) t_LETTER_PRODUCTS (dd_tup (dx_cons (dd_ix ix_seq ov_ix (dd_var 0) (dd_un un_neg uv_neg dd_int) (fun _ _ => rfl)) (dx_cons (dd_var 1) dx_nil))))))) (dz_cons (dz_set (i := 1) nd rfl (.inl rfl) (dd_ixTT (hu_of hr) (by rfl) t_LETTER_PRODUCTS (dd_tup (dx_cons (dd_mt0 PySem.F.plainAttrs_list PySem.F.slot_list_pop PySem.F.type_list_pop mt_pop mv_pop (dd_var 0)) (dx_cons (dd_var 1) dx_nil))) (fun _ _ => rfl)))
      (dz_one (dz_if (dt_cmp (op_eqU (by exact hr.units)) ov_eq (dd_var 1) dd_str (nomark _)) (dz_one dz_retN) dz_nil))))
      (dz_one (dz_expr (dd_mt PySem.F.plainAttrs_list PySem.F.slot_list_append PySem.F.type_list_append mt_append mv_append (dd_var 0) (dx_cons (dd_var 1) dx_nil)))))

abbrev s_reduce_word : Stmt := topS 10
abbrev N_reduce_word : List Str := ["word", "letters", "letter"]
theorem sc_reduce_word : FnScope N_reduce_word ["word"] (defScope s_reduce_word) := ⟨rfl, rfl, rfl, by decide +kernel, rfl, by decide +kernel, by decide +kernel⟩
theorem ok_reduce_word {sp sp_append_letter : DSp} (hb : ∀ {as M Qd Xd}, as.length = 1 → sp as M Qd Xd → d_reduce_word sp_append_letter (endsD Qd Xd) (startD 3 as) M)
    (F : Df K mg "reduce_word" s_reduce_word ["word"]) (G_append_letter : Dn P w K mg base "append_letter" ["letters", "letter"] 1 sp_append_letter)  : Dn P w K mg base "reduce_word" ["word"] 2 sp := by
  refine okF F sc_reduce_word (by decide) (fun f cdv A outer s H E hr => ⟨d_reduce_word sp_append_letter, ?_, fun as M Qd Xd hl h => hb hl h⟩)
  have nd := sc_reduce_word.nd
  exact (dz_cons (dz_set (i := 1) nd rfl (.inl rfl) (dd_lstM dx_nil))
      (dz_cons (dz_for passD rfl (di_sq (dd_var 0)) (dg_name (i := 2) nd rfl (.inl rfl)) (dz_one (dz_expr (dd_fnD G_append_letter (hr.mono (by decide)) (by rfl) takesD (dx_cons (dd_var 1) (dx_cons (dd_var 2) dx_nil))))))
      (dz_one (dz_ret (dd_mt PySem.F.plainAttrs_str PySem.F.slot_str_join PySem.F.type_str_join mt_joinD mv_join dd_str (dx_cons (dd_var 1) dx_nil))))))

abbrev s_join_words : Stmt := topS 11
abbrev N_join_words : List Str := ["one", "other"]
theorem sc_join_words : FnScope N_join_words ["one", "other"] (defScope s_join_words) := ⟨rfl, rfl, rfl, by decide +kernel, rfl, by decide +kernel, by decide +kernel⟩
theorem ok_join_words {sp sp_reduce_word : DSp} (hb : ∀ {as M Qd Xd}, as.length = 2 → sp as M Qd Xd → d_join_words sp_reduce_word (endsD Qd Xd) (startD 2 as) M)
    (F : Df K mg "join_words" s_join_words ["one", "other"]) (G_reduce_word : Dn P w K mg base "reduce_word" ["word"] 2 sp_reduce_word)  : Dn P w K mg base "join_words" ["one", "other"] 3 sp := by
  refine okF F sc_join_words (by decide) (fun f cdv A outer s H E hr => ⟨d_join_words sp_reduce_word, ?_, fun as M Qd Xd hl h => hb hl h⟩)
  have nd := sc_join_words.nd
  exact (dz_one (dz_ret (dd_fnD G_reduce_word (hr.mono (by decide)) (by rfl) takesD (dx_cons (dd_bin op_addU ov_add (dd_var 0) (dd_var 1)) dx_nil))))

abbrev s_inverse_word : Stmt := topS 12
abbrev N_inverse_word : List Str := ["word", "letter"]
theorem sc_inverse_word : FnScope N_inverse_word ["word"] (defScope s_inverse_word) := ⟨rfl, rfl, rfl, by decide +kernel, rfl, by decide +kernel, by decide +kernel⟩
theorem ok_inverse_word {sp : DSp} (hb : ∀ {as M Qd Xd}, as.length = 1 → sp as M Qd Xd → d_inverse_word (endsD Qd Xd) (startD 2 as) M)
    (F : Df K mg "inverse_word" s_inverse_word ["word"])  (t_INVERSES : KTab K w mg "INVERSES" kv_INVERSES)  : Dn P w K mg base "inverse_word" ["word"] 1 sp := by
  refine okF F sc_inverse_word (by decide) (fun f cdv A outer s H E hr => ⟨d_inverse_word, ?_, fun as M Qd Xd hl h => hb hl h⟩)
  have nd := sc_inverse_word.nd
  exact (dz_one (dz_ret (dd_mt PySem.F.plainAttrs_str PySem.F.slot_str_join PySem.F.type_str_join mt_joinD mv_join dd_str (dx_cons (dd_lc rfl nd (di_sq (dd_revS (dd_var 0))) (blkOk_by (N := N_inverse_word) (sc := defScope s_inverse_word) (own := [("letter", 1)]) (by decide +kernel)) rfl (bg_name (j := 1) (by decide)) (fun _ _ _ _ _ => (pg_name (i := 1) nd rfl (.inl rfl))) (fun _ _ _ _ _ => dt_nil) (fun _ _ _ _ _ => (dd_ixT (by rfl) t_INVERSES (dd_var 1) (fun _ _ => rfl)))) dx_nil))))

abbrev s_move_of : Stmt := topS 13
abbrev N_move_of : List Str := ["word", "move", "letter"]
theorem sc_move_of : FnScope N_move_of ["word"] (defScope s_move_of) := ⟨rfl, rfl, rfl, by decide +kernel, rfl, by decide +kernel, by decide +kernel⟩
theorem ok_move_of {sp sp_product : DSp} (hb : ∀ {as M Qd Xd}, as.length = 1 → sp as M Qd Xd → d_move_of sp_product (endsD Qd Xd) (startD 3 as) M)
    (F : Df K mg "move_of" s_move_of ["word"]) (G_product : Dn P w K mg base "product" ["first", "then"] 2 sp_product) (t_LETTER_MOVES : KTab K w mg "LETTER_MOVES" kv_LETTER_MOVES) (t_IDENTITY : KTup K mg "IDENTITY" [1, 0, 0, 1])  : Dn P w K mg base "move_of" ["word"] 3 sp := by
  refine okF F sc_move_of (by decide) (fun f cdv A outer s H E hr => ⟨d_move_of sp_product, ?_, fun as M Qd Xd hl h => hb hl h⟩)
  have nd := sc_move_of.nd
  exact (dz_cons (dz_set (i := 1) nd rfl (.inl rfl) (dd_kt (is := [1, 0, 0, 1]) (by rfl) t_IDENTITY))
      (dz_cons (dz_for passD rfl (di_sq (dd_var 0)) (dg_name (i := 2) nd rfl (.inl rfl)) (dz_one (dz_set (i := 1) nd rfl (.inl rfl) (dd_fnD G_product (hr.mono (by decide)) (by rfl) takesD (dx_cons (dd_var 1) (dx_cons (dd_ixT (by rfl) t_LETTER_MOVES (dd_var 2) (fun _ _ => rfl)) dx_nil))))))
      (dz_one (dz_ret (dd_var 1)))))

abbrev s_law_pen : Stmt := topS 15
abbrev N_law_pen : List Str := ["script"]
theorem sc_law_pen : FnScope N_law_pen ["script"] (defScope s_law_pen) := ⟨rfl, rfl, rfl, by decide +kernel, rfl, by decide +kernel, by decide +kernel⟩
theorem ok_law_pen {sp : DSp} (hb : ∀ {as M Qd Xd}, as.length = 1 → sp as M Qd Xd → d_law_pen (endsD Qd Xd) (startD 1 as) M)
    (F : Df K mg "_law_pen" s_law_pen ["script"])  (m_list : mg "list" = none) : Dn P w K mg base "_law_pen" ["script"] 1 sp := by
  refine okF F sc_law_pen (by decide) (fun f cdv A outer s H E hr => ⟨d_law_pen, ?_, fun as M Qd Xd hl h => hb hl h⟩)
  have nd := sc_law_pen.nd
  exact (dz_one (dz_ret (dd_lstM (dx_cons (dd_call (pe_callTy call_list_of (by rfl) m_list (by decide +kernel) (dx_cons (dd_sl (dd_var 0) do_no (do_at dd_int)) dx_nil)) cv_listM) (dx_cons dd_int (dx_cons dd_int dx_nil))))))

abbrev s_law_fresh : Stmt := topS 16
abbrev N_law_fresh : List Str := ["pen", "at", "cell", "p", "state", "found", "turn"]
theorem sc_law_fresh : FnScope N_law_fresh ["pen"] (defScope s_law_fresh) := ⟨rfl, rfl, rfl, by decide +kernel, rfl, by decide +kernel, by decide +kernel⟩
theorem ok_law_fresh {sp : DSp} (hb : ∀ {as M Qd Xd}, as.length = 1 → sp as M Qd Xd → d_law_fresh (endsD Qd Xd) (startD 7 as) M)
    (F : Df K mg "_law_fresh" s_law_fresh ["pen"])  (m_range : mg "range" = none) (m_len : mg "len" = none) : Dn P w K mg base "_law_fresh" ["pen"] 1 sp := by
  refine okF F sc_law_fresh (by decide) (fun f cdv A outer s H E hr => ⟨d_law_fresh, ?_, fun as M Qd Xd hl h => hb hl h⟩)
  have nd := sc_law_fresh.nd
  exact (dz_cons (dz_set (i := 1) nd rfl (.inl rfl) (dd_ix ix_seq ov_ix (dd_var 0) dd_int (fun _ _ => rfl)))
      (dz_cons (dz_asg (dd_bin op_addU ov_add (dd_var 1) dd_int) (dg_sub (pg_sub (dd_var 0) dd_int set_list) sv_list))
      (dz_cons (dz_set (i := 2) nd rfl (.inl rfl) dd_int)
      (dz_cons (dz_if (dt_cmp (op_neU (by exact hr.units)) ov_ne (dd_ix ix_seq ov_ix (dd_var 0) dd_int (fun _ _ => rfl)) (dd_lst dx_nil) (nomark _)) (dz_one (dz_set (i := 2) nd rfl (.inl rfl) (dd_ix ix_seq ov_ix (dd_ix ix_seq ov_ix (dd_var 0) dd_int (fun _ _ => rfl)) (dd_bin op_mod ov_mod (dd_var 1) (dd_call (pe_callB call_lenU (by rfl) m_len (by decide +kernel) (dx_cons (dd_ix ix_seq ov_ix (dd_var 0) dd_int (fun _ _ => rfl)) dx_nil)) cv_len)) (fun _ _ => rfl)))) dz_nil)
      (dz_cons (dz_if (PW.pt (dw_and (dt_cmp op_lt ov_lt (dd_var 1) (dd_call (pe_callB call_lenU (by rfl) m_len (by decide +kernel) (dx_cons (dd_ix ix_seq ov_ix (dd_var 0) dd_int (fun _ _ => rfl)) dx_nil)) cv_len) (nomark _)) (dw_and1 (dt_cmp op_ge ov_ge (dd_var 2) (dd_bin op_pow ov_pow dd_int dd_int) (nomark _))))) (dz_one (dz_ret (dd_bin op_sub ov_sub (dd_var 2) (dd_bin op_pow ov_pow dd_int dd_int)))) dz_nil)
      (dz_cons (dz_set (i := 3) nd rfl (.inl rfl) dd_int)
      (dz_cons (dz_set (i := 4) nd rfl (.inl rfl) (dd_bin op_mod ov_mod (dd_bin op_addU ov_add (dd_bin op_addU ov_add (dd_bin op_mulU ov_mul (dd_var 2) dd_int) (dd_bin op_mulU ov_mul dd_int (dd_var 1))) dd_int) (dd_var 3)))
      (dz_cons (dz_set (i := 5) nd rfl (.inl rfl) (dd_var 4))
      (dz_cons (dz_for passD rfl (di_r1 (by rfl) m_range (dx_cons dd_int dx_nil)) (dg_name (i := 6) nd rfl (.inl rfl)) (dz_cons (dz_set (i := 4) nd rfl (.inl rfl) (dd_bin op_mod ov_mod (dd_bin op_addU ov_add (dd_bin op_addU ov_add (dd_bin op_mulU ov_mul (dd_var 4) (dd_var 4)) (dd_bin op_mulU ov_mul (dd_bin op_mulU ov_mul dd_int (dd_bin op_addU ov_add (dd_var 6) dd_int)) (dd_bin op_addU ov_add (dd_var 1) dd_int))) (dd_var 2)) (dd_var 3)))
      (dz_one (dz_set (i := 5) nd rfl (.inl rfl) (dd_bin op_addU ov_add (dd_bin op_mulU ov_mul (dd_var 5) (dd_var 3)) (dd_var 4))))))
      (dz_one (dz_ret (dd_var 5))))))))))))

abbrev s_law_draw : Stmt := topS 17
abbrev N_law_draw : List Str := ["pen", "many", "digit"]
theorem sc_law_draw : FnScope N_law_draw ["pen", "many"] (defScope s_law_draw) := ⟨rfl, rfl, rfl, by decide +kernel, rfl, by decide +kernel, by decide +kernel⟩
theorem ok_law_draw {sp sp_law_fresh : DSp} (hb : ∀ {as M Qd Xd}, as.length = 2 → sp as M Qd Xd → d_law_draw sp_law_fresh (endsD Qd Xd) (startD 3 as) M)
    (F : Df K mg "_law_draw" s_law_draw ["pen", "many"]) (G_law_fresh : Dn P w K mg base "_law_fresh" ["pen"] 1 sp_law_fresh)  : Dn P w K mg base "_law_draw" ["pen", "many"] 2 sp := by
  refine okF F sc_law_draw (by decide) (fun f cdv A outer s H E hr => ⟨d_law_draw sp_law_fresh, ?_, fun as M Qd Xd hl h => hb hl h⟩)
  have nd := sc_law_draw.nd
  exact (dz_cons (dz_if (dt_cmp op_lt ov_lt (dd_ix ix_seq ov_ix (dd_var 0) dd_int (fun _ _ => rfl)) (dd_var 1) (nomark _)) (dz_one (dz_asg (dd_fnD G_law_fresh (hr.mono (by decide)) (by rfl) takesD (dx_cons (dd_var 0) dx_nil)) (dg_sub (pg_sub (dd_var 0) dd_int set_list) sv_list))) dz_nil)
      (dz_cons (dz_set (i := 2) nd rfl (.inl rfl) (dd_bin op_mod ov_mod (dd_ix ix_seq ov_ix (dd_var 0) dd_int (fun _ _ => rfl)) (dd_var 1)))
      (dz_cons (dz_asg (dd_bin op_fdivW ov_fdiv (dd_ix ix_seq ov_ix (dd_var 0) dd_int (fun _ _ => rfl)) (dd_var 1)) (dg_sub (pg_sub (dd_var 0) dd_int set_list) sv_list))
      (dz_one (dz_ret (dd_var 2))))))

abbrev s_law_word : Stmt := topS 18
abbrev N_law_word : List Str := ["pen", "most", "found", "many"]
theorem sc_law_word : FnScope N_law_word ["pen", "most"] (defScope s_law_word) := ⟨rfl, rfl, rfl, by decide +kernel, rfl, by decide +kernel, by decide +kernel⟩
theorem ok_law_word {sp sp_law_draw : DSp} (hb : ∀ {as M Qd Xd}, as.length = 2 → sp as M Qd Xd → d_law_word sp_law_draw (endsD Qd Xd) (startD 4 as) M)
    (F : Df K mg "_law_word" s_law_word ["pen", "most"]) (G_law_draw : Dn P w K mg base "_law_draw" ["pen", "many"] 2 sp_law_draw) (m_len : mg "len" = none) : Dn P w K mg base "_law_word" ["pen", "most"] 3 sp := by
  refine okF F sc_law_word (by decide) (fun f cdv A outer s H E hr => ⟨d_law_word sp_law_draw, ?_, fun as M Qd Xd hl h => hb hl h⟩)
  have nd := sc_law_word.nd
  exact (dz_cons (dz_par (i := 2) (j := 3) rfl nd rfl rfl (by decide) rfl rfl (dx_cons dd_str (dx_cons (dd_fnD G_law_draw (hr.mono (by decide)) (by rfl) takesD (dx_cons (dd_var 0) (dx_cons (dd_bin op_addU ov_add (dd_var 1) dd_int) dx_nil))) dx_nil)) (by rfl))
      (dz_cons (dz_if (PW.pt (dw_and (dt_cmp (op_eqU (by exact hr.units)) ov_eq (dd_fnD G_law_draw (hr.mono (by decide)) (by rfl) takesD (dx_cons (dd_var 0) (dx_cons dd_int dx_nil))) dd_int (nomark _)) (dw_and1 (dt_cmp op_gt ov_gt (dd_var 3) dd_int (nomark _))))) (dz_one (dz_set (i := 2) nd rfl (.inl rfl) dd_str)) dz_nil)
      (dz_cons (dz_while passD (dt_cmp op_lt ov_lt (dd_call (pe_callB call_lenU (by rfl) m_len (by decide +kernel) (dx_cons (dd_var 2) dx_nil)) cv_len) (dd_var 3) (nomark _)) (dz_one (dz_if (PW.pt (dw_or (dt_cmp (op_eqU (by exact hr.units)) ov_eq (dd_sl (dd_var 2) (do_at (dd_un un_neg uv_neg dd_int)) do_no) dd_str (nomark _)) (dw_or1 (dt_cmp (op_eqU (by exact hr.units)) ov_eq (dd_var 2) dd_str (nomark _))))) (dz_one (dz_set (i := 2) nd rfl (.inl rfl) (dd_bin op_addU ov_add (dd_var 2) (dd_ix ix_seq ov_ix dd_str (dd_fnD G_law_draw (hr.mono (by decide)) (by rfl) takesD (dx_cons (dd_var 0) (dx_cons dd_int dx_nil))) (fun _ _ => rfl))))) (dz_one (dz_set (i := 2) nd rfl (.inl rfl) (dd_bin op_addU ov_add (dd_var 2) dd_str))))))
      (dz_one (dz_ret (dd_var 2))))))

abbrev s_law_signed : Stmt := topS 19
abbrev N_law_signed : List Str := ["numbers", "number", "one"]
theorem sc_law_signed : FnScope N_law_signed ["numbers"] (defScope s_law_signed) := ⟨rfl, rfl, rfl, by decide +kernel, rfl, by decide +kernel, by decide +kernel⟩
theorem ok_law_signed {sp : DSp} (hb : ∀ {as M Qd Xd}, as.length = 1 → sp as M Qd Xd → d_law_signed (endsD Qd Xd) (startD 3 as) M)
    (F : Df K mg "_law_signed" s_law_signed ["numbers"])  (m_tuple : mg "tuple" = none) : Dn P w K mg base "_law_signed" ["numbers"] 1 sp := by
  refine okF F sc_law_signed (by decide) (fun f cdv A outer s H E hr => ⟨d_law_signed, ?_, fun as M Qd Xd hl h => hb hl h⟩)
  have nd := sc_law_signed.nd
  exact (dz_cons (dz_for passD rfl (di_sq (dd_var 0)) (dg_name (i := 1) nd rfl (.inr rfl)) (dz_one (dz_if (dt_cmp (op_neU (by exact hr.units)) ov_ne (dd_var 1) dd_int (nomark _)) (dz_one (dz_ret (dd_call (pe_callTy call_tuple_of (by rfl) m_tuple (by decide +kernel) (dx_cons (dd_lc rfl nd (di_sq (dd_var 0)) (blkOk_by (N := N_law_signed) (sc := defScope s_law_signed) (own := [("one", 2)]) (by decide +kernel)) rfl (bg_name (j := 2) (by decide)) (fun _ _ _ _ _ => (pg_name (i := 2) nd rfl (.inl rfl))) (fun _ _ _ _ _ => dt_nil) (fun _ _ _ _ _ => (dd_bin op_mulU ov_mul (dd_var 2) (dd_if (dt_cmp op_gt ov_gt (dd_var 1) dd_int (nomark _)) dd_int (dd_un un_neg uv_neg dd_int))))) dx_nil)) cv_tuple))) dz_nil)))
      (dz_one (dz_ret (dd_call (pe_callTy call_tuple_of (by rfl) m_tuple (by decide +kernel) (dx_cons (dd_var 0) dx_nil)) cv_tuple))))

abbrev s_law_product : Stmt := topS 20
abbrev N_law_product : List Str := ["first", "then", "a", "b", "c", "d", "e", "f", "g", "h"]
theorem sc_law_product : FnScope N_law_product ["first", "then"] (defScope s_law_product) := ⟨rfl, rfl, rfl, by decide +kernel, rfl, by decide +kernel, by decide +kernel⟩
theorem ok_law_product {sp sp_law_signed : DSp} (hb : ∀ {as M Qd Xd}, as.length = 2 → sp as M Qd Xd → d_law_product sp_law_signed (endsD Qd Xd) (startD 10 as) M)
    (F : Df K mg "_law_product" s_law_product ["first", "then"]) (G_law_signed : Dn P w K mg base "_law_signed" ["numbers"] 1 sp_law_signed)  : Dn P w K mg base "_law_product" ["first", "then"] 2 sp := by
  refine okF F sc_law_product (by decide) (fun f cdv A outer s H E hr => ⟨d_law_product sp_law_signed, ?_, fun as M Qd Xd hl h => hb hl h⟩)
  have nd := sc_law_product.nd
  exact (dz_cons (dz_asg (dd_var 1) (dg_tup rfl (dg_cons (dg_name (i := 2) nd rfl (.inl rfl)) (dg_cons (dg_name (i := 3) nd rfl (.inl rfl)) (dg_cons (dg_name (i := 4) nd rfl (.inl rfl)) (dg_cons (dg_name (i := 5) nd rfl (.inl rfl)) dg_nil))))))
      (dz_cons (dz_asg (dd_var 0) (dg_tup rfl (dg_cons (dg_name (i := 6) nd rfl (.inl rfl)) (dg_cons (dg_name (i := 7) nd rfl (.inl rfl)) (dg_cons (dg_name (i := 8) nd rfl (.inl rfl)) (dg_cons (dg_name (i := 9) nd rfl (.inl rfl)) dg_nil))))))
      (dz_one (dz_ret (dd_fnD G_law_signed (hr.mono (by decide)) (by rfl) takesD (dx_cons (dd_tup (dx_cons (dd_bin op_addU ov_add (dd_bin op_mulU ov_mul (dd_var 2) (dd_var 6)) (dd_bin op_mulU ov_mul (dd_var 3) (dd_var 8))) (dx_cons (dd_bin op_addU ov_add (dd_bin op_mulU ov_mul (dd_var 2) (dd_var 7)) (dd_bin op_mulU ov_mul (dd_var 3) (dd_var 9))) (dx_cons (dd_bin op_addU ov_add (dd_bin op_mulU ov_mul (dd_var 4) (dd_var 6)) (dd_bin op_mulU ov_mul (dd_var 5) (dd_var 8))) (dx_cons (dd_bin op_addU ov_add (dd_bin op_mulU ov_mul (dd_var 4) (dd_var 7)) (dd_bin op_mulU ov_mul (dd_var 5) (dd_var 9))) dx_nil))))) dx_nil))))))

abbrev s_law_move : Stmt := topS 21
abbrev N_law_move : List Str := ["word", "found", "sign"]
theorem sc_law_move : FnScope N_law_move ["word"] (defScope s_law_move) := ⟨rfl, rfl, rfl, by decide +kernel, rfl, by decide +kernel, by decide +kernel⟩
theorem ok_law_move {sp sp_law_product : DSp} (hb : ∀ {as M Qd Xd}, as.length = 1 → sp as M Qd Xd → d_law_move sp_law_product (endsD Qd Xd) (startD 3 as) M)
    (F : Df K mg "_law_move" s_law_move ["word"]) (G_law_product : Dn P w K mg base "_law_product" ["first", "then"] 2 sp_law_product)  : Dn P w K mg base "_law_move" ["word"] 3 sp := by
  refine okF F sc_law_move (by decide) (fun f cdv A outer s H E hr => ⟨d_law_move sp_law_product, ?_, fun as M Qd Xd hl h => hb hl h⟩)
  have nd := sc_law_move.nd
  exact (dz_cons (dz_set (i := 1) nd rfl (.inl rfl) (dd_tup (dx_cons dd_int (dx_cons dd_int (dx_cons dd_int (dx_cons dd_int dx_nil))))))
      (dz_cons (dz_for passD rfl (di_sq (dd_var 0)) (dg_name (i := 2) nd rfl (.inl rfl)) (dz_one (dz_set (i := 1) nd rfl (.inl rfl) (dd_fnD G_law_product (hr.mono (by decide)) (by rfl) takesD (dx_cons (dd_var 1) (dx_cons (dd_dictIx (hu_of hr) (du_cons (dd_tup (dx_cons dd_int (dx_cons dd_int (dx_cons (dd_un un_neg uv_neg dd_int) (dx_cons dd_int dx_nil))))) (du_cons (dd_tup (dx_cons dd_int (dx_cons dd_int (dx_cons (dd_un un_neg uv_neg dd_int) (dx_cons (dd_un un_neg uv_neg dd_int) dx_nil))))) (du_cons (dd_tup (dx_cons dd_int (dx_cons dd_int (dx_cons (dd_un un_neg uv_neg dd_int) (dx_cons dd_int dx_nil))))) du_nil))) (dd_var 2) rfl rfl (fun z => by cases z) (by decide) (fun _ _ => rfl)) dx_nil))))))
      (dz_one (dz_ret (dd_var 1)))))

abbrev s_law_reduced : Stmt := topS 22
abbrev N_law_reduced : List Str := ["word", "pairs", "at", "both", "behind"]
theorem sc_law_reduced : FnScope N_law_reduced ["word"] (defScope s_law_reduced) := ⟨rfl, rfl, rfl, by decide +kernel, rfl, by decide +kernel, by decide +kernel⟩
theorem ok_law_reduced {sp : DSp} (hb : ∀ {as M Qd Xd}, as.length = 1 → sp as M Qd Xd → d_law_reduced (endsD Qd Xd) (startD 5 as) M)
    (F : Df K mg "_law_reduced" s_law_reduced ["word"])  (m_len : mg "len" = none) (m_max : mg "max" = none) : Dn P w K mg base "_law_reduced" ["word"] 1 sp := by
  refine okF F sc_law_reduced (by decide) (fun f cdv A outer s H E hr => ⟨d_law_reduced, ?_, fun as M Qd Xd hl h => hb hl h⟩)
  have nd := sc_law_reduced.nd
  exact (dz_cons (dz_set (i := 1) nd rfl (.inl rfl) (dd_disp (du_cons dd_str (du_cons dd_str (du_cons dd_str (du_cons dd_str (du_cons dd_str du_nil))))) rfl rfl (fun z => by cases z) (by decide)))
      (dz_cons (dz_set (i := 2) nd rfl (.inl rfl) dd_int)
      (dz_cons (dz_while passD (dt_cmp op_lt ov_lt (dd_var 2) (dd_bin op_sub ov_sub (dd_call (pe_callB call_lenU (by rfl) m_len (by decide +kernel) (dx_cons (dd_var 0) dx_nil)) cv_len) dd_int) (nomark _)) (dz_cons (dz_par (i := 3) (j := 4) rfl nd rfl rfl (by decide) rfl rfl (dx_cons (dd_sl (dd_var 0) (do_at (dd_var 2)) (do_at (dd_bin op_addU ov_add (dd_var 2) dd_int))) (dx_cons (dd_sl (dd_var 0) (do_at (dd_bin op_addU ov_add (dd_var 2) dd_int)) do_no) dx_nil)) (by rfl))
      (dz_one (dz_if (dt_inD (hu_of hr) (dd_var 3) (dd_var 1)) (dz_cons (dz_set (i := 0) nd rfl (.inl rfl) (dd_bin op_addU ov_add (dd_bin op_addU ov_add (dd_sl (dd_var 0) do_no (do_at (dd_var 2))) (dd_ixD (hu_of hr) (dd_var 1) (dd_var 3) (fun _ _ => rfl))) (dd_var 4)))
      (dz_one (dz_set (i := 2) nd rfl (.inl rfl) (dd_call (pe_callB (call_max2 rfl) (by rfl) m_max (by decide +kernel) (dx_cons (dd_bin op_sub ov_sub (dd_var 2) dd_int) (dx_cons dd_int dx_nil))) cv_max)))) (dz_one (dz_set (i := 2) nd rfl (.inl rfl) (dd_bin op_addU ov_add (dd_var 2) dd_int)))))))
      (dz_one (dz_ret (dd_var 0))))))

abbrev s_law_letters : Stmt := topS 23
abbrev N_law_letters : List Str := ["pen", "most", "found", "k", "word", "back", "sign"]
theorem sc_law_letters : FnScope N_law_letters ["pen", "most"] (defScope s_law_letters) := ⟨rfl, rfl, rfl, by decide +kernel, rfl, by decide +kernel, by decide +kernel⟩
theorem ok_law_letters {sp sp_law_draw sp_law_word : DSp} (hb : ∀ {as M Qd Xd}, as.length = 2 → sp as M Qd Xd → d_law_letters sp_law_draw sp_law_word (endsD Qd Xd) (startD 7 as) M)
    (F : Df K mg "_law_letters" s_law_letters ["pen", "most"]) (G_law_draw : Dn P w K mg base "_law_draw" ["pen", "many"] 2 sp_law_draw) (G_law_word : Dn P w K mg base "_law_word" ["pen", "most"] 3 sp_law_word) (m_range : mg "range" = none) : Dn P w K mg base "_law_letters" ["pen", "most"] 4 sp := by
  refine okF F sc_law_letters (by decide) (fun f cdv A outer s H E hr => ⟨d_law_letters sp_law_draw sp_law_word, ?_, fun as M Qd Xd hl h => hb hl h⟩)
  have nd := sc_law_letters.nd
  exact (dz_cons (dz_set (i := 2) nd rfl (.inl rfl) dd_str)
      (dz_cons (dz_for passD rfl (di_r1 (by rfl) m_range (dx_cons (dd_fnD G_law_draw (hr.mono (by decide)) (by rfl) takesD (dx_cons (dd_var 0) (dx_cons (dd_var 1) dx_nil))) dx_nil)) (dg_name (i := 3) nd rfl (.inl rfl)) (dz_one (dz_if (dt_cmp (op_eqU (by exact hr.units)) ov_eq (dd_fnD G_law_draw (hr.mono (by decide)) (by rfl) takesD (dx_cons (dd_var 0) (dx_cons dd_int dx_nil))) dd_int (nomark _)) (dz_cons (dz_set (i := 4) nd rfl (.inl rfl) (dd_fnD G_law_word (hr.mono (by decide)) (by rfl) takesD (dx_cons (dd_var 0) (dx_cons dd_int dx_nil))))
      (dz_cons (dz_set (i := 5) nd rfl (.inl rfl) (dd_mt PySem.F.plainAttrs_str PySem.F.slot_str_join PySem.F.type_str_join mt_joinD mv_join dd_str (dx_cons (dd_lc rfl nd (di_sq (dd_revS (dd_var 4))) (blkOk_by (N := N_law_letters) (sc := defScope s_law_letters) (own := [("sign", 6)]) (by decide +kernel)) rfl (bg_name (j := 6) (by decide)) (fun _ _ _ _ _ => (pg_name (i := 6) nd rfl (.inl rfl))) (fun _ _ _ _ _ => dt_nil) (fun _ _ _ _ _ => (dd_dictIx (hu_of hr) (du_cons dd_str (du_cons dd_str (du_cons dd_str du_nil))) (dd_var 6) rfl rfl (fun z => by cases z) (by decide) (fun _ _ => rfl)))) dx_nil)))
      (dz_one (dz_set (i := 2) nd rfl (.inl rfl) (dd_bin op_addU ov_add (dd_bin op_addU ov_add (dd_var 2) (dd_var 4)) (dd_var 5)))))) (dz_one (dz_set (i := 2) nd rfl (.inl rfl) (dd_bin op_addU ov_add (dd_var 2) (dd_ix ix_seq ov_ix dd_str (dd_fnD G_law_draw (hr.mono (by decide)) (by rfl) takesD (dx_cons (dd_var 0) (dx_cons dd_int dx_nil))) (fun _ _ => rfl))))))))
      (dz_one (dz_ret (dd_var 2)))))

abbrev s_law : Stmt := topS 24
abbrev N_law : List Str := ["script", "pen", "table", "one", "other", "due", "turn", "text", "found", "at", "back", "word"]
theorem sc_law : FnScope N_law ["script"] (defScope s_law) := ⟨rfl, rfl, rfl, by decide +kernel, rfl, by decide +kernel, by decide +kernel⟩
theorem ok_law {sp sp_reduce_word sp_join_words sp_law_reduced sp_law_word sp_inverse_word sp_law_draw sp_law_move sp_move_of sp_law_letters sp_multiply_kinds sp_law_pen : DSp} (hb : ∀ {as M Qd Xd}, as.length = 1 → sp as M Qd Xd → d_law sp_reduce_word sp_join_words sp_law_reduced sp_law_word sp_inverse_word sp_law_draw sp_law_move sp_move_of sp_law_letters sp_multiply_kinds sp_law_pen (endsD Qd Xd) (startD 12 as) M)
    (F : Df K mg "law" s_law ["script"]) (G_reduce_word : Dn P w K mg base "reduce_word" ["word"] 2 sp_reduce_word) (G_join_words : Dn P w K mg base "join_words" ["one", "other"] 3 sp_join_words) (G_law_reduced : Dn P w K mg base "_law_reduced" ["word"] 1 sp_law_reduced) (G_law_word : Dn P w K mg base "_law_word" ["pen", "most"] 3 sp_law_word) (G_inverse_word : Dn P w K mg base "inverse_word" ["word"] 1 sp_inverse_word) (G_law_draw : Dn P w K mg base "_law_draw" ["pen", "many"] 2 sp_law_draw) (G_law_move : Dn P w K mg base "_law_move" ["word"] 3 sp_law_move) (G_move_of : Dn P w K mg base "move_of" ["word"] 3 sp_move_of) (G_law_letters : Dn P w K mg base "_law_letters" ["pen", "most"] 4 sp_law_letters) (G_multiply_kinds : Dn P w K mg base "multiply_kinds" ["one", "other"] 1 sp_multiply_kinds) (G_law_pen : Dn P w K mg base "_law_pen" ["script"] 1 sp_law_pen) (m_range : mg "range" = none) (m_len : mg "len" = none) : Dn P w K mg base "law" ["script"] 5 sp := by
  refine okF F sc_law (by decide) (fun f cdv A outer s H E hr => ⟨d_law sp_reduce_word sp_join_words sp_law_reduced sp_law_word sp_inverse_word sp_law_draw sp_law_move sp_move_of sp_law_letters sp_multiply_kinds sp_law_pen, ?_, fun as M Qd Xd hl h => hb hl h⟩)
  have nd := sc_law.nd
  exact (dz_cons (dz_set (i := 1) nd rfl (.inl rfl) (dd_fnD G_law_pen (hr.mono (by decide)) (by rfl) takesD (dx_cons (dd_var 0) dx_nil)))
      (dz_cons (dz_set (i := 2) nd rfl (.inl rfl) (dd_dispT (kvs := [(["s", "s"], ""), (["r", "r"], "R"), (["R", "R"], "r"), (["r", "R"], ""), (["R", "r"], "")]) (hu_of hr) (pps_cons (pe_tup (pa_cons pe_str (pa_cons pe_str pa_nil))) pe_str (pps_cons (pe_tup (pa_cons pe_str (pa_cons pe_str pa_nil))) pe_str (pps_cons (pe_tup (pa_cons pe_str (pa_cons pe_str pa_nil))) pe_str (pps_cons (pe_tup (pa_cons pe_str (pa_cons pe_str pa_nil))) pe_str (pps_cons (pe_tup (pa_cons pe_str (pa_cons pe_str pa_nil))) pe_str pps_nil))))) rfl rfl (fun z => by cases z) (by decide) (by decide +kernel) (by decide) (by decide)))
      (dz_cons (dz_for passD rfl (di_sq (dd_tup (dx_cons dd_str (dx_cons dd_str (dx_cons dd_str (dx_cons dd_str dx_nil)))))) (dg_name (i := 3) nd rfl (.inl rfl)) (dz_one (dz_for passD rfl (di_sq (dd_tup (dx_cons dd_str (dx_cons dd_str (dx_cons dd_str (dx_cons dd_str dx_nil)))))) (dg_name (i := 4) nd rfl (.inl rfl)) (dz_cons (dz_set (i := 5) nd rfl (.inl rfl) (dd_if (dt_cmp op_in_seq ov_in dd_str (dd_tup (dx_cons (dd_var 3) (dx_cons (dd_var 4) dx_nil))) (by rfl)) (dd_bin op_addU ov_add (dd_var 3) (dd_var 4)) (dd_getT (hu_of hr) (dd_var 2) (dd_tup (dx_cons (dd_var 3) (dx_cons (dd_var 4) dx_nil))) ⟨by rfl, by rfl, by rfl, by rfl⟩)))
      (dz_one (dz_if (dt_cmp (op_neU (by exact hr.units)) ov_ne (dd_fnD G_multiply_kinds (hr.mono (by decide)) (by rfl) takesD (dx_cons (dd_var 3) (dx_cons (dd_var 4) dx_nil))) (dd_var 5) (nomark _)) (dz_one (dz_ret dd_bl)) dz_nil))))))
      (dz_cons (dz_for passD rfl (di_r1 (by rfl) m_range (dx_cons dd_int dx_nil)) (dg_name (i := 6) nd rfl (.inl rfl)) (dz_cons (dz_set (i := 7) nd rfl (.inl rfl) (dd_fnD G_law_letters (hr.mono (by decide)) (by rfl) takesD (dx_cons (dd_var 1) (dx_cons dd_int dx_nil))))
      (dz_cons (dz_set (i := 8) nd rfl (.inl rfl) (dd_fnD G_reduce_word (hr.mono (by decide)) (by rfl) takesD (dx_cons (dd_var 7) dx_nil)))
      (dz_cons (dz_if (PW.pt (dw_or (dt_cmp (op_neU (by exact hr.units)) ov_ne (dd_var 8) (dd_fnD G_law_reduced (hr.mono (by decide)) (by rfl) takesD (dx_cons (dd_var 7) dx_nil)) (nomark _)) (dw_or (dt_cmp (op_neU (by exact hr.units)) ov_ne (dd_fnD G_law_move (hr.mono (by decide)) (by rfl) takesD (dx_cons (dd_var 8) dx_nil)) (dd_fnD G_law_move (hr.mono (by decide)) (by rfl) takesD (dx_cons (dd_var 7) dx_nil)) (nomark _)) (dw_or1 (dt_cmp (op_neU (by exact hr.units)) ov_ne (dd_fnD G_move_of (hr.mono (by decide)) (by rfl) takesD (dx_cons (dd_var 7) dx_nil)) (dd_fnD G_law_move (hr.mono (by decide)) (by rfl) takesD (dx_cons (dd_var 7) dx_nil)) (nomark _)))))) (dz_one (dz_ret dd_bl)) dz_nil)
      (dz_cons (dz_set (i := 9) nd rfl (.inl rfl) (dd_fnD G_law_draw (hr.mono (by decide)) (by rfl) takesD (dx_cons (dd_var 1) (dx_cons (dd_bin op_addU ov_add (dd_call (pe_callB call_lenU (by rfl) m_len (by decide +kernel) (dx_cons (dd_var 7) dx_nil)) cv_len) dd_int) dx_nil))))
      (dz_cons (dz_if (dt_cmp (op_neU (by exact hr.units)) ov_ne (dd_fnD G_join_words (hr.mono (by decide)) (by rfl) takesD (dx_cons (dd_fnD G_reduce_word (hr.mono (by decide)) (by rfl) takesD (dx_cons (dd_sl (dd_var 7) do_no (do_at (dd_var 9))) dx_nil)) (dx_cons (dd_fnD G_reduce_word (hr.mono (by decide)) (by rfl) takesD (dx_cons (dd_sl (dd_var 7) (do_at (dd_var 9)) do_no) dx_nil)) dx_nil))) (dd_var 8) (nomark _)) (dz_one (dz_ret dd_bl)) dz_nil)
      (dz_cons (dz_set (i := 10) nd rfl (.inl rfl) (dd_fnD G_inverse_word (hr.mono (by decide)) (by rfl) takesD (dx_cons (dd_var 8) dx_nil)))
      (dz_cons (dz_if (PW.pt (dw_or (dt_cmp (op_neU (by exact hr.units)) ov_ne (dd_fnD G_join_words (hr.mono (by decide)) (by rfl) takesD (dx_cons (dd_var 8) (dx_cons (dd_var 10) dx_nil))) dd_str (nomark _)) (dw_or (dt_cmp (op_neU (by exact hr.units)) ov_ne (dd_fnD G_join_words (hr.mono (by decide)) (by rfl) takesD (dx_cons (dd_var 10) (dx_cons (dd_var 8) dx_nil))) dd_str (nomark _)) (dw_or1 (dt_cmp (op_neU (by exact hr.units)) ov_ne (dd_fnD G_inverse_word (hr.mono (by decide)) (by rfl) takesD (dx_cons (dd_var 10) dx_nil)) (dd_var 8) (nomark _)))))) (dz_one (dz_ret dd_bl)) dz_nil)
      (dz_cons (dz_par (i := 11) (j := 4) rfl nd rfl rfl (by decide) rfl rfl (dx_cons (dd_fnD G_law_word (hr.mono (by decide)) (by rfl) takesD (dx_cons (dd_var 1) (dx_cons dd_int dx_nil))) (dx_cons (dd_fnD G_law_word (hr.mono (by decide)) (by rfl) takesD (dx_cons (dd_var 1) (dx_cons dd_int dx_nil))) dx_nil)) (by rfl))
      (dz_one (dz_if (PW.pt (dw_or (dt_cmp (op_neU (by exact hr.units)) ov_ne (dd_fnD G_join_words (hr.mono (by decide)) (by rfl) takesD (dx_cons (dd_var 11) (dx_cons (dd_var 4) dx_nil))) (dd_fnD G_law_reduced (hr.mono (by decide)) (by rfl) takesD (dx_cons (dd_bin op_addU ov_add (dd_var 11) (dd_var 4)) dx_nil)) (nomark _)) (dw_or1 (dt_cmp (op_neU (by exact hr.units)) ov_ne (dd_fnD G_reduce_word (hr.mono (by decide)) (by rfl) takesD (dx_cons (dd_var 11) dx_nil)) (dd_var 11) (nomark _))))) (dz_one (dz_ret dd_bl)) dz_nil)))))))))))
      (dz_cons (dz_if (PW.pt (dw_or (dt_cmp (op_neU (by exact hr.units)) ov_ne (dd_fnD G_reduce_word (hr.mono (by decide)) (by rfl) takesD (dx_cons (dd_bin op_mulS ov_mulS dd_str dd_int) dx_nil)) (dd_bin op_mulS ov_mulS dd_str dd_int) (nomark _)) (dw_or1 (dt_cmp (op_neU (by exact hr.units)) ov_ne (dd_fnD G_reduce_word (hr.mono (by decide)) (by rfl) takesD (dx_cons (dd_bin op_addU ov_add (dd_bin op_mulS ov_mulS dd_str dd_int) (dd_bin op_mulS ov_mulS dd_str dd_int)) dx_nil)) dd_str (nomark _))))) (dz_one (dz_ret dd_bl)) dz_nil)
      (dz_one (dz_ret (dd_and (dd_cmp (op_eqU (by exact hr.units)) ov_eq (dd_fnD G_reduce_word (hr.mono (by decide)) (by rfl) takesD (dx_cons (dd_bin op_mulS ov_mulS dd_str dd_int) dx_nil)) dd_str (nomark _)) (dd_and1 (dd_cmp (op_eqU (by exact hr.units)) ov_eq (dd_fnD G_reduce_word (hr.mono (by decide)) (by rfl) takesD (dx_cons (dd_bin op_mulS ov_mulS dd_str dd_int) dx_nil)) dd_str (nomark _)))))))))))

end
def tv_INVERSES : List (Str × Tv) := [("s", .s "s"), ("r", .s "R"), ("R", .s "r")]
def tv_LETTER_MOVES : List (Str × Tv) := [("s", .t [0, 1, -1, 0]), ("r", .t [0, 1, -1, -1]), ("R", .t [1, 1, -1, 0])]
def FA : List He.Fa := [.glo "with_sign", .glo "product", .glo "multiply_kinds", .glo "append_letter", .glo "reduce_word", .glo "join_words", .glo "inverse_word", .glo "move_of", .glo "_law_pen", .glo "_law_fresh", .glo "_law_draw", .glo "_law_word", .glo "_law_signed", .glo "_law_product", .glo "_law_move", .glo "_law_reduced", .glo "_law_letters", .glo "law", .free "tuple", .free "list", .free "range", .free "len", .free "max"]
def FN : List He.DefD := [dfD "with_sign" s_with_sign [], dfD "product" s_product [], dfD "multiply_kinds" s_multiply_kinds [], dfD "append_letter" s_append_letter [], dfD "reduce_word" s_reduce_word [], dfD "join_words" s_join_words [], dfD "inverse_word" s_inverse_word [], dfD "move_of" s_move_of [], dfD "_law_pen" s_law_pen [], dfD "_law_fresh" s_law_fresh [], dfD "_law_draw" s_law_draw [], dfD "_law_word" s_law_word [], dfD "_law_signed" s_law_signed [], dfD "_law_product" s_law_product [], dfD "_law_move" s_law_move [], dfD "_law_reduced" s_law_reduced [], dfD "_law_letters" s_law_letters [], dfD "law" s_law []]
def TS : List He.Tab := [(fun K => He.ga K "INVERSES", ["s", "r", "R"]), (fun K => He.ga K "LETTER_MOVES", ["s", "r", "R"])]
def BS : List (PySem.W.Frag → Bool) := [ktupB "IDENTITY" [1, 0, 0, 1], tabB "INVERSES" tv_INVERSES, tabB "LETTER_MOVES" tv_LETTER_MOVES, (fun K => He.eqO (PySem.W.nsIn K mainGlobals "LETTER_PRODUCTS") (some (some (.ref (He.ga K "LETTER_PRODUCTS")))))]
def TT : List TtT := [(fun K => He.ga K "LETTER_PRODUCTS", kt_LETTER_PRODUCTS)]
def Fin (w : World) (K : PySem.W.Frag) (mg : Str → Option Value) : Prop :=
  Df K mg "with_sign" s_with_sign ["numbers"] ∧
  Df K mg "product" s_product ["first", "then"] ∧
  Df K mg "multiply_kinds" s_multiply_kinds ["one", "other"] ∧
  Df K mg "append_letter" s_append_letter ["letters", "letter"] ∧
  Df K mg "reduce_word" s_reduce_word ["word"] ∧
  Df K mg "join_words" s_join_words ["one", "other"] ∧
  Df K mg "inverse_word" s_inverse_word ["word"] ∧
  Df K mg "move_of" s_move_of ["word"] ∧
  Df K mg "_law_pen" s_law_pen ["script"] ∧
  Df K mg "_law_fresh" s_law_fresh ["pen"] ∧
  Df K mg "_law_draw" s_law_draw ["pen", "many"] ∧
  Df K mg "_law_word" s_law_word ["pen", "most"] ∧
  Df K mg "_law_signed" s_law_signed ["numbers"] ∧
  Df K mg "_law_product" s_law_product ["first", "then"] ∧
  Df K mg "_law_move" s_law_move ["word"] ∧
  Df K mg "_law_reduced" s_law_reduced ["word"] ∧
  Df K mg "_law_letters" s_law_letters ["pen", "most"] ∧
  Df K mg "law" s_law ["script"] ∧
  mg "tuple" = none ∧
  mg "list" = none ∧
  mg "range" = none ∧
  mg "len" = none ∧
  mg "max" = none ∧
  KTTab K w mg "LETTER_PRODUCTS" kt_LETTER_PRODUCTS ∧
  KTab K w mg "INVERSES" kv_INVERSES ∧
  KTab K w mg "LETTER_MOVES" kv_LETTER_MOVES ∧
  KTup K mg "IDENTITY" [1, 0, 0, 1]
theorem fin_mk {K : PySem.W.Frag} {w : World} {h : Heap} {mg : Str → Option Value} (X : K.In h) (G : h.Ns mainGlobals mg) (c : SaysX FA FN TS BS TT w K) : Fin w K mg := by
  refine ⟨?_, ?_, ?_, ?_, ?_, ?_, ?_, ?_, ?_, ?_, ?_, ?_, ?_, ?_, ?_, ?_, ?_, ?_, ?_, ?_, ?_, ?_, ?_, ?_, ?_, ?_, ?_⟩
  · exact df_of (He.glo_ok X G (c.t.d.fact 0 (f := .glo "with_sign") rfl)) (c.t.d.def_ 0 (d := dfD "with_sign" s_with_sign []) rfl) (fun _ _ _ _ _ _ us hl => match us, hl with | [_], _ => rfl)
  · exact df_of (He.glo_ok X G (c.t.d.fact 1 (f := .glo "product") rfl)) (c.t.d.def_ 1 (d := dfD "product" s_product []) rfl) (fun _ _ _ _ _ _ us hl => match us, hl with | [_, _], _ => rfl)
  · exact df_of (He.glo_ok X G (c.t.d.fact 2 (f := .glo "multiply_kinds") rfl)) (c.t.d.def_ 2 (d := dfD "multiply_kinds" s_multiply_kinds []) rfl) (fun _ _ _ _ _ _ us hl => match us, hl with | [_, _], _ => rfl)
  · exact df_of (He.glo_ok X G (c.t.d.fact 3 (f := .glo "append_letter") rfl)) (c.t.d.def_ 3 (d := dfD "append_letter" s_append_letter []) rfl) (fun _ _ _ _ _ _ us hl => match us, hl with | [_, _], _ => rfl)
  · exact df_of (He.glo_ok X G (c.t.d.fact 4 (f := .glo "reduce_word") rfl)) (c.t.d.def_ 4 (d := dfD "reduce_word" s_reduce_word []) rfl) (fun _ _ _ _ _ _ us hl => match us, hl with | [_], _ => rfl)
  · exact df_of (He.glo_ok X G (c.t.d.fact 5 (f := .glo "join_words") rfl)) (c.t.d.def_ 5 (d := dfD "join_words" s_join_words []) rfl) (fun _ _ _ _ _ _ us hl => match us, hl with | [_, _], _ => rfl)
  · exact df_of (He.glo_ok X G (c.t.d.fact 6 (f := .glo "inverse_word") rfl)) (c.t.d.def_ 6 (d := dfD "inverse_word" s_inverse_word []) rfl) (fun _ _ _ _ _ _ us hl => match us, hl with | [_], _ => rfl)
  · exact df_of (He.glo_ok X G (c.t.d.fact 7 (f := .glo "move_of") rfl)) (c.t.d.def_ 7 (d := dfD "move_of" s_move_of []) rfl) (fun _ _ _ _ _ _ us hl => match us, hl with | [_], _ => rfl)
  · exact df_of (He.glo_ok X G (c.t.d.fact 8 (f := .glo "_law_pen") rfl)) (c.t.d.def_ 8 (d := dfD "_law_pen" s_law_pen []) rfl) (fun _ _ _ _ _ _ us hl => match us, hl with | [_], _ => rfl)
  · exact df_of (He.glo_ok X G (c.t.d.fact 9 (f := .glo "_law_fresh") rfl)) (c.t.d.def_ 9 (d := dfD "_law_fresh" s_law_fresh []) rfl) (fun _ _ _ _ _ _ us hl => match us, hl with | [_], _ => rfl)
  · exact df_of (He.glo_ok X G (c.t.d.fact 10 (f := .glo "_law_draw") rfl)) (c.t.d.def_ 10 (d := dfD "_law_draw" s_law_draw []) rfl) (fun _ _ _ _ _ _ us hl => match us, hl with | [_, _], _ => rfl)
  · exact df_of (He.glo_ok X G (c.t.d.fact 11 (f := .glo "_law_word") rfl)) (c.t.d.def_ 11 (d := dfD "_law_word" s_law_word []) rfl) (fun _ _ _ _ _ _ us hl => match us, hl with | [_, _], _ => rfl)
  · exact df_of (He.glo_ok X G (c.t.d.fact 12 (f := .glo "_law_signed") rfl)) (c.t.d.def_ 12 (d := dfD "_law_signed" s_law_signed []) rfl) (fun _ _ _ _ _ _ us hl => match us, hl with | [_], _ => rfl)
  · exact df_of (He.glo_ok X G (c.t.d.fact 13 (f := .glo "_law_product") rfl)) (c.t.d.def_ 13 (d := dfD "_law_product" s_law_product []) rfl) (fun _ _ _ _ _ _ us hl => match us, hl with | [_, _], _ => rfl)
  · exact df_of (He.glo_ok X G (c.t.d.fact 14 (f := .glo "_law_move") rfl)) (c.t.d.def_ 14 (d := dfD "_law_move" s_law_move []) rfl) (fun _ _ _ _ _ _ us hl => match us, hl with | [_], _ => rfl)
  · exact df_of (He.glo_ok X G (c.t.d.fact 15 (f := .glo "_law_reduced") rfl)) (c.t.d.def_ 15 (d := dfD "_law_reduced" s_law_reduced []) rfl) (fun _ _ _ _ _ _ us hl => match us, hl with | [_], _ => rfl)
  · exact df_of (He.glo_ok X G (c.t.d.fact 16 (f := .glo "_law_letters") rfl)) (c.t.d.def_ 16 (d := dfD "_law_letters" s_law_letters []) rfl) (fun _ _ _ _ _ _ us hl => match us, hl with | [_, _], _ => rfl)
  · exact df_of (He.glo_ok X G (c.t.d.fact 17 (f := .glo "law") rfl)) (c.t.d.def_ 17 (d := dfD "law" s_law []) rfl) (fun _ _ _ _ _ _ us hl => match us, hl with | [_], _ => rfl)
  · exact He.free_ok X G (c.t.d.fact 18 (f := .free "tuple") rfl)
  · exact He.free_ok X G (c.t.d.fact 19 (f := .free "list") rfl)
  · exact He.free_ok X G (c.t.d.fact 20 (f := .free "range") rfl)
  · exact He.free_ok X G (c.t.d.fact 21 (f := .free "len") rfl)
  · exact He.free_ok X G (c.t.d.fact 22 (f := .free "max") rfl)
  · exact kttab_of X G (c.b 3 rfl) (c.tt_ 0 (t := (fun K => He.ga K "LETTER_PRODUCTS", kt_LETTER_PRODUCTS)) rfl) (by decide +kernel)
  · exact ktab_of (kvs := tv_INVERSES) X G (c.b 1 rfl) (c.t.tab 0 (t := (fun K => He.ga K "INVERSES", ["s", "r", "R"])) rfl)
  · exact ktab_of (kvs := tv_LETTER_MOVES) X G (c.b 2 rfl) (c.t.tab 1 (t := (fun K => He.ga K "LETTER_MOVES", ["s", "r", "R"])) rfl)
  · exact ktup_of X G (c.b 0 rfl)

theorem law_all {P : Program} {w : World} {K : PySem.W.Frag} {mg : Str → Option Value} {fa : Addr} (hfa : mg "law" = some (.ref fa)) (Z : Fin w K mg) :
    ∃ fd : FuncData, (∀ (s : Shared) (u : Value), BindsTo s fd ⟨[u], []⟩ [("script", u)]) ∧ ∀ base : Heap, K.In base → base.Ns mainGlobals mg → FnG P w K mg base 5 fa fd ["script"] (spD K 1 sp_law) := by
  obtain ⟨F_with_sign, F_product, F_multiply_kinds, F_append_letter, F_reduce_word, F_join_words, F_inverse_word, F_move_of, F_law_pen, F_law_fresh, F_law_draw, F_law_word, F_law_signed, F_law_product, F_law_move, F_law_reduced, F_law_letters, F_law, m_tuple, m_list, m_range, m_len, m_max, t_LETTER_PRODUCTS, t_INVERSES, t_LETTER_MOVES, t_IDENTITY⟩ := Z
  obtain ⟨f0, fd, h1, h2, h3⟩ := id F_law
  rw [hfa] at h1
  cases h1
  refine ⟨fd, fun s u => .of_eq (h3 [u] rfl), fun base _ _ => ?_⟩
  have G_with_sign : Dn P w K mg base "with_sign" ["numbers"] 1 (sp_with_sign) := ok_with_sign b_with_sign F_with_sign  m_tuple
  have G_product : Dn P w K mg base "product" ["first", "then"] 2 (sp_product) := ok_product b_product F_product G_with_sign 
  have G_multiply_kinds : Dn P w K mg base "multiply_kinds" ["one", "other"] 1 (sp_multiply_kinds) := ok_multiply_kinds b_multiply_kinds F_multiply_kinds  t_LETTER_PRODUCTS 
  have G_append_letter : Dn P w K mg base "append_letter" ["letters", "letter"] 1 (sp_append_letter) := ok_append_letter b_append_letter F_append_letter  t_LETTER_PRODUCTS 
  have G_reduce_word : Dn P w K mg base "reduce_word" ["word"] 2 (sp_reduce_word) := ok_reduce_word b_reduce_word F_reduce_word G_append_letter 
  have G_join_words : Dn P w K mg base "join_words" ["one", "other"] 3 (sp_join_words) := ok_join_words b_join_words F_join_words G_reduce_word 
  have G_inverse_word : Dn P w K mg base "inverse_word" ["word"] 1 (sp_inverse_word) := ok_inverse_word b_inverse_word F_inverse_word  t_INVERSES 
  have G_move_of : Dn P w K mg base "move_of" ["word"] 3 (sp_move_of) := ok_move_of b_move_of F_move_of G_product t_LETTER_MOVES t_IDENTITY 
  have G_law_pen : Dn P w K mg base "_law_pen" ["script"] 1 (sp_law_pen) := ok_law_pen b_law_pen F_law_pen  m_list
  have G_law_fresh : Dn P w K mg base "_law_fresh" ["pen"] 1 (sp_law_fresh) := ok_law_fresh b_law_fresh F_law_fresh  m_range m_len
  have G_law_draw : Dn P w K mg base "_law_draw" ["pen", "many"] 2 (sp_law_draw) := ok_law_draw b_law_draw F_law_draw G_law_fresh 
  have G_law_word : Dn P w K mg base "_law_word" ["pen", "most"] 3 (sp_law_word) := ok_law_word b_law_word F_law_word G_law_draw m_len
  have G_law_signed : Dn P w K mg base "_law_signed" ["numbers"] 1 (sp_law_signed) := ok_law_signed b_law_signed F_law_signed  m_tuple
  have G_law_product : Dn P w K mg base "_law_product" ["first", "then"] 2 (sp_law_product) := ok_law_product b_law_product F_law_product G_law_signed 
  have G_law_move : Dn P w K mg base "_law_move" ["word"] 3 (sp_law_move) := ok_law_move b_law_move F_law_move G_law_product 
  have G_law_reduced : Dn P w K mg base "_law_reduced" ["word"] 1 (sp_law_reduced) := ok_law_reduced b_law_reduced F_law_reduced  m_len m_max
  have G_law_letters : Dn P w K mg base "_law_letters" ["pen", "most"] 4 (sp_law_letters) := ok_law_letters b_law_letters F_law_letters G_law_draw G_law_word m_range
  have G_law : Dn P w K mg base "law" ["script"] 5 (sp_law) := ok_law b_law F_law G_reduce_word G_join_words G_law_reduced G_law_word G_inverse_word G_law_draw G_law_move G_move_of G_law_letters G_multiply_kinds G_law_pen m_range m_len
  exact law_fnG G_law.g hfa h2
end K07
open PySem PySem.W PyProof.Rows
noncomputable section
namespace K07
open PySem PySem.Spec L2 DL
abbrev RR : PySem.W.OpenRow := PySem.W.OpenLaw.row PySem.Challenge.rw_fracwalk_k07_words_reduced
abbrev hk : PySem.W.Hook := hookX 5 FA FN TS BS TT
def names : List Str := ["__name__", "IDENTITY", "with_sign", "product", "LETTER_MOVES", "LETTER_PRODUCTS", "INVERSES", "multiply_kinds", "append_letter", "reduce_word", "join_words", "inverse_word", "move_of", "_law_pen", "_law_fresh", "_law_draw", "_law_word", "_law_signed", "_law_product", "_law_move", "_law_reduced", "_law_letters"]
theorem find_true (w : World) : HT.FindEq RR.prog 6 (HT.ftW w true) := by
  intro os
  kernel_rfl
theorem run_true (w : World) : HT.RunEqT RR 6 (PySem.W.view RR.prog [24]) hk (obX 5 FA FN TS BS TT) names (HT.ftW w true) := by
  intro os
  kernel_rfl
theorem find_false (w : World) : HT.FindEq RR.prog 6 (HT.ftW w false) := by
  intro os
  kernel_rfl
theorem run_false (w : World) : HT.RunEqT RR 6 (PySem.W.view RR.prog [24]) hk (obX 5 FA FN TS BS TT) names (HT.ftW w false) := by
  intro os
  kernel_rfl
end K07
end
open PySem PySem.W PyProof.Rows
set_option maxHeartbeats 0 in
theorem PySem.Challenge.cw_fracwalk_k07_words_reduced_holds : PySem.Challenge.rw_fracwalk_k07_words_reduced.Holds := by
  w_on; o_law
  refine HT.head_T (r := OpenLaw.row PySem.Challenge.rw_fracwalk_k07_words_reduced) (i := 6) (q := view (OpenLaw.row PySem.Challenge.rw_fracwalk_k07_words_reduced).prog [24]) (H := K07.hk) (ob := DL.obX 5 K07.FA K07.FN K07.TS K07.BS K07.TT) (loose := K07.names) (d := HandSHeadRun.topDef (OpenLaw.row PySem.Challenge.rw_fracwalk_k07_words_reduced).prog 24) (kwd := []) DL.obX_eq (by kernel_rfl) (fun s => by kernel_rfl) (HT.of_ft K07.find_true K07.find_false) (HT.of_ft K07.run_true K07.run_false) (by kernel_rfl) (by kernel_rfl) (by kernel_rfl) (by rfl) (by first | assumption | decide +kernel) (by decide +kernel) ⟨rfl, rfl, rfl, rfl, rfl, by decide +kernel⟩ ?hw ?hc
  case hw => w_witness2
  case hc =>
    refine DL.walk_DX (l := PySem.Challenge.rw_fracwalk_k07_words_reduced) (n := 63) (k := 5) (x := "script") (sp := K07.sp_law) rfl (by decide) (by kernel_rfl) ⟨rfl, by decide, by decide⟩ ?F (fun ns hl hb => K07.law_true hl hb)
    intro w mg fa h Y G hmg0
    obtain ⟨K, KX, c⟩ := Y
    have hmg : mg ("law" : PySem.Str) = some (.ref fa) := by
      have e : (HandSHeadRun.topDef (OpenLaw.row PySem.Challenge.rw_fracwalk_k07_words_reduced).prog 24).name = ("law" : PySem.Str) := by kernel_rfl
      rw [← e]
      exact hmg0
    exact ⟨K, KX, K07.law_all (P := PySem.Challenge.rw_fracwalk_k07_words_reduced.prog) (w := w) hmg (K07.fin_mk KX G c)⟩


