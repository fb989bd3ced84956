import PyProof.Rows.All
import Wide.All
import OpenK.AllK
import Wide.FinOn
import HandS.ForMost
import HandS.StrMore
import HandS.IsInst
import HandS.Style
import HandS.Flow
import HandS.Walk
import HandS.Zip
import HandS.Defaults
import HandS.TupAny
import HandS.Small
import KE.KStateDown
import HandS.Head0
import HandS.Head1
import HandS.Head2
import HandS.HeadEnd
import HandS.HeadHook1
import HandS.HeadHook2
import HandS.HeadHook3
import HandS.HeadHook4
import HandS.Conv
import HandS.Deep
import HandS.MakeKw
import HandS.OwnEq
import PyProof.Draws
import PyProof.EnumMake
import PySem.Challenge.RW_promptyard_k75_error_texts
set_option Elab.async false
set_option linter.all false
set_option maxRecDepth 100000
set_option maxHeartbeats 1000000
/-! Zf, part 1: data by value, the state of a body, judgements. -/
namespace Zf
open PySem PySem.Spec L2

/-- data by value -/
inductive D where
  | non | bl (b : Bool) | int (i : Int) | str (x : Str) | lst (xs : List D) | tup (xs : List D) | dct (kvs : List (Key × D)) | obj (c : Nat) (fs : List (Str × D)) | scr (ns : List Int)
instance : Inhabited D := ⟨.non⟩

section
variable (K : PySem.W.Frag) (cl : Nat → Addr)
mutual
inductive Rep (I : Hp) : V → D → Prop
  | non : Rep I .non .non
  | bl (b : Bool) : Rep I (.bl b) (.bl b)
  | int (i : Int) : Rep I (.int i) (.int i)
  | str (x : Str) : Rep I (.str x) (.str x)
  | lst {a : Addr} {vs : List V} {ds : List D} : I a = some (.lst vs) → RepL I vs ds → Rep I (.ref a) (.lst ds)
  | tup {a : Addr} {vs : List V} {ds : List D} : SqT K I a vs → RepL I vs ds → Rep I (.ref a) (.tup ds)
  | dct {a : Addr} {vs : List (Key × V)} {ds : List (Key × D)} : I a = some (.dK vs) → RepK I vs ds → Rep I (.ref a) (.dct ds)
  | scr {a : Addr} {ns : List Int} : SqL K I a (ns.map V.int) → Rep I (.ref a) (.scr ns)
  | obj {a dx : Addr} {c : Nat} {vs : List (Str × V)} {ds : List (Str × D)} : I a = some (.ins (cl c) dx vs) → RepF I vs ds → Rep I (.ref a) (.obj c ds)
inductive RepL (I : Hp) : List V → List D → Prop
  | nil : RepL I [] []
  | cons {v : V} {d : D} {vs : List V} {ds : List D} : Rep I v d → RepL I vs ds → RepL I (v :: vs) (d :: ds)
inductive RepK (I : Hp) : List (Key × V) → List (Key × D) → Prop
  | nil : RepK I [] []
  | cons {k : Key} {v : V} {d : D} {vs : List (Key × V)} {ds : List (Key × D)} : Rep I v d → RepK I vs ds → RepK I ((k, v) :: vs) ((k, d) :: ds)
inductive RepF (I : Hp) : List (Str × V) → List (Str × D) → Prop
  | nil : RepF I [] []
  | cons {k : Str} {v : V} {d : D} {vs : List (Str × V)} {ds : List (Str × D)} : Rep I v d → RepF I vs ds → RepF I ((k, v) :: vs) ((k, d) :: ds)
end
end
def Ex (H H' : Hp) : Prop := ∀ a o, H a = some o → H' a = some o
theorem Ex.refl (H : Hp) : Ex H H := fun _ _ h => h
theorem Ex.trans {H H1 H2 : Hp} (a : Ex H H1) (b : Ex H1 H2) : Ex H H2 := fun x o h => b x o (a x o h)
theorem Ex.new {H : Hp} {p : Addr} {o : HO} (h : H p = none) : Ex H (upd H p o) := fun a u e => by
  rw [upd_ne (ne_of_none e h)]
  exact e
theorem Ex.mut {H H' : Hp} {p : Addr} {o : HO} (e : Ex H H') (h : H p = none) : Ex H (upd H' p o) := fun a u ha => by
  rw [upd_ne (ne_of_none ha h)]
  exact e a u ha
theorem Ex.none {H H' : Hp} {p : Addr} (e : Ex H H') (h : H' p = none) : H p = none := by
  cases h1 : H p with
  | none => rfl
  | some o =>
    rw [e p o h1] at h
    cases h
theorem ex_rd {H H' : Hp} {a : Addr} {u : HO} (e : Ex H H') (h : Rd H a u) : Rd H' a u := by
  rcases h with h | ⟨o, h⟩
  · exact Or.inl (e a _ h)
  · exact Or.inr ⟨o, e a _ h⟩
section
variable {K : PySem.W.Frag} {cl : Nat → Addr}
theorem ex_l {H H' : Hp} {a : Addr} {xs : List V} (e : Ex H H') (h : SqL K H a xs) : SqL K H' a xs := by
  rcases h with h | h
  · exact Or.inl (ex_rd e h)
  · exact Or.inr h
theorem ex_t {H H' : Hp} {a : Addr} {xs : List V} (e : Ex H H') (h : SqT K H a xs) : SqT K H' a xs := by
  rcases h with h | h
  · exact Or.inl (ex_rd e h)
  · exact Or.inr h
theorem rl {I H : Hp} {a : Addr} {vs : List V} (h : I a = some (.lst vs)) (e : Ex I H) : SqL K H a vs := .inl (.inl (e _ _ h))
mutual
theorem Rep.ex {I I' : Hp} (e : Ex I I') : ∀ {v : V} {d : D}, Rep K cl I v d → Rep K cl I' v d
  | _, _, .non => .non
  | _, _, .bl b => .bl b
  | _, _, .int i => .int i
  | _, _, .str x => .str x
  | _, _, .lst h r => .lst (e _ _ h) (RepL.ex e r)
  | _, _, .tup h r => .tup (ex_t e h) (RepL.ex e r)
  | _, _, .dct h r => .dct (e _ _ h) (RepK.ex e r)
  | _, _, .obj h r => .obj (e _ _ h) (RepF.ex e r)
  | _, _, .scr h => .scr (ex_l e h)
theorem RepL.ex {I I' : Hp} (e : Ex I I') : ∀ {v : List V} {d : List D}, RepL K cl I v d → RepL K cl I' v d
  | _, _, .nil => .nil
  | _, _, .cons h r => .cons (Rep.ex e h) (RepL.ex e r)
theorem RepK.ex {I I' : Hp} (e : Ex I I') : ∀ {v : List (Key × V)} {d : List (Key × D)}, RepK K cl I v d → RepK K cl I' v d
  | _, _, .nil => .nil
  | _, _, .cons h r => .cons (Rep.ex e h) (RepK.ex e r)
theorem RepF.ex {I I' : Hp} (e : Ex I I') : ∀ {v : List (Str × V)} {d : List (Str × D)}, RepF K cl I v d → RepF K cl I' v d
  | _, _, .nil => .nil
  | _, _, .cons h r => .cons (Rep.ex e h) (RepF.ex e r)
end
/-! lists of data -/
theorem RepL.length {I : Hp} {vs : List V} {ds : List D} (r : RepL K cl I vs ds) : vs.length = ds.length := by
  induction vs generalizing ds with
  | nil => cases r; rfl
  | cons v vs ih =>
    cases r with
    | cons h r => simp [ih r]
theorem RepL.get {I : Hp} {vs : List V} {ds : List D} (r : RepL K cl I vs ds) {i : Nat} {d : D} (h : ds[i]? = some d) : ∃ v, vs[i]? = some v ∧ Rep K cl I v d := by
  induction vs generalizing ds i with
  | nil => cases r; cases h
  | cons v vs ih =>
    cases r with
    | cons h1 r =>
      cases i with
      | zero => cases h; exact ⟨v, rfl, h1⟩
      | succ i => exact ih r (by simpa using h)
theorem RepL.getV {I : Hp} {vs : List V} {ds : List D} (r : RepL K cl I vs ds) {i : Nat} {v : V} (h : vs[i]? = some v) : ∃ d, ds[i]? = some d ∧ Rep K cl I v d := by
  induction vs generalizing ds i with
  | nil => cases h
  | cons w vs ih =>
    cases r with
    | cons h1 r =>
      cases i with
      | zero => cases h; exact ⟨_, rfl, h1⟩
      | succ i => exact ih r (by simpa using h)
theorem RepL.append {I : Hp} {vs ws : List V} {ds es : List D} (r : RepL K cl I vs ds) (q : RepL K cl I ws es) : RepL K cl I (vs ++ ws) (ds ++ es) := by
  induction vs generalizing ds with
  | nil => cases r; exact q
  | cons v vs ih =>
    cases r with
    | cons h r => exact .cons h (ih r)
theorem RepL.take {I : Hp} {vs : List V} {ds : List D} (n : Nat) (r : RepL K cl I vs ds) : RepL K cl I (vs.take n) (ds.take n) := by
  induction n generalizing vs ds with
  | zero => exact .nil
  | succ n ih => cases r with
    | nil => exact .nil
    | cons h r => exact .cons h (ih r)
theorem RepL.drop {I : Hp} {vs : List V} {ds : List D} (n : Nat) (r : RepL K cl I vs ds) : RepL K cl I (vs.drop n) (ds.drop n) := by
  induction n generalizing vs ds with
  | zero => exact r
  | succ n ih => cases r with
    | nil => exact .nil
    | cons h r => exact ih r
theorem RepL.strs {I : Hp} : ∀ (xs : List Str), RepL K cl I (xs.map V.str) (xs.map D.str)
  | [] => .nil
  | x :: xs => .cons (.str x) (RepL.strs xs)
theorem RepL.ints {I : Hp} : ∀ (xs : List Int), RepL K cl I (xs.map V.int) (xs.map D.int)
  | [] => .nil
  | x :: xs => .cons (.int x) (RepL.ints xs)
/-- data that are texts alone -/
def strsD : List D → Option (List Str)
  | [] => some []
  | .str x :: r => (strsD r).map (x :: ·)
  | _ => none
theorem strsD_map : ∀ (xs : List Str), strsD (xs.map D.str) = some xs
  | [] => rfl
  | x :: xs => by simp [strsD, strsD_map xs]
theorem RepL.strsV {I : Hp} {vs : List V} {ds : List D} {xs : List Str} (r : RepL K cl I vs ds) (h : strsD ds = some xs) : vs = xs.map V.str := by
  induction vs generalizing ds xs with
  | nil => cases r; cases h; rfl
  | cons v vs ih =>
    cases r with
    | cons h1 r =>
      cases h1 <;> try (simp [strsD] at h)
      obtain ⟨ys, h2, rfl⟩ := h
      rw [ih r h2]; rfl
def intsD : List D → Option (List Int)
  | [] => some []
  | .int x :: r => (intsD r).map (x :: ·)
  | _ => none
theorem intsD_map : ∀ (xs : List Int), intsD (xs.map D.int) = some xs
  | [] => rfl
  | x :: xs => by simp [intsD, intsD_map xs]
theorem RepL.intsV {I : Hp} {vs : List V} {ds : List D} {xs : List Int} (r : RepL K cl I vs ds) (h : intsD ds = some xs) : vs = xs.map V.int := by
  induction vs generalizing ds xs with
  | nil => cases r; cases h; rfl
  | cons v vs ih =>
    cases r with
    | cons h1 r =>
      cases h1 <;> try (simp [intsD] at h)
      obtain ⟨ys, h2, rfl⟩ := h
      rw [ih r h2]; rfl
def bolsD : List D → Option (List Bool)
  | [] => some []
  | .bl x :: r => (bolsD r).map (x :: ·)
  | _ => none
theorem bolsD_map : ∀ (xs : List Bool), bolsD (xs.map D.bl) = some xs
  | [] => rfl
  | x :: xs => by simp [bolsD, bolsD_map xs]
theorem RepL.bolsV {I : Hp} {vs : List V} {ds : List D} {xs : List Bool} (r : RepL K cl I vs ds) (h : bolsD ds = some xs) : vs = xs.map V.bl := by
  induction vs generalizing ds xs with
  | nil => cases r; cases h; rfl
  | cons v vs ih =>
    cases r with
    | cons h1 r =>
      cases h1 <;> try (simp [bolsD] at h)
      obtain ⟨ys, h2, rfl⟩ := h
      rw [ih r h2]; rfl
end

/-! ### slots -/
/-- the source of draws -/
structure DS where
  A : List Int
  cur : Int
  B : List Int
  cnt : Int
/-- what may change in place -/
inductive Mu where
  | ml (ds : List D) | md (kvs : List (Key × D)) | dr (s : DS) | ob (c : Nat) (fs : List (Str × D))
/-- a slot: nothing known, data that stand still, an object that may change (pin: the caller's) -/
inductive Sl where
  | no | im (d : D) | mu (pin : Bool) (m : Mu)
instance : Inhabited Sl := ⟨.no⟩
abbrev En := List Sl
abbrev MM (α : Type) := En → Option (α × En)
inductive Out where
  | nx (e : En) | rt (d : D) (e : En) | bk (e : En) | ct (e : En)
abbrev SM := En → Option Out
abbrev FM := En → Option (D × En)

section
variable (K : PySem.W.Frag) (cl : Nat → Addr)
def MuR (I H : Hp) (v : V) (fs : List Addr) : Mu → Prop
  | .ml ds => ∃ l vs, v = .ref l ∧ fs = [l] ∧ H l = some (.lst vs) ∧ RepL K cl I vs ds
  | .md kvs => ∃ l vs, v = .ref l ∧ fs = [l] ∧ H l = some (.dK vs) ∧ RepK K cl I vs kvs
  | .dr s => ∃ d a b, v = .ref d ∧ fs = [d, a, b] ∧ d ≠ a ∧ d ≠ b ∧ a ≠ b ∧ H d = some (.lst [.ref a, .int s.cur, .ref b, .int s.cnt]) ∧ H a = some (.lst (s.A.map V.int)) ∧ H b = some (.lst (s.B.map V.int))
  | .ob c ds => ∃ l dx vs, v = .ref l ∧ fs = [l] ∧ H l = some (.ins (cl c) dx vs) ∧ RepF K cl I vs ds
/-- the slots hold what the environment says; fs: the footprint of each -/
structure SlP (I H : Hp) (s : Nat → Option V) (e : Nat → Option Sl) (f : Nat → List Addr) : Prop where
  im : ∀ i d, e i = some (.im d) → ∃ v, s i = some v ∧ Rep K cl I v d
  mu : ∀ i p m, e i = some (.mu p m) → (∃ v, s i = some v ∧ MuR K cl I H v (f i) m) ∧ ∀ a ∈ f i, I a = none
  dj : ∀ i j p m q n a, i ≠ j → e i = some (.mu p m) → e j = some (.mu q n) → a ∈ f i → a ∈ f j → False
/-- a def's frame: the known heap and the heap at its entry, its arguments, their footprints -/
structure Fx where
  I0 : Hp
  H0 : Hp
  vs : List V
  as : En
  af : Nat → List Addr
structure SRx (F : Fx) (I H : Hp) (σ : L2.St) (env : En) (f : Nat → List Addr) (ex : List (Addr × HO)) : Prop where
  sl : SlP K cl I H (fun i => (σ[i]?).join) (fun i => env[i]?) f
  ln : env.length = σ.length
  ih : Ex I H
  ii : Ex F.I0 I
  fr : ∀ a, F.H0 a ≠ none → F.I0 a = none → I a = none
  st : ∀ a o, F.H0 a = some o → (∀ i p m, F.as[i]? = some (.mu p m) → a ∉ F.af i) → H a = some o
  nw : ∀ i p m a, env[i]? = some (.mu p m) → a ∈ f i → F.H0 a = none ∨ ∃ j q n, F.as[j]? = some (.mu q n) ∧ a ∈ F.af j
  pn : ∀ i p m, F.as[i]? = some (.mu p m) → ∃ m', env[i]? = some (.mu true m') ∧ f i = F.af i ∧ (σ[i]?).join = F.vs[i]?
  ex0 : ∀ a ∈ ex, I a.1 = none ∧ H a.1 = some a.2 ∧ F.H0 a.1 = none
  exd : ∀ a ∈ ex, ∀ i p m, env[i]? = some (.mu p m) → a.1 ∉ f i
  exn : (ex.map (·.1)).Nodup
def SR (F : Fx) (I H : Hp) (σ : L2.St) (env : En) (ex : List (Addr × HO)) : Prop := ∃ f, SRx K cl F I H σ env f ex
end
/-- both heaps grow -/
structure Gr (I H I' H' : Hp) : Prop where
  i : Ex I I'
  h : Ex H H'
  ih : Ex I' H'
  fr : ∀ a, H a ≠ none → I a = none → I' a = none
theorem Gr.refl {I H : Hp} (e : Ex I H) : Gr I H I H := ⟨Ex.refl _, Ex.refl _, e, fun _ _ h => h⟩
theorem Gr.trans {I H I1 H1 I2 H2 : Hp} (a : Gr I H I1 H1) (b : Gr I1 H1 I2 H2) : Gr I H I2 H2 :=
  ⟨a.i.trans b.i, a.h.trans b.h, b.ih, fun x h1 h2 => b.fr x (fun z => h1 (a.h.none z)) (a.fr x h1 h2)⟩
/-- a new object that stands still -/
theorem Gr.new {I H : Hp} {p : Addr} {o : HO} (e : Ex I H) (h : H p = none) : Gr I H (upd I p o) (upd H p o) := by
  have hi : I p = none := e.none h
  refine ⟨Ex.new hi, Ex.new h, fun a u => ?_, fun a h1 h2 => ?_⟩
  · by_cases q : a = p
    · rw [q, upd_same, upd_same]; exact id
    · rw [upd_ne q, upd_ne q]; exact e a u
  · have : a ≠ p := fun q => h1 (q ▸ h)
    rw [upd_ne this]; exact h2
section
variable {K : PySem.W.Frag} {cl : Nat → Addr}
theorem MuR.here {I H : Hp} {v : V} {fs : List Addr} {m : Mu} (h : MuR K cl I H v fs m) : ∀ a ∈ fs, H a ≠ none := by
  cases m with
  | ml ds => obtain ⟨l, vs, rfl, rfl, h1, _⟩ := h; intro a ha; simp at ha; subst ha; rw [h1]; simp
  | md ds => obtain ⟨l, vs, rfl, rfl, h1, _⟩ := h; intro a ha; simp at ha; subst ha; rw [h1]; simp
  | dr s =>
    obtain ⟨d, a, b, rfl, rfl, _, _, _, h1, h2, h3⟩ := h
    intro c hc
    simp at hc
    rcases hc with rfl | rfl | rfl
    · rw [h1]; simp
    · rw [h2]; simp
    · rw [h3]; simp
  | ob c ds => obtain ⟨l, dx, vs, rfl, rfl, h1, _⟩ := h; intro a ha; simp at ha; subst ha; rw [h1]; simp
/-- .. where the footprint is kept -/
theorem MuR.kept {I H I' H' : Hp} {v : V} {fs : List Addr} {m : Mu} (h : MuR K cl I H v fs m) (e : Ex I I') (k : ∀ a ∈ fs, H' a = H a) : MuR K cl I' H' v fs m := by
  cases m with
  | ml ds => obtain ⟨l, vs, rfl, rfl, h1, h2⟩ := h; exact ⟨l, vs, rfl, rfl, (k l (by simp)).trans h1, h2.ex e⟩
  | md ds => obtain ⟨l, vs, rfl, rfl, h1, h2⟩ := h; exact ⟨l, vs, rfl, rfl, (k l (by simp)).trans h1, h2.ex e⟩
  | dr s =>
    obtain ⟨d, a, b, rfl, rfl, n1, n2, n3, h1, h2, h3⟩ := h
    exact ⟨d, a, b, rfl, rfl, n1, n2, n3, (k d (by simp)).trans h1, (k a (by simp)).trans h2, (k b (by simp)).trans h3⟩
  | ob c ds => obtain ⟨l, dx, vs, rfl, rfl, h1, h2⟩ := h; exact ⟨l, dx, vs, rfl, rfl, (k l (by simp)).trans h1, RepF.ex e h2⟩
theorem SRx.gr {F : Fx} {I H I' H' : Hp} {σ : L2.St} {env : En} {f : Nat → List Addr} {ex : List (Addr × HO)} (s : SRx K cl F I H σ env f ex) (g : Gr I H I' H') : SRx K cl F I' H' σ env f ex where
  sl := ⟨fun i d h => let ⟨v, h1, h2⟩ := s.sl.im i d h; ⟨v, h1, h2.ex g.i⟩, fun i p m h => by
    obtain ⟨⟨v, h1, h2⟩, h3⟩ := s.sl.mu i p m h
    refine ⟨⟨v, h1, h2.kept g.i fun a ha => ?_⟩, fun a ha => g.fr a (h2.here a ha) (h3 a ha)⟩
    cases q : H a with
    | none => exact absurd q (h2.here a ha)
    | some o => exact g.h a o q, s.sl.dj⟩
  ln := s.ln
  ih := g.ih
  ii := s.ii.trans g.i
  fr := fun a h1 h2 => by
    by_cases z : H a = none
    · exfalso
      by_cases hq : ∃ i p m, F.as[i]? = some (.mu p m) ∧ a ∈ F.af i
      · obtain ⟨i, p, m, h3, h4⟩ := hq
        obtain ⟨m', h5, h6, _⟩ := s.pn i p m h3
        obtain ⟨⟨v, _, h7⟩, _⟩ := s.sl.mu i true m' h5
        exact h7.here a (h6 ▸ h4) z
      · cases e : F.H0 a with
        | none => exact h1 e
        | some o =>
          rw [s.st a o e fun i p m h3 h4 => hq ⟨i, p, m, h3, h4⟩] at z
          cases z
    · exact g.fr a z (s.fr a h1 h2)
  st := fun a o h1 h2 => g.h a o (s.st a o h1 h2)
  nw := s.nw
  pn := s.pn
  ex0 := fun a ha => let ⟨h1, h2, h3⟩ := s.ex0 a ha; ⟨g.fr a.1 (by rw [h2]; simp) h1, g.h _ _ h2, h3⟩
  exd := s.exd
  exn := s.exn
theorem SR.gr {F : Fx} {I H I' H' : Hp} {σ : L2.St} {env : En} {ex : List (Addr × HO)} (s : SR K cl F I H σ env ex) (g : Gr I H I' H') : SR K cl F I' H' σ env ex := let ⟨f, h⟩ := s; ⟨f, h.gr g⟩
theorem SR.ih {F : Fx} {I H : Hp} {σ : L2.St} {env : En} {ex : List (Addr × HO)} (s : SR K cl F I H σ env ex) : Ex I H := let ⟨_, h⟩ := s; h.ih
/-- how an own object is seen when it stands still -/
def Mu.out : Mu → Option D
  | .ml ds => some (.lst ds)
  | .md ds => some (.dct ds)
  | .dr _ => none
  | .ob c fs => some (.obj c fs)
theorem SRx.look {F : Fx} {I H : Hp} {σ : L2.St} {env : En} {f : Nat → List Addr} {ex : List (Addr × HO)} (s : SRx K cl F I H σ env f ex) {i : Nat} {d : D} (h : env[i]? = some (.im d)) : ∃ v, σ[i]? = some (some v) ∧ Rep K cl I v d := by
  obtain ⟨v, h1, h2⟩ := s.sl.im i d h
  cases q : σ[i]? with
  | none => simp [q] at h1
  | some o => simp [q] at h1; subst h1; exact ⟨v, rfl, h2⟩
theorem SRx.lookM {F : Fx} {I H : Hp} {σ : L2.St} {env : En} {f : Nat → List Addr} {ex : List (Addr × HO)} (s : SRx K cl F I H σ env f ex) {i : Nat} {p : Bool} {m : Mu} (h : env[i]? = some (.mu p m)) :
    ∃ v, σ[i]? = some (some v) ∧ MuR K cl I H v (f i) m ∧ ∀ a ∈ f i, I a = none := by
  obtain ⟨⟨v, h1, h2⟩, h3⟩ := s.sl.mu i p m h
  cases q : σ[i]? with
  | none => simp [q] at h1
  | some o => simp [q] at h1; subst h1; exact ⟨v, rfl, h2, h3⟩
/-- a slot takes data that stand still -/
theorem SRx.setIm {F : Fx} {I H : Hp} {σ : L2.St} {env : En} {f : Nat → List Addr} {ex : List (Addr × HO)} (s : SRx K cl F I H σ env f ex) {i : Nat} {d : D} {v : V} (hi : ∀ m, env[i]? ≠ some (.mu true m)) (hl : i < env.length) (r : Rep K cl I v d) :
    SRx K cl F I H (σ.set i (some v)) (env.set i (.im d)) f ex where
  sl := by
    refine ⟨fun j e h => ?_, fun j p m h => ?_, fun j k p m q n a hjk h1 h2 => ?_⟩
    · by_cases q : i = j
      · subst q
        rw [List.getElem?_set_self hl] at h
        cases h
        exact ⟨v, by rw [List.getElem?_set_self (s.ln ▸ hl)]; rfl, r⟩
      · rw [List.getElem?_set_ne q] at h ⊢
        exact s.sl.im j e h
    · by_cases q : i = j
      · subst q; rw [List.getElem?_set_self hl] at h; cases h
      · rw [List.getElem?_set_ne q] at h ⊢
        exact s.sl.mu j p m h
    · have g : ∀ {j : Nat} {p : Bool} {m : Mu}, (env.set i (.im d))[j]? = some (Sl.mu p m) → env[j]? = some (Sl.mu p m) := fun {j p m} h => by
        by_cases q : i = j
        · subst q; rw [List.getElem?_set_self hl] at h; cases h
        · rwa [List.getElem?_set_ne q] at h
      exact s.sl.dj j k p m q n a hjk (g h1) (g h2)
  ln := by simp [s.ln]
  ih := s.ih
  ii := s.ii
  fr := s.fr
  st := s.st
  nw := fun j p m a h => by
    by_cases q : i = j
    · subst q; rw [List.getElem?_set_self hl] at h; cases h
    · rw [List.getElem?_set_ne q] at h; exact s.nw j p m a h
  pn := fun j p m h => by
    obtain ⟨m', h1, h2, h3⟩ := s.pn j p m h
    have q : i ≠ j := fun q => hi m' (q ▸ h1)
    exact ⟨m', by rw [List.getElem?_set_ne q]; exact h1, h2, by rw [List.getElem?_set_ne q]; exact h3⟩
  ex0 := s.ex0
  exd := fun a ha j p m h => by
    by_cases q : i = j
    · subst q; rw [List.getElem?_set_self hl] at h; cases h
    · rw [List.getElem?_set_ne q] at h; exact s.exd a ha j p m h
  exn := s.exn
/-- a slot is forgotten -/
theorem SRx.setNo {F : Fx} {I H : Hp} {σ : L2.St} {env : En} {f : Nat → List Addr} {ex : List (Addr × HO)} (s : SRx K cl F I H σ env f ex) {i : Nat} {o : Option V} (hi : ∀ m, env[i]? ≠ some (.mu true m)) :
    SRx K cl F I H (σ.set i o) (env.set i .no) f ex where
  sl := by
    refine ⟨fun j e h => ?_, fun j p m h => ?_, fun j k p m q n a hjk h1 h2 => ?_⟩
    · by_cases q : i = j
      · subst q
        by_cases hl : i < env.length
        · rw [List.getElem?_set_self hl] at h; cases h
        · rw [List.getElem?_eq_none (by simpa using hl)] at h; cases h
      · rw [List.getElem?_set_ne q] at h ⊢
        exact s.sl.im j e h
    · by_cases q : i = j
      · subst q
        by_cases hl : i < env.length
        · rw [List.getElem?_set_self hl] at h; cases h
        · rw [List.getElem?_eq_none (by simpa using hl)] at h; cases h
      · rw [List.getElem?_set_ne q] at h ⊢
        exact s.sl.mu j p m h
    · have g : ∀ {j : Nat} {p : Bool} {m : Mu}, (env.set i .no)[j]? = some (Sl.mu p m) → env[j]? = some (Sl.mu p m) := fun {j p m} h => by
        by_cases q : i = j
        · subst q
          by_cases hl : i < env.length
          · rw [List.getElem?_set_self hl] at h; cases h
          · rw [List.getElem?_eq_none (by simpa using hl)] at h; cases h
        · rwa [List.getElem?_set_ne q] at h
      exact s.sl.dj j k p m q n a hjk (g h1) (g h2)
  ln := by simp [s.ln]
  ih := s.ih
  ii := s.ii
  fr := s.fr
  st := s.st
  nw := fun j p m a h => by
    by_cases q : i = j
    · subst q
      by_cases hl : i < env.length
      · rw [List.getElem?_set_self hl] at h; cases h
      · rw [List.getElem?_eq_none (by simpa using hl)] at h; cases h
    · rw [List.getElem?_set_ne q] at h; exact s.nw j p m a h
  pn := fun j p m h => by
    obtain ⟨m', h1, h2, h3⟩ := s.pn j p m h
    have q : i ≠ j := fun q => hi m' (q ▸ h1)
    exact ⟨m', by rw [List.getElem?_set_ne q]; exact h1, h2, by rw [List.getElem?_set_ne q]; exact h3⟩
  ex0 := s.ex0
  exd := fun a ha j p m h => by
    by_cases q : i = j
    · subst q
      by_cases hl : i < env.length
      · rw [List.getElem?_set_self hl] at h; cases h
      · rw [List.getElem?_eq_none (by simpa using hl)] at h; cases h
    · rw [List.getElem?_set_ne q] at h; exact s.exd a ha j p m h
  exn := s.exn
/-- an own object of one cell stands still from now on -/
theorem SRx.freeze {F : Fx} {I H : Hp} {σ : L2.St} {env : En} {f : Nat → List Addr} {ex : List (Addr × HO)} (s : SRx K cl F I H σ env f ex) {i : Nat} {m : Mu} {d : D} (h : env[i]? = some (.mu false m)) (ho : m.out = some d) :
    ∃ v I', σ[i]? = some (some v) ∧ Ex I I' ∧ Rep K cl I' v d ∧ SRx K cl F I' H σ (env.set i (.im d)) f ex := by
  obtain ⟨v, hv, hm, hn⟩ := s.lookM h
  have key : ∃ l o, v = .ref l ∧ f i = [l] ∧ H l = some o ∧ (∀ I', Ex I I' → I' l = some o → Rep K cl I' v d) := by
    cases m with
    | ml ds =>
      obtain ⟨l, vs, rfl, h1, h2, h3⟩ := hm
      cases ho
      exact ⟨l, _, rfl, h1, h2, fun I' e z => .lst z (h3.ex e)⟩
    | md ds =>
      obtain ⟨l, vs, rfl, h1, h2, h3⟩ := hm
      cases ho
      exact ⟨l, _, rfl, h1, h2, fun I' e z => .dct z (h3.ex e)⟩
    | dr s => cases ho
    | ob c fs =>
      obtain ⟨l, dx, vs, rfl, h1, h2, h3⟩ := hm
      cases ho
      exact ⟨l, _, rfl, h1, h2, fun I' e z => .obj z (RepF.ex e h3)⟩
  obtain ⟨l, o, rfl, hf, hl, hr⟩ := key
  have il : I l = none := hn l (by rw [hf]; simp)
  have hlen : i < env.length := (List.getElem?_eq_some_iff.mp h).1
  have e1 : Ex I (upd I l o) := Ex.new il
  have r1 : Rep K cl (upd I l o) (.ref l) d := hr _ e1 upd_same
  have nl : ∀ j p n, env[j]? = some (.mu p n) → j ≠ i → l ∉ f j := fun j p n h1 h2 h3 => s.sl.dj j i p n false m l h2 h1 h h3 (by rw [hf]; simp)
  have hH0 : F.H0 l = none := by
    rcases s.nw i false m l h (by rw [hf]; simp) with z | ⟨j, q, n, h1, h2⟩
    · exact z
    · obtain ⟨m', h3, h4, _⟩ := s.pn j q n h1
      by_cases hj : j = i
      · subst hj; rw [h] at h3; cases h3
      · exact absurd (h4 ▸ h2) (nl j true m' h3 hj)
  have fresh : ∀ a, a ≠ l → I a = none → upd I l o a = none := fun a h1 h2 => by rw [upd_ne h1]; exact h2
  have g : ∀ {j : Nat} {p : Bool} {n : Mu}, (env.set i (.im d))[j]? = some (Sl.mu p n) → env[j]? = some (Sl.mu p n) ∧ j ≠ i := fun {j p n} h => by
    by_cases q : i = j
    · subst q; rw [List.getElem?_set_self hlen] at h; cases h
    · rw [List.getElem?_set_ne q] at h; exact ⟨h, Ne.symm q⟩
  refine ⟨.ref l, upd I l o, hv, e1, r1, ?_⟩
  refine ⟨⟨fun j e h1 => ?_, fun j p n h1 => ?_, fun j k p n q n' a hjk h1 h2 => s.sl.dj j k p n q n' a hjk (g h1).1 (g h2).1⟩, by simp [s.ln], fun a u h1 => ?_, s.ii.trans e1, fun a h1 h2 => ?_, s.st, fun j p n a h1 h2 => s.nw j p n a (g h1).1 h2, fun j p n h1 => ?_, fun a ha => ?_, fun a ha j p n h1 => s.exd a ha j p n (g h1).1, s.exn⟩
  · by_cases q : i = j
    · subst q
      rw [List.getElem?_set_self hlen] at h1
      cases h1
      exact ⟨.ref l, by rw [hv]; rfl, r1⟩
    · rw [List.getElem?_set_ne q] at h1
      obtain ⟨u, h2, h3⟩ := s.sl.im j e h1
      exact ⟨u, h2, h3.ex e1⟩
  · obtain ⟨h2, h3⟩ := g h1
    obtain ⟨⟨u, h4, h5⟩, h6⟩ := s.sl.mu j p n h2
    exact ⟨⟨u, h4, h5.kept e1 fun _ _ => rfl⟩, fun a ha => fresh a (fun q => nl j p n h2 h3 (q ▸ ha)) (h6 a ha)⟩
  · by_cases q : a = l
    · rw [q, upd_same] at h1; rw [q, hl]; exact h1
    · rw [upd_ne q] at h1; exact s.ih a u h1
  · have q : a ≠ l := fun q => h1 (q ▸ hH0)
    exact fresh a q (s.fr a h1 h2)
  · obtain ⟨m', h2, h3, h4⟩ := s.pn j p n h1
    have q : i ≠ j := fun q => by subst q; rw [h] at h2; cases h2
    exact ⟨m', by rw [List.getElem?_set_ne q]; exact h2, h3, h4⟩
  · obtain ⟨h1, h2, h3⟩ := s.ex0 a ha
    exact ⟨fresh a.1 (fun q => s.exd a ha i false m h (by rw [hf, q]; simp)) h1, h2, h3⟩
/-- an extra own list becomes a slot's own -/
theorem SRx.setOwn {F : Fx} {I H : Hp} {σ : L2.St} {env : En} {f : Nat → List Addr} {ex : List (Addr × HO)} {l : Addr} {o : HO} (s : SRx K cl F I H σ env f ((l, o) :: ex)) {i : Nat} {m : Mu} (hi : ∀ m, env[i]? ≠ some (.mu true m)) (hl : i < env.length)
    (r : MuR K cl I H (.ref l) [l] m) : SRx K cl F I H (σ.set i (some (.ref l))) (env.set i (.mu false m)) (fun j => if j = i then [l] else f j) ex := by
  obtain ⟨il, hll, h0⟩ := s.ex0 (l, o) (by simp)
  have nl := s.exd (l, o) (by simp)
  have hx : ∀ a ∈ ex, a.1 ≠ l := fun a ha q => (List.nodup_cons.mp s.exn).1 (List.mem_map.mpr ⟨a, ha, q⟩)
  have g : ∀ {j : Nat} {p : Bool} {n : Mu}, (env.set i (.mu false m))[j]? = some (Sl.mu p n) → j ≠ i → env[j]? = some (Sl.mu p n) := fun {j p n} h q => by
    rw [List.getElem?_set_ne (Ne.symm q)] at h; exact h
  refine ⟨⟨fun j e h => ?_, fun j p n h => ?_, fun j k p n q n' a hjk h1 h2 h3 h4 => ?_⟩, by simp [s.ln], s.ih, s.ii, s.fr, s.st, fun j p n a h h1 => ?_, fun j p n h => ?_, fun a ha => s.ex0 a (by simp [ha]), fun a ha j p n h => ?_, (List.nodup_cons.mp s.exn).2⟩
  · by_cases q : i = j
    · subst q; rw [List.getElem?_set_self hl] at h; cases h
    · rw [List.getElem?_set_ne q] at h ⊢; exact s.sl.im j e h
  · by_cases q : j = i
    · subst q
      rw [List.getElem?_set_self hl] at h
      cases h
      refine ⟨⟨.ref l, by rw [List.getElem?_set_self (s.ln ▸ hl)]; rfl, by rw [if_pos rfl]; exact r⟩, fun a ha => ?_⟩
      rw [if_pos rfl] at ha
      simp at ha
      rw [ha]; exact il
    · have h1 := g h q
      obtain ⟨⟨u, h4, h5⟩, h6⟩ := s.sl.mu j p n h1
      exact ⟨⟨u, by rw [List.getElem?_set_ne (Ne.symm q)]; exact h4, by rw [if_neg q]; exact h5⟩, by rw [if_neg q]; exact h6⟩
  · by_cases q1 : j = i
    · by_cases q2 : k = i
      · exact hjk (q1.trans q2.symm)
      · rw [if_pos q1] at h3; rw [if_neg q2] at h4
        simp at h3
        exact nl k q n' (g h2 q2) (h3 ▸ h4)
    · rw [if_neg q1] at h3
      by_cases q2 : k = i
      · rw [if_pos q2] at h4
        simp at h4
        exact nl j p n (g h1 q1) (h4 ▸ h3)
      · rw [if_neg q2] at h4
        exact s.sl.dj j k p n q n' a hjk (g h1 q1) (g h2 q2) h3 h4
  · by_cases q : j = i
    · rw [if_pos q] at h1
      simp at h1
      rw [h1]; exact .inl h0
    · rw [if_neg q] at h1
      exact s.nw j p n a (g h q) h1
  · obtain ⟨m', h1, h2, h3⟩ := s.pn j p n h
    have q : i ≠ j := fun q => hi m' (q ▸ h1)
    exact ⟨m', by rw [List.getElem?_set_ne q]; exact h1, by rw [if_neg (Ne.symm q)]; exact h2, by rw [List.getElem?_set_ne q]; exact h3⟩
  · by_cases q : j = i
    · rw [if_pos q]
      simp
      exact hx a ha
    · rw [if_neg q]
      exact s.exd a (by simp [ha]) j p n (g h q)
/-- an own object changes in place -/
theorem SRx.change {F : Fx} {I H H' : Hp} {σ : L2.St} {env : En} {f : Nat → List Addr} {ex : List (Addr × HO)} (s : SRx K cl F I H σ env f ex) {i : Nat} {p : Bool} {m m' : Mu} (h : env[i]? = some (.mu p m))
    (k : ∀ a, a ∉ f i → H' a = H a) (r : ∀ v, σ[i]? = some (some v) → MuR K cl I H' v (f i) m') : SRx K cl F I H' σ (env.set i (.mu p m')) f ex := by
  have hlen : i < env.length := (List.getElem?_eq_some_iff.mp h).1
  obtain ⟨v, hv, hm, hn⟩ := s.lookM h
  have g : ∀ {j : Nat} {q : Bool} {n : Mu}, (env.set i (.mu p m'))[j]? = some (Sl.mu q n) → ∃ n', env[j]? = some (Sl.mu q n') ∧ (j ≠ i → n' = n) := fun {j q n} h1 => by
    by_cases z : i = j
    · subst z; rw [List.getElem?_set_self hlen] at h1; cases h1; exact ⟨m, h, fun z => absurd rfl z⟩
    · rw [List.getElem?_set_ne z] at h1; exact ⟨n, h1, fun _ => rfl⟩
  have off : ∀ a o, I a = some o → a ∉ f i := fun a o h1 h2 => by rw [hn a h2] at h1; cases h1
  refine ⟨⟨fun j e h1 => ?_, fun j q n h1 => ?_, fun j k q n q' n' a hjk h1 h2 => ?_⟩, by simp [s.ln], fun a o h1 => by rw [k a (off a o h1)]; exact s.ih a o h1, s.ii, s.fr, fun a o h1 h2 => ?_, fun j q n a h1 h2 => ?_, fun j q n h1 => ?_, fun a ha => ?_, fun a ha j q n h1 => ?_, s.exn⟩
  · by_cases z : i = j
    · subst z; rw [List.getElem?_set_self hlen] at h1; cases h1
    · rw [List.getElem?_set_ne z] at h1; exact s.sl.im j e h1
  · obtain ⟨n', h2, h3⟩ := g h1
    by_cases z : j = i
    · subst z
      rw [List.getElem?_set_self hlen] at h1
      cases h1
      exact ⟨⟨v, by rw [hv]; rfl, r v hv⟩, hn⟩
    · cases h3 z
      obtain ⟨⟨u, h4, h5⟩, h6⟩ := s.sl.mu j q _ h2
      exact ⟨⟨u, h4, h5.kept (Ex.refl _) fun a ha => k a fun hb => s.sl.dj j i q _ p m a z h2 h ha hb⟩, h6⟩
  · obtain ⟨_, h3, _⟩ := g h1
    obtain ⟨_, h4, _⟩ := g h2
    exact s.sl.dj j k q _ q' _ a hjk h3 h4
  · rw [k a fun hb => ?_]
    · exact s.st a o h1 h2
    · rcases s.nw i p m a h hb with z | ⟨j, q, n, h3, h4⟩
      · rw [z] at h1; cases h1
      · exact h2 j q n h3 h4
  · obtain ⟨n', h3, _⟩ := g h1
    exact s.nw j q n' a h3 h2
  · obtain ⟨n', h2, h3, h4⟩ := s.pn j q n h1
    by_cases z : i = j
    · subst z
      rw [h] at h2
      cases h2
      exact ⟨m', by rw [List.getElem?_set_self hlen], h3, h4⟩
    · exact ⟨n', by rw [List.getElem?_set_ne z]; exact h2, h3, h4⟩
  · obtain ⟨h1, h2, h3⟩ := s.ex0 a ha
    exact ⟨h1, by rw [k a.1 (s.exd a ha i p m h)]; exact h2, h3⟩
  · obtain ⟨n', h2, _⟩ := g h1
    exact s.exd a ha j q n' h2
end
end Zf

set_option Elab.async false
set_option linter.all false
set_option maxRecDepth 100000
set_option maxHeartbeats 1000000
/-! Zf, part 2: judgements and rules. -/
namespace Zf
open PySem PySem.Spec L2
section
variable {K : PySem.W.Frag} {cl : Nat → Addr}
/-! ### extra own objects -/
theorem SRx.fresh0 {F : Fx} {I H : Hp} {σ : L2.St} {env : En} {f : Nat → List Addr} {ex : List (Addr × HO)} (s : SRx K cl F I H σ env f ex) {p : Addr} (h : H p = none) : F.H0 p = none := by
  cases e : F.H0 p with
  | none => rfl
  | some o =>
    exfalso
    by_cases hq : ∃ i q m, F.as[i]? = some (.mu q m) ∧ p ∈ F.af i
    · obtain ⟨i, q, m, h3, h4⟩ := hq
      obtain ⟨m', h5, h6, _⟩ := s.pn i q m h3
      obtain ⟨⟨v, _, h7⟩, _⟩ := s.sl.mu i true m' h5
      exact h7.here p (h6 ▸ h4) h
    · rw [s.st p o e fun i q m h3 h4 => hq ⟨i, q, m, h3, h4⟩] at h
      cases h
/-- a new own object -/
theorem SRx.alloc {F : Fx} {I H : Hp} {σ : L2.St} {env : En} {f : Nat → List Addr} {ex : List (Addr × HO)} (s : SRx K cl F I H σ env f ex) {p : Addr} {o : HO} (h : H p = none) : SRx K cl F I (upd H p o) σ env f ((p, o) :: ex) := by
  have hi : I p = none := s.ih.none h
  have keep : ∀ a, H a ≠ none → upd H p o a = H a := fun a z => upd_ne fun q => z (q ▸ h)
  refine ⟨⟨s.sl.im, fun i q m e => ?_, s.sl.dj⟩, s.ln, s.ih.mut hi, s.ii, s.fr, fun a u e n => ?_, s.nw, s.pn, fun a ha => ?_, fun a ha i q m e z => ?_, List.nodup_cons.mpr ⟨fun z => ?_, s.exn⟩⟩
  · obtain ⟨⟨v, h1, h2⟩, h3⟩ := s.sl.mu i q m e
    exact ⟨⟨v, h1, h2.kept (Ex.refl _) fun a ha => keep a (h2.here a ha)⟩, h3⟩
  · have := s.st a u e n
    rw [keep a (by rw [this]; simp)]
    exact this
  · rcases List.mem_cons.mp ha with rfl | ha
    · exact ⟨hi, upd_same, s.fresh0 h⟩
    · obtain ⟨h1, h2, h3⟩ := s.ex0 a ha
      exact ⟨h1, by rw [keep a.1 (by rw [h2]; simp)]; exact h2, h3⟩
  · rcases List.mem_cons.mp ha with rfl | ha
    · obtain ⟨⟨v, h1, h2⟩, h3⟩ := s.sl.mu i q m e
      exact h2.here _ z h
    · exact s.exd a ha i q m e z
  · obtain ⟨a, ha, e⟩ := List.mem_map.mp z
    have e : a.1 = p := e
    have := (s.ex0 a ha).2.1
    rw [e, h] at this
    cases this
/-- an extra own object changes -/
theorem SRx.exSet {F : Fx} {I H : Hp} {σ : L2.St} {env : En} {f : Nat → List Addr} {ex : List (Addr × HO)} {p : Addr} {o o' : HO} (s : SRx K cl F I H σ env f ((p, o) :: ex)) : SRx K cl F I (upd H p o') σ env f ((p, o') :: ex) := by
  obtain ⟨hi, hh, h0⟩ := s.ex0 (p, o) (by simp)
  refine ⟨⟨s.sl.im, fun i q m e => ?_, s.sl.dj⟩, s.ln, s.ih.mut hi, s.ii, s.fr, fun a u e n => ?_, s.nw, s.pn, fun a ha => ?_, fun a ha i q m e => ?_, s.exn⟩
  · obtain ⟨⟨v, h1, h2⟩, h3⟩ := s.sl.mu i q m e
    exact ⟨⟨v, h1, h2.kept (Ex.refl _) fun a ha => upd_ne fun z => s.exd (p, o) (by simp) i q m e (z ▸ ha)⟩, h3⟩
  · rw [upd_ne fun z => by rw [z, h0] at e; cases e]
    exact s.st a u e n
  · rcases List.mem_cons.mp ha with rfl | ha
    · exact ⟨hi, upd_same, h0⟩
    · obtain ⟨h1, h2, h3⟩ := s.ex0 a (by simp [ha])
      refine ⟨h1, ?_, h3⟩
      rw [upd_ne fun z => (List.nodup_cons.mp s.exn).1 (List.mem_map.mpr ⟨a, ha, z⟩)]
      exact h2
  · rcases List.mem_cons.mp ha with rfl | ha
    · exact s.exd (p, o) (by simp) i q m e
    · exact s.exd a (by simp [ha]) i q m e
/-- .. stands still from now on -/
theorem SRx.exFreeze {F : Fx} {I H : Hp} {σ : L2.St} {env : En} {f : Nat → List Addr} {ex : List (Addr × HO)} {p : Addr} {o : HO} (s : SRx K cl F I H σ env f ((p, o) :: ex)) : Ex I (upd I p o) ∧ SRx K cl F (upd I p o) H σ env f ex := by
  obtain ⟨hi, hh, h0⟩ := s.ex0 (p, o) (by simp)
  have hh : H p = some o := hh
  have hx : ∀ a ∈ ex, a.1 ≠ p := fun a ha q => (List.nodup_cons.mp s.exn).1 (List.mem_map.mpr ⟨a, ha, q⟩)
  have e1 : Ex I (upd I p o) := Ex.new hi
  have fresh : ∀ a, a ≠ p → I a = none → upd I p o a = none := fun a h1 h2 => by rw [upd_ne h1]; exact h2
  refine ⟨e1, ⟨fun i d e => let ⟨v, h1, h2⟩ := s.sl.im i d e; ⟨v, h1, h2.ex e1⟩, fun i q m e => ?_, s.sl.dj⟩, s.ln, fun a u e => ?_, s.ii.trans e1, fun a h1 h2 => fresh a (fun z => h1 (z ▸ h0)) (s.fr a h1 h2), s.st, s.nw, s.pn, fun a ha => ?_, fun a ha => s.exd a (by simp [ha]), (List.nodup_cons.mp s.exn).2⟩
  · obtain ⟨⟨v, h1, h2⟩, h3⟩ := s.sl.mu i q m e
    exact ⟨⟨v, h1, h2.kept e1 fun _ _ => rfl⟩, fun a ha => fresh a (fun z => s.exd (p, o) (by simp) i q m e (z ▸ ha)) (h3 a ha)⟩
  · by_cases q : a = p
    · rw [q, upd_same] at e; rw [q, hh]; exact e
    · rw [upd_ne q] at e; exact s.ih a u e
  · obtain ⟨h1, h2, h3⟩ := s.ex0 a (by simp [ha])
    exact ⟨fresh a.1 (hx a ha) h1, h2, h3⟩
theorem SRx.exSub {F : Fx} {I H : Hp} {σ : L2.St} {env : En} {f : Nat → List Addr} {ex ex' : List (Addr × HO)} (s : SRx K cl F I H σ env f ex) (h : ∀ a ∈ ex', a ∈ ex) (n : (ex'.map (·.1)).Nodup) : SRx K cl F I H σ env f ex' :=
  ⟨s.sl, s.ln, s.ih, s.ii, s.fr, s.st, s.nw, s.pn, fun a ha => s.ex0 a (h a ha), fun a ha => s.exd a (h a ha), n⟩
end
/-! ### readings -/
section
variable (K : PySem.W.Frag) (cl : Nat → Addr)
def tM (m : MM D) : TE := fun σ H Q => ∃ F I env ex d env', SR K cl F I H σ env ex ∧ m env = some (d, env') ∧ ∀ v I' H', SR K cl F I' H' σ env' ex → Ex I I' → Rep K cl I' v d → Q v H'
/-- a new list -/
def tF (m : MM (List D)) : TE := fun σ H Q => ∃ F I env ex ds env', SR K cl F I H σ env ex ∧ m env = some (ds, env') ∧ ∀ p vs I' H', SR K cl F I' H' σ env' ((p, .lst vs) :: ex) → Ex I I' → RepL K cl I' vs ds → Q (.ref p) H'
def tBo (m : MM Bool) : TT := fun σ H Q => ∃ F I env ex b env', SR K cl F I H σ env ex ∧ m env = some (b, env') ∧ ∀ I' H', SR K cl F I' H' σ env' ex → Ex I I' → Q b H'
def tL (m : MM (List D)) : TA := fun σ H Q => ∃ F I env ex ds env', SR K cl F I H σ env ex ∧ m env = some (ds, env') ∧ ∀ vs I' H', SR K cl F I' H' σ env' ex → Ex I I' → RepL K cl I' vs ds → Q vs H'
def Post (F : Fx) (I : Hp) (ex : List (Addr × HO)) (Dn : Ends) : Out → Prop
  | .nx env' => ∀ σ' I' H', SR K cl F I' H' σ' env' ex → Ex I I' → Dn.nx σ' H'
  | .bk env' => ∀ σ' I' H', SR K cl F I' H' σ' env' ex → Ex I I' → Dn.bk σ' H'
  | .ct env' => ∀ σ' I' H', SR K cl F I' H' σ' env' ex → Ex I I' → Dn.ct σ' H'
  | .rt d env' => ∀ v σ' I' H', SR K cl F I' H' σ' env' ex → Ex I I' → Rep K cl I' v d → Dn.rt v H'
def tS (m : SM) : TS := fun Dn σ H => ∃ F I env ex out, SR K cl F I H σ env ex ∧ m env = some out ∧ Post K cl F I ex Dn out
end
theorem Post.ex {K : PySem.W.Frag} {cl : Nat → Addr} {F : Fx} {I I1 : Hp} {ex : List (Addr × HO)} {Dn : Ends} {o : Out} (h : Post K cl F I ex Dn o) (e : Ex I I1) : Post K cl F I1 ex Dn o := by
  cases o with
  | nx env' => exact fun σ' I' H' s e' => h σ' I' H' s (e.trans e')
  | bk env' => exact fun σ' I' H' s e' => h σ' I' H' s (e.trans e')
  | ct env' => exact fun σ' I' H' s e' => h σ' I' H' s (e.trans e')
  | rt d env' => exact fun v σ' I' H' s e' => h v σ' I' H' s (e.trans e')
abbrev EM (X : Cx) (cl : Nat → Addr) (e : Expr) (m : MM D) : Prop := PE X e (tM X.K cl m)
abbrev EF (X : Cx) (cl : Nat → Addr) (e : Expr) (m : MM (List D)) : Prop := PE X e (tF X.K cl m)
abbrev EB (X : Cx) (cl : Nat → Addr) (e : Expr) (m : MM Bool) : Prop := PT X e (tBo X.K cl m)
abbrev EW (X : Cx) (cl : Nat → Addr) (e : Expr) (m : MM Bool) : Prop := PW X e (tBo X.K cl m)
abbrev EA (X : Cx) (cl : Nat → Addr) (es : List Expr) (m : MM (List D)) : Prop := PA X es (tL X.K cl m)
abbrev ES (X : Cx) (cl : Nat → Addr) (s : Stmt) (m : SM) : Prop := PS X s (tS X.K cl m)
abbrev ESs (X : Cx) (cl : Nat → Addr) (s : List Stmt) (m : SM) : Prop := PSs X s (tS X.K cl m)
section
variable {X : Cx} {e : Expr} {es : List Expr} {s : Stmt} {ss : List Stmt}
theorem _root_.L2.PE.zi {t t' : TE} (h : PE X e t) (hi : ∀ σ H Q, t' σ H Q → t σ H Q) : PE X e t' := ⟨fun pins s σ H Q I hw => h.run pins s σ H Q I (hi σ H Q hw)⟩
theorem _root_.L2.PT.zi {t t' : TT} (h : PT X e t) (hi : ∀ σ H Q, t' σ H Q → t σ H Q) : PT X e t' := ⟨fun pins s σ H Q I hw => h.run pins s σ H Q I (hi σ H Q hw)⟩
theorem _root_.L2.PW.zi {t t' : TT} (h : PW X e t) (hi : ∀ σ H Q, t' σ H Q → t σ H Q) : PW X e t' := ⟨fun wh pins s σ H Q I hw => h.run wh pins s σ H Q I (hi σ H Q hw)⟩
theorem _root_.L2.PA.zi {t t' : TA} (h : PA X es t) (hi : ∀ σ H Q, t' σ H Q → t σ H Q) : PA X es t' := ⟨fun pos pins s σ H Q I hw => h.run pos pins s σ H Q I (hi σ H Q hw)⟩
theorem _root_.L2.PS.zi {t t' : TS} (h : PS X s t) (hi : ∀ Dn σ H, t' Dn σ H → t Dn σ H) : PS X s t' := ⟨fun pins s σ H Q I hw => h.run pins s σ H Q I (hi Q σ H hw)⟩
theorem _root_.L2.PSs.zi {t t' : TS} (h : PSs X ss t) (hi : ∀ Dn σ H, t' Dn σ H → t Dn σ H) : PSs X ss t' := ⟨fun pins s σ H Q I hw => h.run pins s σ H Q I (hi Q σ H hw)⟩
end
/-! ### meanings -/
@[reducible] def MM.pure {α : Type} (a : α) : MM α := fun env => some (a, env)
@[reducible] def MM.bind {α β : Type} (m : MM α) (f : α → MM β) : MM β := fun env => match m env with
  | some (a, env') => f a env'
  | none => none
def MM.map {α β : Type} (m : MM α) (f : α → β) : MM β := fun env => match m env with
  | some (a, env') => some (f a, env')
  | none => none
/-- a partial function of the value -/
def MM.opt {α β : Type} (m : MM α) (f : α → Option β) : MM β := fun env => match m env with
  | some (a, env') => (match f a with
    | some b => some (b, env')
    | none => none)
  | none => none
def mvar (i : Nat) : MM D := fun env => match env[i]? with
  | some (.im d) => some (d, env)
  | some (.mu false m) => (match m.out with
    | some d => some (d, env.set i (.im d))
    | none => none)
  | _ => none
def mc (d : D) : MM D := fun env => some (d, env)
def mop2 (g : D → D → Option D) (ma mb : MM D) : MM D := fun env => match ma env with
  | some (a, e1) => (match mb e1 with
    | some (b, e2) => (match g a b with
      | some d => some (d, e2)
      | none => none)
    | none => none)
  | none => none
def mnil : MM (List D) := fun env => some ([], env)
def mcons (ma : MM D) (mr : MM (List D)) : MM (List D) := fun env => match ma env with
  | some (a, e1) => (match mr e1 with
    | some (r, e2) => some (a :: r, e2)
    | none => none)
  | none => none
section
variable {X : Cx} {cl : Nat → Addr} {a b e : Expr} {es : List Expr} {pos : Pos} {ma mb : MM D}
theorem SR.var {K : PySem.W.Frag} {F : Fx} {I H : Hp} {σ : L2.St} {env env' : En} {ex : List (Addr × HO)} (s : SR K cl F I H σ env ex) {i : Nat} {d : D} (h : mvar i env = some (d, env')) :
    ∃ v I', σ[i]? = some (some v) ∧ Ex I I' ∧ Rep K cl I' v d ∧ SR K cl F I' H σ env' ex := by
  obtain ⟨f, s⟩ := s
  unfold mvar at h
  split at h
  · rename_i d' e
    cases h
    obtain ⟨v, h1, h2⟩ := s.look e
    exact ⟨v, I, h1, Ex.refl _, h2, f, s⟩
  · rename_i m e
    split at h
    · rename_i d' ho
      cases h
      obtain ⟨v, I', h1, h2, h3, h4⟩ := s.freeze e ho
      exact ⟨v, I', h1, h2, h3, f, h4⟩
    · cases h
  · cases h
theorem em_var (i : Nat) {x : Str} {p : Pos} (hN : X.N[i]? = some x := by rfl) (hv : Vis X.env.scope x := by first | exact Or.inl rfl | exact Or.inr (Or.inl rfl) | exact Or.inr (Or.inr rfl)) (hd : (x == ("__debug__" : Str)) = false := by decide)
    (hcd : (x == ("__classdict__" : Str)) = false := by decide) : EM X cl (.Name x p) (mvar i) := by
  refine (pe_var hN hv hd hcd).zi fun σ H Q h => ?_
  obtain ⟨F, I, env, ex, d, env', s, hm, k⟩ := h
  obtain ⟨v, I', h1, h2, h3, h4⟩ := s.var hm
  exact ⟨v, h1, k v I' H h4 h2 h3⟩
theorem em_k {v : V} {d : D} (h : PE X e (tC v)) (r : ∀ I, Rep X.K cl I v d) : EM X cl e (mc d) := by
  refine h.zi fun σ H Q h => ?_
  obtain ⟨F, I, env, ex, d', env', s, hm, k⟩ := h
  cases hm
  exact k v I H s (Ex.refl _) (r I)
theorem em_int {i : Int} {j} : EM X cl (.Constant (.int i) j pos) (mc (.int i)) := em_k pe_int fun _ => .int i
theorem em_bl {i : Bool} {j} : EM X cl (.Constant (.bool i) j pos) (mc (.bl i)) := em_k pe_bl fun _ => .bl i
theorem em_non {j} : EM X cl (.Constant .none j pos) (mc .non) := em_k pe_non fun _ => .non
theorem em_str {i : Str} {j} : EM X cl (.Constant (.str i) j pos) (mc (.str i)) := em_k pe_str fun _ => .str i
/-- a module's constant -/
theorem em_glob {x : Str} {v : V} {d : D} {p : Pos} (hm : ∃ u, X.mg x = some u ∧ RelV v u) (r : ∀ I, Rep X.K cl I v d) (hg : Gl X x := by rfl) (hd : (x == ("__debug__" : Str)) = false := by decide) : EM X cl (.Name x p) (mc d) := by
  obtain ⟨u, h1, h2⟩ := hm
  exact em_k (pe_glob hg h1 h2 hd) r
/-! two operands -/
def OK2 (K : PySem.W.Frag) (cl : Nat → Addr) (r : R2) (g : D → D → Option D) : Prop := ∀ (I H : Hp) (v w : V) (d1 d2 d : D) (Q : VK), Ex I H → Rep K cl I v d1 → Rep K cl I w d2 → g d1 d2 = some d →
  (∀ u I' H', Gr I H I' H' → Rep K cl I' u d → Q u H') → r v w H Q
theorem mop2_of {g : D → D → Option D} {env env' : En} {d : D} (h : mop2 g ma mb env = some (d, env')) : ∃ a e1 b, ma env = some (a, e1) ∧ mb e1 = some (b, env') ∧ g a b = some d := by
  unfold mop2 at h
  split at h
  · rename_i a e1 h1
    split at h
    · rename_i b e2 h2
      split at h
      · rename_i d' h3
        cases h
        exact ⟨a, e1, b, h1, h2, h3⟩
      · cases h
    · cases h
  · cases h
theorem t2_imp {K : PySem.W.Frag} {r : R2} {g : D → D → Option D} (ok : OK2 K cl r g) (σ : L2.St) (H : Hp) (Q : VK) (h : tM K cl (mop2 g ma mb) σ H Q) : tOp r (tM K cl ma) (tM K cl mb) σ H Q := by
  obtain ⟨F, I, env, ex, d, env', s, hm, k⟩ := h
  obtain ⟨x, e1, y, h1, h2, h3⟩ := mop2_of hm
  refine ⟨F, I, env, ex, x, e1, s, h1, fun v I1 H1 s1 q1 r1 => ⟨F, I1, e1, ex, y, env', s1, h2, fun w I2 H2 s2 q2 r2 => ?_⟩⟩
  exact ok I2 H2 v w x y d Q s2.ih (r1.ex q2) r2 h3 fun u I' H' gr ru => k u I' H' (s2.gr gr) ((q1.trans q2).trans gr.i) ru
theorem em_op {op : Operator} {r : R2} {g : D → D → Option D} (ho : OpR X (binaryOp op) r) (ok : OK2 X.K cl r g) (ha : EM X cl a ma) (hb : EM X cl b mb) : EM X cl (.BinOp a op b pos) (mop2 g ma mb) := (pe_op ho ha hb).zi (t2_imp ok)
theorem em_cmp {op : CmpOp} {r : R2} {g : D → D → Option D} (ho : OpR X (compareOp op) r) (ok : OK2 X.K cl r g) (hm : behindInMarks op b = false) (ha : EM X cl a ma) (hb : EM X cl b mb) : EM X cl (.Compare a [op] [b] pos) (mop2 g ma mb) := (pe_cmpR ho ha hb hm).zi (t2_imp ok)
def blD : D → Option Bool
  | .bl b => some b
  | _ => none
theorem Rep.bl_of {K : PySem.W.Frag} {I : Hp} {v : V} {d : D} {b : Bool} (r : Rep K cl I v d) (h : blD d = some b) : v = .bl b := by
  cases r <;> simp [blD] at h
  rw [h]
theorem opt_of {α β : Type} {m : MM α} {f : α → Option β} {env env' : En} {b : β} (h : MM.opt m f env = some (b, env')) : ∃ a, m env = some (a, env') ∧ f a = some b := by
  unfold MM.opt at h
  split at h
  · rename_i a e1 h1
    split at h
    · rename_i b' h2
      cases h
      exact ⟨a, h1, h2⟩
    · cases h
  · cases h
theorem eb_of {t : TE} (h : PT X e (fun σ H Q => t σ H fun x H1 => ∃ c, x = .bl c ∧ Q c H1)) {m : MM D} (hi : ∀ σ H Q, tM X.K cl m σ H Q → t σ H Q) : EB X cl e (MM.opt m blD) := by
  refine h.zi fun σ H Q q => ?_
  obtain ⟨F, I, env, ex, b, env', s, hm, k⟩ := q
  obtain ⟨d, h1, h2⟩ := opt_of hm
  exact hi _ _ _ ⟨F, I, env, ex, d, env', s, h1, fun v I' H' s' e' r => ⟨b, r.bl_of h2, k I' H' s' e'⟩⟩
/-- a comparison as a test -/
theorem eb_cmp {op : CmpOp} {r : R2} {g : D → D → Option D} (ho : OpR X (compareOp op) r) (ok : OK2 X.K cl r g) (hm : behindInMarks op b = false) (ha : EM X cl a ma) (hb : EM X cl b mb) : EB X cl (.Compare a [op] [b] pos) (MM.opt (mop2 g ma mb) blD) :=
  eb_of (t := tOp r (tM X.K cl ma) (tM X.K cl mb)) (pt_cmpR ho ha hb hm) (t2_imp ok)
/-- an expression that is a bool, as a test -/
theorem eb_val (ha : EM X cl e ma) (he : ∀ whole, isTrue e X.env whole = (do let v ← whole; standAt e.pos; holding [v] (truthy v)) := by intro _; rfl) : EB X cl e (MM.opt ma blD) :=
  eb_of (pt_val ha he) fun _ _ _ h => h
/-! arguments -/
theorem ea_nil : EA X cl [] mnil := pa_nil.zi fun σ H Q h => by
  obtain ⟨F, I, env, ex, ds, env', s, hm, k⟩ := h
  cases hm
  exact k [] I H s (Ex.refl _) .nil
theorem mcons_of {mr : MM (List D)} {env env' : En} {ds : List D} (h : mcons ma mr env = some (ds, env')) : ∃ d e1 r, ma env = some (d, e1) ∧ mr e1 = some (r, env') ∧ ds = d :: r := by
  unfold mcons at h
  split at h
  · rename_i d e1 h1
    split at h
    · rename_i r e2 h2
      cases h
      exact ⟨d, e1, r, h1, h2, rfl⟩
    · cases h
  · cases h
theorem ea_cons {mr : MM (List D)} (ha : EM X cl e ma) (hr : EA X cl es mr) (hs : starEach (e :: es) X.env = (false, eval e X.env) :: starEach es X.env := by rfl) : EA X cl (e :: es) (mcons ma mr) := by
  refine (pa_cons ha hr hs).zi fun σ H Q h => ?_
  obtain ⟨F, I, env, ex, ds, env', s, hm, k⟩ := h
  obtain ⟨d, e1, r, h1, h2, rfl⟩ := mcons_of hm
  exact ⟨F, I, env, ex, d, e1, s, h1, fun v I1 H1 s1 q1 r1 => ⟨F, I1, e1, ex, r, env', s1, h2, fun vs I2 H2 s2 q2 r2 => k (v :: vs) I2 H2 s2 (q1.trans q2) (.cons (r1.ex q2) r2)⟩⟩
/-! functions of a list of values -/
def OKL (K : PySem.W.Frag) (cl : Nat → Addr) (r : List V → Hp → VK → Prop) (g : List D → Option D) : Prop := ∀ (I H : Hp) (vs : List V) (ds : List D) (d : D) (Q : VK), Ex I H → RepL K cl I vs ds → g ds = some d →
  (∀ u I' H', Gr I H I' H' → Rep K cl I' u d → Q u H') → r vs H Q
theorem tcb_imp {K : PySem.W.Frag} {r : List V → Hp → VK → Prop} {g : List D → Option D} {m : MM (List D)} (ok : OKL K cl r g) (σ : L2.St) (H : Hp) (Q : VK) (h : tM K cl (MM.opt m g) σ H Q) : tCB r (tL K cl m) σ H Q := by
  obtain ⟨F, I, env, ex, d, env', s, hm, k⟩ := h
  obtain ⟨ds, h1, h2⟩ := opt_of hm
  exact ⟨F, I, env, ex, ds, env', s, h1, fun vs I1 H1 s1 q1 r1 => ok I1 H1 vs ds d Q s1.ih r1 h2 fun u I' H' gr ru => k u I' H' (s1.gr gr) (q1.trans gr.i) ru⟩
theorem em_callB {x : Str} {p : Pos} {id : String} {r : List V → Hp → VK → Prop} {g : List D → Option D} {m : MM (List D)} (hc : CallR X (.builtin id) r) (ok : OKL X.K cl r g) (hm : X.mg x = none) (hv : bootBuiltins x = some (.builtin id)) (ha : EA X cl (e :: es) m)
    (hg : Gl X x := by rfl) (hn : x ≠ "__name__" := by decide) (hdb : (x == ("__debug__" : Str)) = false := by decide)
    (he : starEach (e :: es) X.env = (false, eval e X.env) :: starEach es X.env := by rfl) (hpl : (backTo pos (starEach es X.env)).any (·.1) = false := by rfl) : EM X cl (.Call (.Name x p) (e :: es) [] pos) (MM.opt m g) :=
  (pe_callB hc hg hm hv ha hn hdb he hpl).zi (tcb_imp ok)
theorem em_callTy {x : Str} {p : Pos} {T : String} {r : List V → Hp → VK → Prop} {g : List D → Option D} {m : MM (List D)} (hc : CallR X (.type T) r) (ok : OKL X.K cl r g) (hm : X.mg x = none) (hv : bootBuiltins x = some (.type T)) (ha : EA X cl (e :: es) m)
    (hg : Gl X x := by rfl) (hn : x ≠ "__name__" := by decide) (hdb : (x == ("__debug__" : Str)) = false := by decide)
    (he : starEach (e :: es) X.env = (false, eval e X.env) :: starEach es X.env := by rfl) (hpl : (backTo pos (starEach es X.env)).any (·.1) = false := by rfl) : EM X cl (.Call (.Name x p) (e :: es) [] pos) (MM.opt m g) :=
  (pe_callTy hc hg hm hv ha hn hdb he hpl).zi (tcb_imp ok)
/-- a method of a text -/
def OKM (K : PySem.W.Frag) (cl : Nat → Addr) (r : V → List V → Hp → VK → Prop) (g : Str → List D → Option D) : Prop := ∀ (I H : Hp) (z : Str) (vs : List V) (ds : List D) (d : D) (Q : VK), Ex I H → RepL K cl I vs ds → g z ds = some d →
  (∀ u I' H', Gr I H I' H' → Rep K cl I' u d → Q u H') → r (.str z) vs H Q
def strD : D → Option Str
  | .str z => some z
  | _ => none
theorem Rep.str_of {K : PySem.W.Frag} {I : Hp} {v : V} {d : D} {z : Str} (r : Rep K cl I v d) (h : strD d = some z) : v = .str z ∧ d = .str z := by
  cases r <;> simp [strD] at h
  subst h
  exact ⟨rfl, rfl⟩
def mmeth (g : Str → List D → Option D) (mo : MM D) (ma : MM (List D)) : MM D := fun env => match mo env with
  | some (.str z, e1) => (match ma e1 with
    | some (ds, e2) => (match g z ds with
      | some d => some (d, e2)
      | none => none)
    | none => none)
  | _ => none
theorem mmeth_of {g : Str → List D → Option D} {mo : MM D} {ma : MM (List D)} {env env' : En} {d : D} (h : mmeth g mo ma env = some (d, env')) : ∃ z e1 ds, mo env = some (.str z, e1) ∧ ma e1 = some (ds, env') ∧ g z ds = some d := by
  unfold mmeth at h
  split at h
  · rename_i z e1 h1
    split at h
    · rename_i ds e2 h2
      split at h
      · rename_i d' h3
        cases h
        exact ⟨z, e1, ds, h1, h2, h3⟩
      · cases h
    · cases h
  · cases h
theorem em_sm {o : Expr} {mo : MM D} {m : MM (List D)} {name : Str} {apos cpos : Pos} {id : String} {r : V → List V → Hp → VK → Prop} {g : Str → List D → Option D} (pa : PlainAttrs "str") (slot : Slot "str" name id) (hty : typeOf (.builtin id) = pure (.type "method_descriptor")) (hm : MtR X id r) (ok : OKM X.K cl r g)
    (ho : EM X cl o mo) (ha : EA X cl (e :: es) m)
    (hbase : attributeBase o name X.env (eval o X.env) = eval o X.env := by rfl)
    (hfew : ((backTo cpos (starEach (e :: es) X.env)).all (fun x => !x.1) && (backToKw cpos (keywordEach [] X.env)).all (fun x => x.1.isSome)
      && decide ((e :: es).length + ([] : List Keyword).length + (if ([] : List Keyword).isEmpty then 0 else 1) < 30)) = true := by rfl)
    (hline : (apos.endLine == cpos.line) = true := by rfl) (hs : starEach (e :: es) X.env = (false, eval e X.env) :: starEach es X.env := by rfl) (hplain : (backTo cpos (starEach es X.env)).any (·.1) = false := by rfl) :
    EM X cl (.Call (.Attribute o name apos) (e :: es) [] cpos) (mmeth g mo m) := by
  refine (pe_bm pa slot hty hm ho ha hbase hfew hline hs hplain).zi fun σ H Q h => ?_
  obtain ⟨F, I, env, ex, d, env', s, hq, k⟩ := h
  obtain ⟨z, e1, ds, h1, h2, h3⟩ := mmeth_of hq
  refine ⟨F, I, env, ex, .str z, e1, s, h1, fun v I1 H1 s1 q1 r1 => ?_⟩
  obtain ⟨rfl, _⟩ := r1.str_of rfl
  exact ⟨rfl, F, I1, e1, ex, ds, env', s1, h2, fun vs I2 H2 s2 q2 r2 => ok I2 H2 z vs ds d Q s2.ih r2 h3 fun u I' H' gr ru => k u I' H' (s2.gr gr) ((q1.trans q2).trans gr.i) ru⟩
theorem em_sm0 {o : Expr} {mo : MM D} {name : Str} {apos cpos : Pos} {id : String} {r : V → List V → Hp → VK → Prop} {g : Str → List D → Option D} (pa : PlainAttrs "str") (slot : Slot "str" name id) (hty : typeOf (.builtin id) = pure (.type "method_descriptor")) (hm : MtR X id r) (ok : OKM X.K cl r g)
    (ho : EM X cl o mo) (hbase : attributeBase o name X.env (eval o X.env) = eval o X.env := by rfl) (hline : (apos.endLine == cpos.line) = true := by rfl) :
    EM X cl (.Call (.Attribute o name apos) [] [] cpos) (mmeth g mo mnil) := by
  refine (pe_bm0 pa slot hty hm ho hbase hline).zi fun σ H Q h => ?_
  obtain ⟨F, I, env, ex, d, env', s, hq, k⟩ := h
  obtain ⟨z, e1, ds, h1, h2, h3⟩ := mmeth_of hq
  cases h2
  refine ⟨F, I, env, ex, .str z, env', s, h1, fun v I1 H1 s1 q1 r1 => ?_⟩
  obtain ⟨rfl, _⟩ := r1.str_of rfl
  exact ⟨rfl, ok I1 H1 z [] [] d Q s1.ih .nil h3 fun u I' H' gr ru => k u I' H' (s1.gr gr) (q1.trans gr.i) ru⟩
end
end Zf

set_option Elab.async false
set_option linter.all false
set_option maxRecDepth 100000
set_option maxHeartbeats 1000000
/-! Zf, part 3: tests, displays, places, calls of defs. -/
namespace Zf
open PySem PySem.Spec L2
section
variable {X : Cx} {cl : Nat → Addr} {a b c e : Expr} {es rest : List Expr} {pos : Pos} {ma mb : MM D} {ta tb : MM Bool}
/-! ### and, or, not, if -/
def mandB (ma mb : MM Bool) : MM Bool := fun env => match ma env with
  | some (true, e1) => mb e1
  | some (false, e1) => some (false, e1)
  | none => none
def morB (ma mb : MM Bool) : MM Bool := fun env => match ma env with
  | some (true, e1) => some (true, e1)
  | some (false, e1) => mb e1
  | none => none
def mnotB (ma : MM Bool) : MM Bool := fun env => match ma env with
  | some (b, e1) => some (!b, e1)
  | none => none
def mif {α : Type} (t : MM Bool) (ma mb : MM α) : MM α := fun env => match t env with
  | some (true, e1) => ma e1
  | some (false, e1) => mb e1
  | none => none
theorem ew_and1 (h : EB X cl a ta) : EW X cl (.BoolOp .And [a] pos) ta := pw_and1 h
theorem ew_or1 (h : EB X cl a ta) : EW X cl (.BoolOp .Or [a] pos) ta := pw_or1 h
theorem ew_and (h : EB X cl a ta) (k : EW X cl (.BoolOp .And (b :: rest) pos) tb) : EW X cl (.BoolOp .And (a :: b :: rest) pos) (mandB ta tb) := by
  refine (pw_and h k).zi fun σ H Q q => ?_
  obtain ⟨F, I, env, ex, b, env', s, hm, k⟩ := q
  unfold mandB at hm
  split at hm
  · rename_i e1 h1
    exact ⟨F, I, env, ex, true, e1, s, h1, fun I' H' s' q' => ⟨F, I', e1, ex, b, env', s', hm, fun I2 H2 s2 q2 => k I2 H2 s2 (q'.trans q2)⟩⟩
  · rename_i e1 h1
    cases hm
    exact ⟨F, I, env, ex, false, env', s, h1, fun I' H' s' q' => k I' H' s' q'⟩
  · cases hm
theorem ew_or (h : EB X cl a ta) (k : EW X cl (.BoolOp .Or (b :: rest) pos) tb) : EW X cl (.BoolOp .Or (a :: b :: rest) pos) (morB ta tb) := by
  refine (pw_or h k).zi fun σ H Q q => ?_
  obtain ⟨F, I, env, ex, b, env', s, hm, k⟩ := q
  unfold morB at hm
  split at hm
  · rename_i e1 h1
    cases hm
    exact ⟨F, I, env, ex, true, env', s, h1, fun I' H' s' q' => k I' H' s' q'⟩
  · rename_i e1 h1
    exact ⟨F, I, env, ex, false, e1, s, h1, fun I' H' s' q' => ⟨F, I', e1, ex, b, env', s', hm, fun I2 H2 s2 q2 => k I2 H2 s2 (q'.trans q2)⟩⟩
  · cases hm
theorem eb_w (h : EW X cl a ta) : EB X cl a ta := PW.pt h
theorem eb_not (h : EB X cl a ta) : EB X cl (.UnaryOp .Not a pos) (mnotB ta) := by
  refine (pt_not h).zi fun σ H Q q => ?_
  obtain ⟨F, I, env, ex, b, env', s, hm, k⟩ := q
  unfold mnotB at hm
  split at hm
  · rename_i c e1 h1
    cases hm
    exact ⟨F, I, env, ex, c, env', s, h1, fun I' H' s' q' => k I' H' s' q'⟩
  · cases hm
theorem em_if (hc : EB X cl c ta) (ha : EM X cl a ma) (hb : EM X cl b mb) : EM X cl (.IfExp c a b pos) (mif ta ma mb) := by
  refine (pe_ifExp hc ha hb).zi fun σ H Q q => ?_
  obtain ⟨F, I, env, ex, d, env', s, hm, k⟩ := q
  unfold mif at hm
  split at hm
  · rename_i e1 h1
    exact ⟨F, I, env, ex, true, e1, s, h1, fun I' H' s' q' => iteT ⟨F, I', e1, ex, d, env', s', hm, fun v I2 H2 s2 q2 => k v I2 H2 s2 (q'.trans q2)⟩⟩
  · rename_i e1 h1
    exact ⟨F, I, env, ex, false, e1, s, h1, fun I' H' s' q' => iteF ⟨F, I', e1, ex, d, env', s', hm, fun v I2 H2 s2 q2 => k v I2 H2 s2 (q'.trans q2)⟩⟩
  · cases hm
def mandV (ma mb : MM D) : MM D := fun env => match ma env with
  | some (.bl true, e1) => mb e1
  | some (.bl false, e1) => some (.bl false, e1)
  | _ => none
def morV (ma mb : MM D) : MM D := fun env => match ma env with
  | some (.bl true, e1) => some (.bl true, e1)
  | some (.bl false, e1) => mb e1
  | _ => none
def mnotV (ma : MM D) : MM D := fun env => match ma env with
  | some (.bl b, e1) => some (.bl (!b), e1)
  | _ => none
theorem em_one {op} (h : EM X cl a ma) : EM X cl (.BoolOp op [a] pos) ma := pe_one h
theorem em_and (h : EM X cl a ma) (k : EM X cl (.BoolOp .And (b :: rest) pos) mb) : EM X cl (.BoolOp .And (a :: b :: rest) pos) (mandV ma mb) := by
  refine (pe_and h k).zi fun σ H Q q => ?_
  obtain ⟨F, I, env, ex, d, env', s, hm, k⟩ := q
  unfold mandV at hm
  split at hm
  · rename_i e1 h1
    refine ⟨F, I, env, ex, .bl true, e1, s, h1, fun v I' H' s' q' r => ⟨true, r.bl_of rfl, iteT ⟨F, I', e1, ex, d, env', s', hm, fun v I2 H2 s2 q2 => k v I2 H2 s2 (q'.trans q2)⟩⟩⟩
  · rename_i e1 h1
    cases hm
    exact ⟨F, I, env, ex, .bl false, env', s, h1, fun v I' H' s' q' r => ⟨false, r.bl_of rfl, iteF (k (.bl false) I' H' s' q' (.bl false))⟩⟩
  · cases hm
theorem em_or (h : EM X cl a ma) (k : EM X cl (.BoolOp .Or (b :: rest) pos) mb) : EM X cl (.BoolOp .Or (a :: b :: rest) pos) (morV ma mb) := by
  refine (pe_or h k).zi fun σ H Q q => ?_
  obtain ⟨F, I, env, ex, d, env', s, hm, k⟩ := q
  unfold morV at hm
  split at hm
  · rename_i e1 h1
    cases hm
    exact ⟨F, I, env, ex, .bl true, env', s, h1, fun v I' H' s' q' r => ⟨true, r.bl_of rfl, iteT (k (.bl true) I' H' s' q' (.bl true))⟩⟩
  · rename_i e1 h1
    refine ⟨F, I, env, ex, .bl false, e1, s, h1, fun v I' H' s' q' r => ⟨false, r.bl_of rfl, iteF ⟨F, I', e1, ex, d, env', s', hm, fun v I2 H2 s2 q2 => k v I2 H2 s2 (q'.trans q2)⟩⟩⟩
  · cases hm
theorem em_not (h : EM X cl a ma) : EM X cl (.UnaryOp .Not a pos) (mnotV ma) := by
  refine (pe_not h).zi fun σ H Q q => ?_
  obtain ⟨F, I, env, ex, d, env', s, hm, k⟩ := q
  unfold mnotV at hm
  split at hm
  · rename_i c e1 h1
    cases hm
    exact ⟨F, I, env, ex, .bl c, env', s, h1, fun v I' H' s' q' r => ⟨c, r.bl_of rfl, k (.bl (!c)) I' H' s' q' (.bl _)⟩⟩
  · cases hm
/-! ### truth of a value -/
def truD : D → Option Bool
  | .non => some false
  | .bl b => some b
  | .int i => some (i != 0)
  | .str z => if z.length ≤ 100000 then some ((z.length : Int) != 0) else none
  | .lst xs => some (!xs.isEmpty)
  | .tup xs => some (!xs.isEmpty)
  | .dct xs => some (!xs.isEmpty)
  | .obj _ _ => none
  | .scr xs => some (!xs.isEmpty)
theorem RepL.isEmpty {K : PySem.W.Frag} {I : Hp} {vs : List V} {ds : List D} (r : RepL K cl I vs ds) : vs.isEmpty = ds.isEmpty := by cases r <;> rfl
theorem RepK.isEmpty {K : PySem.W.Frag} {I : Hp} {vs : List (Key × V)} {ds : List (Key × D)} (r : RepK K cl I vs ds) : vs.isEmpty = ds.isEmpty := by cases r <;> rfl
theorem Rep.tru {K : PySem.W.Frag} {I H : Hp} {v : V} {d : D} {k : Bool} (r : Rep K cl I v d) (e : Ex I H) (h : truD d = some k) : TruV K v H k := by
  cases r with
  | non => cases h; rfl
  | bl b => cases h; rfl
  | int i => cases h; rfl
  | str z =>
    simp only [truD] at h
    split at h
    · cases h; exact ⟨Nat.le_trans (by assumption) (by decide), rfl⟩
    · cases h
  | lst h1 h2 => cases h; exact .inl ⟨_, rl h1 e, by rw [h2.isEmpty]⟩
  | tup h1 h2 => cases h; exact .inr (.inl ⟨_, ex_t e h1, by rw [h2.isEmpty]⟩)
  | dct h1 h2 => cases h; exact .inr (.inr ⟨_, e _ _ h1, by rw [h2.isEmpty]⟩)
  | obj h1 h2 => cases h
  | @scr a ns h1 => cases h; exact .inl ⟨_, ex_l e h1, by cases ns <;> rfl⟩
theorem eb_tru (ha : EM X cl a ma) (he : ∀ whole, isTrue a X.env whole = (do let v ← whole; standAt a.pos; holding [v] (truthy v)) := by intro _; rfl) : EB X cl a (MM.opt ma truD) := by
  refine (pt_truth ha he).zi fun σ H Q q => ?_
  obtain ⟨F, I, env, ex, b, env', s, hm, k⟩ := q
  obtain ⟨d, h1, h2⟩ := opt_of hm
  exact ⟨F, I, env, ex, d, env', s, h1, fun v I' H' s' e' r => ⟨b, r.tru s'.ih h2, k I' H' s' e'⟩⟩
/-! ### new lists and tuples -/
def few (ds : List D) : Option (List D) := if ds.length ≤ 100000 then some ds else none
theorem few_of {ds es : List D} (h : few ds = some es) : es = ds ∧ ds.length ≤ sizeLine := by
  unfold few at h
  split at h
  · cases h; exact ⟨rfl, Nat.le_trans (by assumption) (by decide)⟩
  · cases h
theorem em_ef {m : MM (List D)} (h : EF X cl e m) : EM X cl e (MM.map m .lst) := by
  refine h.zi fun σ H Q q => ?_
  obtain ⟨F, I, env, ex, d, env', s, hm, k⟩ := q
  unfold MM.map at hm
  split at hm
  · rename_i ds e1 h1
    cases hm
    refine ⟨F, I, env, ex, ds, env', s, h1, fun p vs I' H' ⟨f, s'⟩ e' r => ?_⟩
    obtain ⟨e2, s2⟩ := s'.exFreeze
    exact k _ _ _ ⟨f, s2⟩ (e'.trans e2) (.lst upd_same (r.ex e2))
  · cases hm
/-- a new list laid at p -/
theorem SR.lay {K : PySem.W.Frag} {F : Fx} {I H : Hp} {σ : L2.St} {env : En} {ex : List (Addr × HO)} (s : SR K cl F I H σ env ex) {p : Addr} {o : HO} (h : H p = none) : SR K cl F I (upd H p o) σ env ((p, o) :: ex) :=
  let ⟨f, s⟩ := s
  ⟨f, s.alloc h⟩
theorem ef_lst {m : MM (List D)} (h : EA X cl es m) : EF X cl (.List es pos) (MM.opt m few) := by
  refine (pe_lst h).zi fun σ H Q q => ?_
  obtain ⟨F, I, env, ex, ds, env', s, hm, k⟩ := q
  obtain ⟨d, h1, h2⟩ := opt_of hm
  obtain ⟨rfl, h3⟩ := few_of h2
  refine ⟨F, I, env, ex, ds, env', s, h1, fun vs I' H' s' e' r => ⟨by rw [r.length]; exact h3, fun p hp => ?_⟩⟩
  exact k p vs I' _ (s'.lay hp) e' r
theorem em_lst {m : MM (List D)} (h : EA X cl es m) : EM X cl (.List es pos) (MM.map (MM.opt m few) .lst) := em_ef (ef_lst h)
theorem em_tup {m : MM (List D)} {x1} (h : EA X cl es m) : EM X cl (.Tuple es x1 pos) (MM.map (MM.opt m few) .tup) := by
  refine (pe_tup h).zi fun σ H Q q => ?_
  obtain ⟨F, I, env, ex, d, env', s, hm, k⟩ := q
  unfold MM.map at hm
  split at hm
  · rename_i ds e1 h0
    cases hm
    obtain ⟨d, h1, h2⟩ := opt_of h0
    obtain ⟨rfl, h3⟩ := few_of h2
    refine ⟨F, I, env, ex, ds, env', s, h1, fun vs I' H' s' e' r => ⟨by rw [r.length]; exact h3, fun p hp => ?_⟩⟩
    have g := Gr.new (o := .tup vs) s'.ih hp
    exact k _ _ _ (s'.gr g) (e'.trans g.i) (.tup (.inl (.inl upd_same)) (r.ex g.i))
  · cases hm
/-- operations that give out a new list -/
def OKF2 (K : PySem.W.Frag) (cl : Nat → Addr) (r : R2) (g : D → D → Option (List D)) : Prop := ∀ (I H : Hp) (v w : V) (d1 d2 : D) (ds : List D) (Q : VK), Ex I H → Rep K cl I v d1 → Rep K cl I w d2 → g d1 d2 = some ds →
  (∀ p vs, H p = none → RepL K cl I vs ds → Q (.ref p) (upd H p (.lst vs))) → r v w H Q
def OKFL (K : PySem.W.Frag) (cl : Nat → Addr) (r : List V → Hp → VK → Prop) (g : List D → Option (List D)) : Prop := ∀ (I H : Hp) (vs : List V) (as ds : List D) (Q : VK), Ex I H → RepL K cl I vs as → g as = some ds →
  (∀ p ws, H p = none → RepL K cl I ws ds → Q (.ref p) (upd H p (.lst ws))) → r vs H Q
def OKFM (K : PySem.W.Frag) (cl : Nat → Addr) (r : V → List V → Hp → VK → Prop) (g : Str → List D → Option (List D)) : Prop := ∀ (I H : Hp) (z : Str) (vs : List V) (as ds : List D) (Q : VK), Ex I H → RepL K cl I vs as → g z as = some ds →
  (∀ p ws, H p = none → RepL K cl I ws ds → Q (.ref p) (upd H p (.lst ws))) → r (.str z) vs H Q
def lstO (o : Option (List D)) : Option D := match o with
  | some ds => some (.lst ds)
  | none => none
theorem lstO_of {o : Option (List D)} {d : D} (h : lstO o = some d) : ∃ ds, o = some ds ∧ d = .lst ds := by
  unfold lstO at h
  split at h
  · cases h; exact ⟨_, rfl, rfl⟩
  · cases h
theorem OKF2.ok {K : PySem.W.Frag} {r : R2} {g : D → D → Option (List D)} (h : OKF2 K cl r g) : OK2 K cl r (fun a b => lstO (g a b)) := fun I H v w d1 d2 d Q e r1 r2 hg k => by
  obtain ⟨ds, h1, rfl⟩ := lstO_of hg
  refine h I H v w d1 d2 ds Q e r1 r2 h1 fun p vs hp r => ?_
  have g := Gr.new (o := .lst vs) e hp
  exact k _ _ _ g (.lst upd_same (r.ex g.i))
theorem OKFL.ok {K : PySem.W.Frag} {r : List V → Hp → VK → Prop} {g : List D → Option (List D)} (h : OKFL K cl r g) : OKL K cl r (fun a => lstO (g a)) := fun I H vs as d Q e r1 hg k => by
  obtain ⟨ds, h1, rfl⟩ := lstO_of hg
  refine h I H vs as ds Q e r1 h1 fun p vs hp r => ?_
  have g := Gr.new (o := .lst vs) e hp
  exact k _ _ _ g (.lst upd_same (r.ex g.i))
theorem OKFM.ok {K : PySem.W.Frag} {r : V → List V → Hp → VK → Prop} {g : Str → List D → Option (List D)} (h : OKFM K cl r g) : OKM K cl r (fun z a => lstO (g z a)) := fun I H z vs as d Q e r1 hg k => by
  obtain ⟨ds, h1, rfl⟩ := lstO_of hg
  refine h I H z vs as ds Q e r1 h1 fun p vs hp r => ?_
  have g := Gr.new (o := .lst vs) e hp
  exact k _ _ _ g (.lst upd_same (r.ex g.i))
def fop2 (g : D → D → Option (List D)) (ma mb : MM D) : MM (List D) := fun env => match ma env with
  | some (a, e1) => (match mb e1 with
    | some (b, e2) => (match g a b with
      | some d => some (d, e2)
      | none => none)
    | none => none)
  | none => none
def fmeth (g : Str → List D → Option (List D)) (mo : MM D) (ma : MM (List D)) : MM (List D) := fun env => match mo env with
  | some (.str z, e1) => (match ma e1 with
    | some (ds, e2) => (match g z ds with
      | some d => some (d, e2)
      | none => none)
    | none => none)
  | _ => none
theorem fop2_of {g : D → D → Option (List D)} {env env' : En} {d : List D} (h : fop2 g ma mb env = some (d, env')) : ∃ a e1 b, ma env = some (a, e1) ∧ mb e1 = some (b, env') ∧ g a b = some d := by
  unfold fop2 at h
  split at h
  · rename_i a e1 h1
    split at h
    · rename_i b e2 h2
      split at h
      · rename_i d' h3
        cases h
        exact ⟨a, e1, b, h1, h2, h3⟩
      · cases h
    · cases h
  · cases h
theorem fmeth_of {g : Str → List D → Option (List D)} {mo : MM D} {ma : MM (List D)} {env env' : En} {d : List D} (h : fmeth g mo ma env = some (d, env')) : ∃ z e1 ds, mo env = some (.str z, e1) ∧ ma e1 = some (ds, env') ∧ g z ds = some d := by
  unfold fmeth at h
  split at h
  · rename_i z e1 h1
    split at h
    · rename_i ds e2 h2
      split at h
      · rename_i d' h3
        cases h
        exact ⟨z, e1, ds, h1, h2, h3⟩
      · cases h
    · cases h
  · cases h
theorem ef_op {op : Operator} {r : R2} {g : D → D → Option (List D)} (ho : OpR X (binaryOp op) r) (ok : OKF2 X.K cl r g) (ha : EM X cl a ma) (hb : EM X cl b mb) : EF X cl (.BinOp a op b pos) (fop2 g ma mb) := (pe_op ho ha hb).zi fun σ H Q h => by
  obtain ⟨F, I, env, ex, d, env', s, hm, k⟩ := h
  obtain ⟨x, e1, y, h1, h2, h3⟩ := fop2_of hm
  refine ⟨F, I, env, ex, x, e1, s, h1, fun v I1 H1 s1 q1 r1 => ⟨F, I1, e1, ex, y, env', s1, h2, fun w I2 H2 s2 q2 r2 => ?_⟩⟩
  refine ok I2 H2 v w x y d Q s2.ih (r1.ex q2) r2 h3 fun p vs hp r => ?_
  exact k p vs I2 _ (s2.lay hp) (q1.trans q2) r
theorem ef_call {r : List V → Hp → VK → Prop} {g : List D → Option (List D)} {m : MM (List D)} (ok : OKFL X.K cl r g) (h : PE X e (tCB r (tL X.K cl m))) : EF X cl e (MM.opt m g) := h.zi fun σ H Q h => by
  obtain ⟨F, I, env, ex, d, env', s, hm, k⟩ := h
  obtain ⟨ds, h1, h2⟩ := opt_of hm
  refine ⟨F, I, env, ex, ds, env', s, h1, fun vs I1 H1 s1 q1 r1 => ok I1 H1 vs ds d Q s1.ih r1 h2 fun p ws hp r => ?_⟩
  exact k p ws I1 _ (s1.lay hp) q1 r
theorem ef_sm {o : Expr} {mo : MM D} {m : MM (List D)} {name : Str} {apos cpos : Pos} {id : String} {r : V → List V → Hp → VK → Prop} {g : Str → List D → Option (List D)} (pa : PlainAttrs "str") (slot : Slot "str" name id) (hty : typeOf (.builtin id) = pure (.type "method_descriptor")) (hm : MtR X id r) (ok : OKFM X.K cl r g)
    (ho : EM X cl o mo) (ha : EA X cl (e :: es) m)
    (hbase : attributeBase o name X.env (eval o X.env) = eval o X.env := by rfl)
    (hfew : ((backTo cpos (starEach (e :: es) X.env)).all (fun x => !x.1) && (backToKw cpos (keywordEach [] X.env)).all (fun x => x.1.isSome)
      && decide ((e :: es).length + ([] : List Keyword).length + (if ([] : List Keyword).isEmpty then 0 else 1) < 30)) = true := by rfl)
    (hline : (apos.endLine == cpos.line) = true := by rfl) (hs : starEach (e :: es) X.env = (false, eval e X.env) :: starEach es X.env := by rfl) (hplain : (backTo cpos (starEach es X.env)).any (·.1) = false := by rfl) :
    EF X cl (.Call (.Attribute o name apos) (e :: es) [] cpos) (fmeth g mo m) := by
  refine (pe_bm pa slot hty hm ho ha hbase hfew hline hs hplain).zi fun σ H Q h => ?_
  obtain ⟨F, I, env, ex, d, env', s, hq, k⟩ := h
  obtain ⟨z, e1, ds, h1, h2, h3⟩ := fmeth_of hq
  refine ⟨F, I, env, ex, .str z, e1, s, h1, fun v I1 H1 s1 q1 r1 => ?_⟩
  obtain ⟨rfl, _⟩ := r1.str_of rfl
  refine ⟨rfl, F, I1, e1, ex, ds, env', s1, h2, fun vs I2 H2 s2 q2 r2 => ok I2 H2 z vs ds d Q s2.ih r2 h3 fun p ws hp r => ?_⟩
  exact k p ws I2 _ (s2.lay hp) (q1.trans q2) r
theorem ef_sm0 {o : Expr} {mo : MM D} {name : Str} {apos cpos : Pos} {id : String} {r : V → List V → Hp → VK → Prop} {g : Str → List D → Option (List D)} (pa : PlainAttrs "str") (slot : Slot "str" name id) (hty : typeOf (.builtin id) = pure (.type "method_descriptor")) (hm : MtR X id r) (ok : OKFM X.K cl r g)
    (ho : EM X cl o mo) (hbase : attributeBase o name X.env (eval o X.env) = eval o X.env := by rfl) (hline : (apos.endLine == cpos.line) = true := by rfl) :
    EF X cl (.Call (.Attribute o name apos) [] [] cpos) (fmeth g mo mnil) := by
  refine (pe_bm0 pa slot hty hm ho hbase hline).zi fun σ H Q h => ?_
  obtain ⟨F, I, env, ex, d, env', s, hq, k⟩ := h
  obtain ⟨z, e1, ds, h1, h2, h3⟩ := fmeth_of hq
  cases h2
  refine ⟨F, I, env, ex, .str z, env', s, h1, fun v I1 H1 s1 q1 r1 => ?_⟩
  obtain ⟨rfl, _⟩ := r1.str_of rfl
  refine ⟨rfl, ok I1 H1 z [] [] d Q s1.ih .nil h3 fun p ws hp r => ?_⟩
  exact k p ws I1 _ (s1.lay hp) q1 r
/-! ### places -/
def atD (xs : List D) (i : Int) : Option D := (ixN xs.length i).bind fun j => xs[j]?
def ixD : D → D → Option D
  | .lst xs, .int i => atD xs i
  | .tup xs, .int i => atD xs i
  | .str z, .int i => if z.length ≤ 100000 then (match atI z.cps.toList i with
    | some c => some (.str ⟨#[c]⟩)
    | none => none) else none
  | _, _ => none
theorem RepL.at_ {K : PySem.W.Frag} {I : Hp} {vs : List V} {ds : List D} (r : RepL K cl I vs ds) {i : Int} {d : D} (h : atD ds i = some d) : ∃ v, atI vs i = some v ∧ Rep K cl I v d := by
  unfold atD at h
  unfold atI
  rw [r.length]
  cases q : ixN ds.length i with
  | none => rw [q] at h; cases h
  | some j => rw [q] at h; exact r.get h
theorem ok_ix {K : PySem.W.Frag} : OK2 K cl (rIx K) ixD := fun I H v w d1 d2 d Q e r1 r2 hg k => by
  cases r1 <;> cases r2 <;> try (cases hg; done)
  · rename_i z i
    simp only [ixD] at hg
    split at hg
    · split at hg
      · rename_i hz _ c hc
        cases hg
        exact .inr (.inr ⟨z, i, c, rfl, rfl, Nat.le_trans hz (by decide), hc, k _ _ _ (Gr.refl e) (.str _)⟩)
      · cases hg
    · cases hg
  · rename_i a vs ds hs r i
    obtain ⟨v, h1, h2⟩ := r.at_ hg
    exact .inl ⟨a, vs, i, v, rfl, rfl, rl hs e, h1, k _ _ _ (Gr.refl e) h2⟩
  · rename_i a vs ds hs r i
    obtain ⟨v, h1, h2⟩ := r.at_ hg
    exact .inr (.inl ⟨a, vs, i, v, rfl, rfl, ex_t e hs, h1, k _ _ _ (Gr.refl e) h2⟩)
theorem em_ix (ha : EM X cl a ma) (hb : EM X cl b mb) (hs : PlainIx b := by exact fun _ _ => rfl) : EM X cl (.Subscript a b pos) (mop2 ixD ma mb) := (pe_ix ix_seq ha hb hs).zi (t2_imp ok_ix)
/-- a slice's end -/
abbrev EO (X : Cx) (cl : Nat → Addr) (o : Option Expr) (m : MM (Option Int)) : Prop := PO X o (fun σ H Q => ∃ F I env ex d env', SR X.K cl F I H σ env ex ∧ m env = some (d, env') ∧ ∀ I' H', SR X.K cl F I' H' σ env' ex → Ex I I' → Q d H')
theorem eo_none : EO X cl none (fun env => some (none, env)) := by
  refine ⟨fun pins s σ H Q I h => ?_⟩
  obtain ⟨F, J, env, ex, d, env', s1, hm, k⟩ := h
  cases hm
  exact po_none.run pins s σ H Q I (k J H s1 (Ex.refl _))
def intD : D → Option (Option Int)
  | .int i => some (some i)
  | _ => none
theorem eo_some (h : EM X cl e ma) : EO X cl (some e) (MM.opt ma intD) := by
  refine ⟨fun pins s σ H Q I q => ?_⟩
  obtain ⟨F, J, env, ex, d, env', s1, hm, k⟩ := q
  obtain ⟨x, h1, h2⟩ := opt_of hm
  refine (po_some h).run pins s σ H Q I ⟨F, J, env, ex, x, env', s1, h1, fun v I' H' s' e' r => ?_⟩
  cases r <;> simp [intD] at h2
  subst h2
  exact ⟨_, rfl, k I' H' s' e'⟩
def cutD (xs : List D) (lo hi : Option Int) : List D := (xs.drop (HT.sIx xs.length 0 lo)).take (HT.sIx xs.length xs.length hi - HT.sIx xs.length 0 lo)
def slD : D → Option Int → Option Int → Option D
  | .lst xs, lo, hi => some (.lst (cutD xs lo hi))
  | .tup xs, lo, hi => some (.tup (cutD xs lo hi))
  | .str z, lo, hi => if z.length ≤ 100000 then some (.str (cutS z lo hi)) else none
  | _, _, _ => none
theorem RepL.cut {K : PySem.W.Frag} {I : Hp} {vs : List V} {ds : List D} (r : RepL K cl I vs ds) (lo hi : Option Int) : RepL K cl I (cutV vs lo hi) (cutD ds lo hi) := by
  unfold cutV cutD
  rw [r.length]
  exact (r.drop _).take _
def msl (ma : MM D) (ml mh : MM (Option Int)) : MM D := fun env => match ma env with
  | some (d, e1) => (match ml e1 with
    | some (lo, e2) => (match mh e2 with
      | some (hi, e3) => (match slD d lo hi with
        | some r => some (r, e3)
        | none => none)
      | none => none)
    | none => none)
  | none => none
def rSlAll (K : PySem.W.Frag) : V → Option Int → Option Int → Hp → VK → Prop := fun x lo hi H Q => rSlL K x lo hi H Q ∨ (rSlA K x lo hi H Q ∨ rSlS x lo hi H Q)
theorem sl_all : SlR X (rSlAll X.K) := SlR.or sl_list (SlR.or sl_tupA sl_str)
theorem em_sl {lo hi : Option Expr} {p2 : Pos} {ml mh : MM (Option Int)} (ha : EM X cl a ma) (hl : EO X cl lo ml) (hh : EO X cl hi mh) : EM X cl (.Subscript a (.Slice lo hi none p2) pos) (msl ma ml mh) := by
  refine (pe_slice sl_all ha hl hh).zi fun σ H Q h => ?_
  obtain ⟨F, I, env, ex, d, env', s, hm, k⟩ := h
  unfold msl at hm
  split at hm
  · rename_i x e1 h1
    split at hm
    · rename_i l e2 h2
      split at hm
      · rename_i u e3 h3
        split at hm
        · rename_i r h4
          cases hm
          refine ⟨F, I, env, ex, x, e1, s, h1, fun v I1 H1 s1 q1 r1 => ⟨F, I1, e1, ex, l, e2, s1, h2, fun I2 H2 s2 q2 => ⟨F, I2, e2, ex, u, env', s2, h3, fun I3 H3 s3 q3 => ?_⟩⟩⟩
          have r3 := (r1.ex q2).ex q3
          have q := (q1.trans q2).trans q3
          cases r3 <;> try (cases h4; done)
          · rename_i z
            simp only [slD] at h4
            split at h4
            · cases h4
              exact .inr (.inr ⟨z, rfl, Nat.le_trans (by assumption) (by decide), k _ _ _ s3 q (.str _)⟩)
            · cases h4
          · rename_i p vs ds hs rr
            cases h4
            refine .inl ⟨p, vs, rfl, rl hs s3.ih, fun n hn => ?_⟩
            have g := Gr.new (o := .lst (cutV vs l u)) s3.ih hn
            exact k _ _ _ (s3.gr g) (q.trans g.i) (.lst upd_same ((rr.cut l u).ex g.i))
          · rename_i p vs ds hs rr
            cases h4
            refine .inr (.inl ⟨p, vs, rfl, ex_t s3.ih hs, fun hw => ?_, fun hw n hn => ?_⟩)
            · refine k _ _ _ s3 q (.tup hs ?_)
              have : cutV vs l u = vs := by
                unfold cutV
                rw [hw.1, hw.2]
                simp
              have r2 := rr.cut l u
              rwa [this] at r2
            · have g := Gr.new (o := .tup (cutV vs l u)) s3.ih hn
              exact k _ _ _ (s3.gr g) (q.trans g.i) (.tup (.inl (.inl upd_same)) ((rr.cut l u).ex g.i))
        · cases hm
      · cases hm
    · cases hm
  · cases hm
end
end Zf

set_option Elab.async false
set_option linter.all false
set_option maxRecDepth 100000
set_option maxHeartbeats 1000000
/-! Zf, part 4: statements, loops, comprehensions. -/
namespace Zf
open PySem PySem.Spec L2
section
variable {X : Cx} {cl : Nat → Addr} {e : Expr} {st : Stmt} {rest body els : List Stmt} {pos : Pos} {ma mb : MM D} {tb : MM Bool} {sm sm1 sm2 : SM}
/-! ### statements -/
def snx : SM := fun env => some (.nx env)
def sbk : SM := fun env => some (.bk env)
def sct : SM := fun env => some (.ct env)
def sseq (a b : SM) : SM := fun env => match a env with
  | some (.nx e1) => b e1
  | o => o
def sret (m : MM D) : SM := fun env => match m env with
  | some (d, e1) => some (.rt d e1)
  | none => none
def sdrop (m : MM D) : SM := fun env => match m env with
  | some (_, e1) => some (.nx e1)
  | none => none
def sif (t : MM Bool) (a b : SM) : SM := fun env => match t env with
  | some (true, e1) => a e1
  | some (false, e1) => b e1
  | none => none
/-- may a slot be stored to -/
def okS (env : En) (i : Nat) : Bool := decide (i < env.length) && (match env[i]? with
  | some (.mu true _) => false
  | _ => true)
theorem okS_of {env : En} {i : Nat} (h : okS env i = true) : i < env.length ∧ ∀ m, env[i]? ≠ some (.mu true m) := by
  unfold okS at h
  rw [Bool.and_eq_true, decide_eq_true_eq] at h
  refine ⟨h.1, fun m e => ?_⟩
  rw [e] at h
  cases h.2
def sset (i : Nat) (m : MM D) : SM := fun env => match m env with
  | some (d, e1) => if okS e1 i then some (.nx (e1.set i (.im d))) else none
  | none => none
def sown (i : Nat) (m : MM (List D)) : SM := fun env => match m env with
  | some (ds, e1) => if okS e1 i then some (.nx (e1.set i (.mu false (.ml ds)))) else none
  | none => none
theorem ess_nil : ESs X cl [] snx := pss_nil.zi fun Dn σ H h => by
  obtain ⟨F, I, env, ex, out, s, hm, k⟩ := h
  cases hm
  exact k σ I H s (Ex.refl _)
theorem es_pass : ES X cl (.Pass pos) snx := ps_pass.zi fun Dn σ H h => by
  obtain ⟨F, I, env, ex, out, s, hm, k⟩ := h
  cases hm
  exact k σ I H s (Ex.refl _)
theorem es_doc {x : Str} {j} {pos'} : ES X cl (.Expr (.Constant (.str x) j pos) pos') snx := ps_doc.zi fun Dn σ H h => by
  obtain ⟨F, I, env, ex, out, s, hm, k⟩ := h
  cases hm
  exact k σ I H s (Ex.refl _)
theorem es_break : ES X cl (.Break pos) sbk := ps_break.zi fun Dn σ H h => by
  obtain ⟨F, I, env, ex, out, s, hm, k⟩ := h
  cases hm
  exact k σ I H s (Ex.refl _)
theorem es_cont : ES X cl (.Continue pos) sct := ps_continue.zi fun Dn σ H h => by
  obtain ⟨F, I, env, ex, out, s, hm, k⟩ := h
  cases hm
  exact k σ I H s (Ex.refl _)
theorem ess_cons (h : ES X cl st sm1) (k : ESs X cl rest sm2) : ESs X cl (st :: rest) (sseq sm1 sm2) := (pss_cons h k).zi fun Dn σ H q => by
  obtain ⟨F, I, env, ex, out, s, hm, k⟩ := q
  unfold sseq at hm
  split at hm
  · rename_i e1 h1
    exact ⟨F, I, env, ex, .nx e1, s, h1, fun σ' I' H' s' e' => ⟨F, I', e1, ex, out, s', hm, k.ex e'⟩⟩
  · rename_i hn
    refine ⟨F, I, env, ex, out, s, hm, ?_⟩
    cases out with
    | nx e1 => exact absurd hm (hn e1)
    | bk e1 => exact k
    | ct e1 => exact k
    | rt d e1 => exact k
theorem ess_one (h : ES X cl st sm) : ESs X cl [st] sm := pss_one h
theorem es_ret (h : EM X cl e ma) : ES X cl (.Return (some e) pos) (sret ma) := (ps_ret h).zi fun Dn σ H q => by
  obtain ⟨F, I, env, ex, out, s, hm, k⟩ := q
  unfold sret at hm
  split at hm
  · rename_i d e1 h1
    cases hm
    exact ⟨F, I, env, ex, d, e1, s, h1, fun v I' H' s' e' r => k v σ I' H' s' e' r⟩
  · cases hm
theorem es_retN : ES X cl (.Return none pos) (sret (mc .non)) := ps_retN.zi fun Dn σ H q => by
  obtain ⟨F, I, env, ex, out, s, hm, k⟩ := q
  cases hm
  exact k .non σ I H s (Ex.refl _) .non
theorem es_expr (h : EM X cl e ma) (hs : swapsWith e none pos.line X.env = pure false := by rfl) : ES X cl (.Expr e pos) (sdrop ma) := (ps_expr h hs).zi fun Dn σ H q => by
  obtain ⟨F, I, env, ex, out, s, hm, k⟩ := q
  unfold sdrop at hm
  split at hm
  · rename_i d e1 h1
    cases hm
    exact ⟨F, I, env, ex, d, e1, s, h1, fun v I' H' s' e' r => k σ I' H' s' e'⟩
  · cases hm
theorem es_if (h : EB X cl e tb) (ha : ESs X cl body sm1) (hb : ESs X cl els sm2) : ES X cl (.If e body els pos) (sif tb sm1 sm2) := (ps_if h ha hb).zi fun Dn σ H q => by
  obtain ⟨F, I, env, ex, out, s, hm, k⟩ := q
  unfold sif at hm
  split at hm
  · rename_i e1 h1
    exact ⟨F, I, env, ex, true, e1, s, h1, fun I' H' s' e' => iteT ⟨F, I', e1, ex, out, s', hm, k.ex e'⟩⟩
  · rename_i e1 h1
    exact ⟨F, I, env, ex, false, e1, s, h1, fun I' H' s' e' => iteF ⟨F, I', e1, ex, out, s', hm, k.ex e'⟩⟩
  · cases hm
theorem SR.set {K : PySem.W.Frag} {F : Fx} {I H : Hp} {σ : L2.St} {env : En} {ex : List (Addr × HO)} (s : SR K cl F I H σ env ex) {i : Nat} {d : D} {v : V} (h : okS env i = true) (r : Rep K cl I v d) : SR K cl F I H (σ.set i (some v)) (env.set i (.im d)) ex :=
  let ⟨f, s⟩ := s
  let ⟨h1, h2⟩ := okS_of h
  ⟨f, s.setIm h2 h1 r⟩
theorem SR.setOwn {K : PySem.W.Frag} {F : Fx} {I H : Hp} {σ : L2.St} {env : En} {ex : List (Addr × HO)} {p : Addr} {vs : List V} {ds : List D} (s : SR K cl F I H σ env ((p, .lst vs) :: ex)) {i : Nat} (h : okS env i = true) (r : RepL K cl I vs ds) :
    SR K cl F I H (σ.set i (some (.ref p))) (env.set i (.mu false (.ml ds))) ex :=
  let ⟨f, s⟩ := s
  let ⟨h1, h2⟩ := okS_of h
  ⟨_, s.setOwn h2 h1 ⟨p, vs, rfl, rfl, (s.ex0 (p, .lst vs) (by simp)).2.1, r⟩⟩
theorem es_set (i : Nat) {x : Str} {pos' : Pos} (hN : X.N.Nodup) (h : EM X cl e ma) (hi : X.N[i]? = some x := by rfl) (hx : Loc X.env.scope x := by first | exact Or.inl rfl | exact Or.inr rfl)
    (hs : swapsWith e (some (.Name x pos')) pos.line X.env = pure false := by rfl) (hf : X.fn x = true ∨ X.env.scope.names.lookup x = some .local := by first | exact .inl rfl | exact .inr rfl) : ES X cl (.Assign [.Name x pos'] e pos) (sset i ma) := (ps_set (i := i) hN hi hx h hs hf).zi fun Dn σ H q => by
  obtain ⟨F, I, env, ex, out, s, hm, k⟩ := q
  unfold sset at hm
  split at hm
  · rename_i d e1 h1
    split at hm
    · rename_i ho
      cases hm
      exact ⟨F, I, env, ex, d, e1, s, h1, fun v I' H' s' e' r => k _ I' H' (s'.set ho r) e'⟩
    · cases hm
  · cases hm
theorem es_own (i : Nat) {x : Str} {pos' : Pos} {m : MM (List D)} (hN : X.N.Nodup) (h : EF X cl e m) (hi : X.N[i]? = some x := by rfl) (hx : Loc X.env.scope x := by first | exact Or.inl rfl | exact Or.inr rfl)
    (hs : swapsWith e (some (.Name x pos')) pos.line X.env = pure false := by rfl) (hf : X.fn x = true ∨ X.env.scope.names.lookup x = some .local := by first | exact .inl rfl | exact .inr rfl) : ES X cl (.Assign [.Name x pos'] e pos) (sown i m) := (ps_set (i := i) hN hi hx h hs hf).zi fun Dn σ H q => by
  obtain ⟨F, I, env, ex, out, s, hm, k⟩ := q
  unfold sown at hm
  split at hm
  · rename_i ds e1 h1
    split at hm
    · rename_i ho
      cases hm
      exact ⟨F, I, env, ex, ds, e1, s, h1, fun p vs I' H' s' e' r => k _ I' H' (s'.setOwn ho r) e'⟩
    · cases hm
  · cases hm
/-! a, b = x, y -/
inductive Pa where
  | im (d : D) | ow (ds : List D)
inductive PaR (K : PySem.W.Frag) (cl : Nat → Addr) (I : Hp) : List Pa → List V → List (Addr × HO) → Prop
  | nil : PaR K cl I [] [] []
  | im {d : D} {v : V} {as : List Pa} {vs : List V} {ps : List (Addr × HO)} : Rep K cl I v d → PaR K cl I as vs ps → PaR K cl I (.im d :: as) (v :: vs) ps
  | ow {ds : List D} {p : Addr} {ws : List V} {as : List Pa} {vs : List V} {ps : List (Addr × HO)} : RepL K cl I ws ds → PaR K cl I as vs ps → PaR K cl I (.ow ds :: as) (.ref p :: vs) ((p, .lst ws) :: ps)
def tP (K : PySem.W.Frag) (cl : Nat → Addr) (m : MM (List Pa)) : TA := fun σ H Q => ∃ F I env ex as env', SR K cl F I H σ env ex ∧ m env = some (as, env') ∧ ∀ vs ps I' H', SR K cl F I' H' σ env' (ps ++ ex) → Ex I I' → PaR K cl I' as vs ps → Q vs H'
abbrev EP (X : Cx) (cl : Nat → Addr) (es : List Expr) (m : MM (List Pa)) : Prop := PA X es (tP X.K cl m)
def pnil : MM (List Pa) := fun env => some ([], env)
def pcim (ma : MM D) (mr : MM (List Pa)) : MM (List Pa) := fun env => match ma env with
  | some (a, e1) => (match mr e1 with
    | some (r, e2) => some (.im a :: r, e2)
    | none => none)
  | none => none
def pcow (ma : MM (List D)) (mr : MM (List Pa)) : MM (List Pa) := fun env => match ma env with
  | some (a, e1) => (match mr e1 with
    | some (r, e2) => some (.ow a :: r, e2)
    | none => none)
  | none => none
theorem ep_nil : EP X cl [] pnil := pa_nil.zi fun σ H Q h => by
  obtain ⟨F, I, env, ex, as, env', s, hm, k⟩ := h
  cases hm
  exact k [] [] I H s (Ex.refl _) .nil
theorem PaR.ex {K : PySem.W.Frag} {I I' : Hp} (e : Ex I I') {as : List Pa} {vs : List V} {ps : List (Addr × HO)} (h : PaR K cl I as vs ps) : PaR K cl I' as vs ps := by
  induction h with
  | nil => exact .nil
  | im r _ ih => exact .im (r.ex e) ih
  | ow r _ ih => exact .ow (r.ex e) ih
theorem ep_im {es : List Expr} {mr : MM (List Pa)} (ha : EM X cl e ma) (hr : EP X cl es mr) (hs : starEach (e :: es) X.env = (false, eval e X.env) :: starEach es X.env := by rfl) : EP X cl (e :: es) (pcim ma mr) := (pa_cons ha hr hs).zi fun σ H Q h => by
  obtain ⟨F, I, env, ex, as, env', s, hm, k⟩ := h
  unfold pcim at hm
  split at hm
  · rename_i a e1 h1
    split at hm
    · rename_i r e2 h2
      cases hm
      exact ⟨F, I, env, ex, a, e1, s, h1, fun v I1 H1 s1 q1 r1 => ⟨F, I1, e1, ex, r, env', s1, h2, fun vs ps I2 H2 s2 q2 r2 => k (v :: vs) ps I2 H2 s2 (q1.trans q2) (.im (r1.ex q2) r2)⟩⟩
    · cases hm
  · cases hm
theorem SR.sub {K : PySem.W.Frag} {F : Fx} {I H : Hp} {σ : L2.St} {env : En} {ex ex' : List (Addr × HO)} (s : SR K cl F I H σ env ex) (h : List.Perm ex ex') : SR K cl F I H σ env ex' :=
  let ⟨f, s⟩ := s
  ⟨f, s.exSub (fun a ha => h.mem_iff.mpr ha) ((h.map _).nodup_iff.mp s.exn)⟩
theorem ep_ow {es : List Expr} {m : MM (List D)} {mr : MM (List Pa)} (ha : EF X cl e m) (hr : EP X cl es mr) (hs : starEach (e :: es) X.env = (false, eval e X.env) :: starEach es X.env := by rfl) : EP X cl (e :: es) (pcow m mr) := (pa_cons ha hr hs).zi fun σ H Q h => by
  obtain ⟨F, I, env, ex, as, env', s, hm, k⟩ := h
  unfold pcow at hm
  split at hm
  · rename_i a e1 h1
    split at hm
    · rename_i r e2 h2
      cases hm
      refine ⟨F, I, env, ex, a, e1, s, h1, fun p ws I1 H1 s1 q1 r1 => ⟨F, I1, e1, _, r, env', s1, h2, fun vs ps I2 H2 s2 q2 r2 => k (.ref p :: vs) ((p, .lst ws) :: ps) I2 H2 (s2.sub ?_) (q1.trans q2) (.ow (r1.ex q2) r2)⟩⟩
      exact List.perm_middle
    · cases hm
  · cases hm
/-- the stores, one behind another -/
def setsE : List Nat → List Pa → En → Option En
  | [], [], e => some e
  | i :: is, .im d :: as, e => if okS e i then setsE is as (e.set i (.im d)) else none
  | i :: is, .ow ds :: as, e => if okS e i then setsE is as (e.set i (.mu false (.ml ds))) else none
  | _, _, _ => none
def setsV : List Nat → List V → L2.St → L2.St
  | i :: is, v :: vs, σ => setsV is vs (σ.set i (some v))
  | _, _, σ => σ
theorem SR.sets {K : PySem.W.Frag} {F : Fx} {I H : Hp} {ex : List (Addr × HO)} {as : List Pa} {vs : List V} {ps : List (Addr × HO)} (r : PaR K cl I as vs ps) : ∀ {is : List Nat} {σ : L2.St} {env env' : En}, SR K cl F I H σ env (ps ++ ex) → setsE is as env = some env' →
    SR K cl F I H (setsV is vs σ) env' ex := by
  induction r with
  | nil =>
    intro is σ env env' s h
    cases is with
    | nil => cases h; exact s
    | cons i is => cases h
  | @im d v as vs ps r _ ih =>
    intro is σ env env' s h
    cases is with
    | nil => cases h
    | cons i is =>
      simp only [setsE] at h
      split at h
      · rename_i ho
        exact ih (s.set ho r) h
      · cases h
  | @ow ds p ws as vs ps r _ ih =>
    intro is σ env env' s h
    cases is with
    | nil => cases h
    | cons i is =>
      simp only [setsE] at h
      split at h
      · rename_i ho
        exact ih (SR.setOwn s ho r) h
      · cases h
theorem PaR.length {K : PySem.W.Frag} {I : Hp} {as : List Pa} {vs : List V} {ps : List (Addr × HO)} (r : PaR K cl I as vs ps) : vs.length = as.length := by
  induction r with
  | nil => rfl
  | im _ _ ih => simp [ih]
  | ow _ _ ih => simp [ih]
theorem setsE_length : ∀ {is : List Nat} {as : List Pa} {e e' : En}, setsE is as e = some e' → as.length = is.length
  | [], [], _, _, _ => rfl
  | [], .im _ :: _, _, _, h => by cases h
  | [], .ow _ :: _, _, _, h => by cases h
  | i :: is, [], _, _, h => by cases h
  | i :: is, .im d :: as, e, e', h => by
    simp only [setsE] at h
    split at h
    · simp [setsE_length h]
    · cases h
  | i :: is, .ow d :: as, e, e', h => by
    simp only [setsE] at h
    split at h
    · simp [setsE_length h]
    · cases h
def spar (is : List Nat) (m : MM (List Pa)) : SM := fun env => match m env with
  | some (as, e1) => (match setsE is as e1 with
    | some e2 => some (.nx e2)
    | none => none)
  | none => none
theorem spar_of {is : List Nat} {m : MM (List Pa)} {env : En} {out : Out} (h : spar is m env = some out) : ∃ as e1 e2, m env = some (as, e1) ∧ setsE is as e1 = some e2 ∧ out = .nx e2 := by
  unfold spar at h
  split at h
  · rename_i as e1 h1
    split at h
    · rename_i e2 h2
      cases h
      exact ⟨as, e1, e2, h1, h2, rfl⟩
    · cases h
  · cases h
theorem es_par2 (i j : Nat) {x y : Str} {a b : Expr} {px py pt pt2 : Pos} {kt k2} {m : MM (List Pa)} (hN : X.N.Nodup) (h : EP X cl [a, b] m) (hc : X.calm = true := by rfl) (hi : X.N[i]? = some x := by rfl) (hj : X.N[j]? = some y := by rfl) (hij : i ≠ j := by decide)
    (hx : X.env.scope.names.lookup x = some .local := by rfl) (hy : X.env.scope.names.lookup y = some .local := by rfl) (hw : swappedStores [.Tuple [.Name x px, .Name y py] kt pt] (.Tuple [a, b] k2 pt2) X.env = pure (some [x, y]) := by rfl)
    (hs : swapsWithSole [.Tuple [.Name x px, .Name y py] kt pt] (.Tuple [a, b] k2 pt2) pos.line X.env = pure false := by rfl) :
    ES X cl (.Assign [.Tuple [.Name x px, .Name y py] kt pt] (.Tuple [a, b] k2 pt2) pos) (spar [i, j] m) := by
  refine (ps_par hc hN hi hj hij hx hy h hw hs).zi fun Dn σ H q => ?_
  obtain ⟨F, I, env, ex, out, s, hm, k⟩ := q
  obtain ⟨as, e1, e2, h1, h2, rfl⟩ := spar_of hm
  refine ⟨F, I, env, ex, as, e1, s, h1, fun vs ps I' H' s' e' r => ?_⟩
  have hl : vs.length = 2 := by rw [r.length, setsE_length h2]; rfl
  have s2 := SR.sets r s' h2
  match vs, hl with
  | [v, w], _ => exact ⟨v, w, rfl, k _ I' H' s2 e'⟩
theorem es_par3 (i j l : Nat) {x y z : Str} {a b c : Expr} {px py pz pt pt2 : Pos} {kt k2} {m : MM (List Pa)} (hN : X.N.Nodup) (h : EP X cl [a, b, c] m) (hc : X.calm = true := by rfl) (hi : X.N[i]? = some x := by rfl) (hj : X.N[j]? = some y := by rfl) (hl : X.N[l]? = some z := by rfl)
    (hij : i ≠ j := by decide) (hil : i ≠ l := by decide) (hjl : j ≠ l := by decide)
    (hx : X.env.scope.names.lookup x = some .local := by rfl) (hy : X.env.scope.names.lookup y = some .local := by rfl) (hz : X.env.scope.names.lookup z = some .local := by rfl)
    (hw : swappedStores [.Tuple [.Name x px, .Name y py, .Name z pz] kt pt] (.Tuple [a, b, c] k2 pt2) X.env = pure (some [x, y, z]) := by rfl)
    (hs : swapsWithSole [.Tuple [.Name x px, .Name y py, .Name z pz] kt pt] (.Tuple [a, b, c] k2 pt2) pos.line X.env = pure false := by rfl) :
    ES X cl (.Assign [.Tuple [.Name x px, .Name y py, .Name z pz] kt pt] (.Tuple [a, b, c] k2 pt2) pos) (spar [i, j, l] m) := by
  refine (ps_par3 hc hN hi hj hl hij hil hjl hx hy hz h hw hs).zi fun Dn σ H q => ?_
  obtain ⟨F, I, env, ex, out, s, hm, k⟩ := q
  obtain ⟨as, e1, e2, h1, h2, rfl⟩ := spar_of hm
  refine ⟨F, I, env, ex, as, e1, s, h1, fun vs ps I' H' s' e' r => ?_⟩
  have hl : vs.length = 3 := by rw [r.length, setsE_length h2]; rfl
  have s2 := SR.sets r s' h2
  match vs, hl with
  | [u, v, w], _ => exact ⟨u, v, w, rfl, k _ I' H' s2 e'⟩
/-! ### targets -/
inductive Tg where
  | one (i : Nat) | tup (is : List Nat)
def gs : List Nat → List V → L2.St → Hp → (L2.St → Hp → Prop) → Prop
  | [] => gNil
  | i :: is => gCons (gName i) (gs is)
def gR (K : PySem.W.Frag) : Tg → TG
  | .one i => gName i
  | .tup is => gTup K is.length (gs is)
def setL : List Nat → List D → En → Option En
  | [], [], e => some e
  | i :: is, d :: ds, e => if okS e i then setL is ds (e.set i (.im d)) else none
  | _, _, _ => none
def mtg : Tg → D → En → Option En
  | .one i, d, e => if okS e i then some (e.set i (.im d)) else none
  | .tup is, .tup ds, e => setL is ds e
  | _, _, _ => none
def Tg.slots : Tg → List Nat
  | .one i => [i]
  | .tup is => is
theorem wipe_set {σ : L2.St} {i : Nat} {o : Option V} : ∀ {vs : List Nat}, i ∈ vs → wipe (σ.set i o) vs = wipe σ vs
  | v :: vs, h => by
    unfold wipe
    by_cases q : i ∈ vs
    · rw [wipe_set q]
    · have e : i = v := by simpa [q] using h
      subst e
      apply List.ext_getElem?
      intro n
      by_cases hn : i = n
      · subst hn
        by_cases hl : i < σ.length
        · rw [List.getElem?_set_self (by rw [wipe_length]; simpa using hl), List.getElem?_set_self (by rw [wipe_length]; exact hl)]
        · rw [List.getElem?_eq_none (by rw [List.length_set, wipe_length, List.length_set]; omega), List.getElem?_eq_none (by rw [List.length_set, wipe_length]; omega)]
      · rw [List.getElem?_set_ne hn, List.getElem?_set_ne hn]
        have : ∀ {ws : List Nat}, i ∉ ws → (wipe (σ.set i o) ws)[n]? = (wipe σ ws)[n]? := by
          intro ws
          induction ws with
          | nil => intro _; exact List.getElem?_set_ne hn
          | cons w ws ih =>
            intro hw
            unfold wipe
            have h1 := ih fun z => hw (by simp [z])
            by_cases hwn : w = n
            · subst hwn
              by_cases hl : w < σ.length
              · rw [List.getElem?_set_self (by rw [wipe_length]; simpa using hl), List.getElem?_set_self (by rw [wipe_length]; exact hl)]
              · rw [List.getElem?_eq_none (by rw [List.length_set, wipe_length]; simpa using hl), List.getElem?_eq_none (by rw [List.length_set, wipe_length]; simpa using hl)]
            · rw [List.getElem?_set_ne hwn, List.getElem?_set_ne hwn]; exact h1
        exact this q
theorem SR.setL {K : PySem.W.Frag} {F : Fx} {I H : Hp} {ex : List (Addr × HO)} : ∀ {is : List Nat} {vs : List V} {ds : List D} {σ : L2.St} {env env' : En} {Q : L2.St → Hp → Prop}, SR K cl F I H σ env ex → RepL K cl I vs ds → Zf.setL is ds env = some env' →
    (∀ σ', SR K cl F I H σ' env' ex → (∀ ws, (∀ i ∈ is, i ∈ ws) → wipe σ' ws = wipe σ ws) → Q σ' H) → gs is vs σ H Q
  | [], vs, ds, σ, env, env', Q, s, r, h, k => by
    cases r with
    | nil => cases h; exact ⟨rfl, k σ s fun _ _ => rfl⟩
    | cons _ _ => cases h
  | i :: is, vs, ds, σ, env, env', Q, s, r, h, k => by
    cases r with
    | nil => cases h
    | @cons v d vs ds r1 r =>
      simp only [Zf.setL] at h
      split at h
      · rename_i ho
        refine ⟨v, vs, rfl, SR.setL (is := is) (s.set ho r1) r h fun σ' s' hw => k σ' s' fun ws hws => ?_⟩
        rw [hw ws fun j hj => hws j (by simp [hj]), wipe_set (hws i (by simp))]
      · cases h
theorem SR.tg {K : PySem.W.Frag} {F : Fx} {I H : Hp} {ex : List (Addr × HO)} {t : Tg} {v : V} {d : D} {σ : L2.St} {env env' : En} {Q : L2.St → Hp → Prop} (s : SR K cl F I H σ env ex) (r : Rep K cl I v d) (h : mtg t d env = some env')
    (k : ∀ σ', SR K cl F I H σ' env' ex → (∀ ws, (∀ i ∈ t.slots, i ∈ ws) → wipe σ' ws = wipe σ ws) → Q σ' H) : gR K t v σ H Q := by
  cases t with
  | one i =>
    simp only [mtg] at h
    split at h
    · rename_i ho
      cases h
      exact k _ (s.set ho r) fun ws hw => wipe_set (hw i (by simp [Tg.slots]))
    · cases h
  | tup is =>
    cases r <;> try (cases h; done)
    rename_i a vs ds hs r
    refine ⟨a, vs, rfl, ex_t s.ih hs, ?_, s.setL r h k⟩
    rw [r.length]
    have : ∀ {is : List Nat} {ds : List D} {e e' : En}, Zf.setL is ds e = some e' → ds.length = is.length := by
      intro is
      induction is with
      | nil => intro ds e e' h; cases ds with
        | nil => rfl
        | cons _ _ => cases h
      | cons i is ih => intro ds e e' h; cases ds with
        | nil => cases h
        | cons d ds =>
          simp only [Zf.setL] at h
          split at h
          · simp [ih h]
          · cases h
    exact this h
def sasg (t : Tg) (m : MM D) : SM := fun env => match m env with
  | some (d, e1) => (match mtg t d e1 with
    | some e2 => some (.nx e2)
    | none => none)
  | none => none
theorem es_asg {tg : Expr} {t : Tg} (h : EM X cl e ma) (hg : PG X tg (gR X.K t)) (hs : swapsWithSole [tg] e pos.line X.env = pure false := by rfl) (hw : swappedStores [tg] e X.env = pure none := by rfl)
    (h1 : (assignEach [tg] X.env).map (·.2) = [assign tg X.env] := by rfl) : ES X cl (.Assign [tg] e pos) (sasg t ma) := (ps_asg h hg hs hw h1).zi fun Dn σ H q => by
  obtain ⟨F, I, env, ex, out, s, hm, k⟩ := q
  unfold sasg at hm
  split at hm
  · rename_i d e1 h1
    split at hm
    · rename_i e2 h2
      cases hm
      exact ⟨F, I, env, ex, d, e1, s, h1, fun v I' H' s' e' r => s'.tg r h2 fun σ' s2 _ => k σ' I' H' s2 e'⟩
    · cases hm
  · cases hm
/-! ### what is walked -/
structure WD (K : PySem.W.Frag) (cl : Nat → Addr) (I0 : Hp) (J : It) (ds : List D) : Prop where
  go : ∀ i H, i < ds.length → Ex I0 H → J.go i H
  stop : ∀ H, Ex I0 H → J.stop ds.length H
  yld : ∀ i I H x H', i < ds.length → Ex I0 I → Ex I H → J.yld i H x H' → ∃ I' d, ds[i]? = some d ∧ Gr I H I' H' ∧ Rep K cl I' x d
def tI (K : PySem.W.Frag) (cl : Nat → Addr) (m : MM (List D)) : TI := fun σ H R => ∃ F I env ex ds env', SR K cl F I H σ env ex ∧ m env = some (ds, env') ∧ ∀ J I' H', SR K cl F I' H' σ env' ex → Ex I I' → WD K cl I' J ds → R J H'
abbrev EI (X : Cx) (cl : Nat → Addr) (tg it : Expr) (m : MM (List D)) : Prop := PI X tg it (tI X.K cl m)
def forL (t : Tg) (mb : SM) : List D → En → Option Out
  | [], e => some (.nx e)
  | d :: ds, e => match mtg t d e with
    | some e1 => (match mb e1 with
      | some (.nx e2) => forL t mb ds e2
      | some (.ct e2) => forL t mb ds e2
      | some (.bk e2) => some (.nx e2)
      | some (.rt r e2) => some (.rt r e2)
      | none => none)
    | none => none
def sfor (t : Tg) (mi : MM (List D)) (mb : SM) : SM := fun env => match mi env with
  | some (ds, e1) => forL t mb ds e1
  | none => none
theorem es_for {tg it : Expr} {t : Tg} {mi : MM (List D)} (hi : EI X cl tg it mi) (hg : PG X tg (gR X.K t)) (hb : ESs X cl body sm) (hs : ∀ x, foldedSetIterable it X.env x = pure x := by intro _; rfl) (hc : X.calm = true := by rfl) (hp : PassesOwn (model X.prog X.w) X.A X.env X.xe := by exact PassesOwn.never) : ES X cl (.For tg it body [] pos) (sfor t mi sm) := by
  refine (ps_for hp hc hi hg hb hs).zi fun Dn σ H q => ?_
  obtain ⟨F, I, env, ex, out, s, hm, k⟩ := q
  unfold sfor at hm
  split at hm
  · rename_i ds e1 h1
    refine ⟨F, I, env, ex, ds, e1, s, h1, fun J I1 H1 s1 q1 wd => ?_⟩
    refine ⟨fun i m σ H => m = ds.length - i ∧ i ≤ ds.length ∧ ∃ I' ei, SR X.K cl F I' H σ ei ex ∧ Ex I1 I' ∧ forL t sm (ds.drop i) ei = some out, ⟨ds.length, by simp, Nat.zero_le _, I1, e1, s1, Ex.refl _, hm⟩, ?_⟩
    rintro i m σ H ⟨rfl, hi, I', ei, s', q', hf⟩
    by_cases hlt : i < ds.length
    · right
      refine ⟨wd.go i H hlt (q'.trans s'.ih), fun σ2 H2 => ∃ I2 e2, SR X.K cl F I2 H2 σ2 e2 ex ∧ Ex I1 I2 ∧ forL t sm (ds.drop (i + 1)) e2 = some out, fun σ2 H2 ⟨I2, e2, s2, q2, h2⟩ => ⟨ds.length - (i + 1), by omega, rfl, hlt, I2, e2, s2, q2, h2⟩, fun x H2 hy => ?_⟩
      obtain ⟨I2, d, hd, g, r⟩ := wd.yld i I' H x H2 hlt q' s'.ih hy
      have e : ds.drop i = d :: ds.drop (i + 1) := by
        rw [List.drop_eq_getElem_cons hlt]
        congr
        have := List.getElem?_eq_getElem hlt
        rw [hd] at this
        exact (Option.some.inj this).symm
      rw [e] at hf
      simp only [forL] at hf
      split at hf
      · rename_i e2 h2
        refine (s'.gr g).tg r h2 fun σ3 s3 _ => ?_
        have q3 : Ex I1 I2 := q'.trans g.i
        split at hf
        · rename_i e3 h3
          exact ⟨F, I2, e2, ex, .nx e3, s3, h3, fun σ4 I4 H4 s4 q4 => ⟨I4, e3, s4, q3.trans q4, hf⟩⟩
        · rename_i e3 h3
          exact ⟨F, I2, e2, ex, .ct e3, s3, h3, fun σ4 I4 H4 s4 q4 => ⟨I4, e3, s4, q3.trans q4, hf⟩⟩
        · rename_i e3 h3
          cases hf
          exact ⟨F, I2, e2, ex, .bk e3, s3, h3, fun σ4 I4 H4 s4 q4 => k σ4 I4 H4 s4 ((q1.trans q3).trans q4)⟩
        · rename_i r2 e3 h3
          cases hf
          exact ⟨F, I2, e2, ex, .rt r2 e3, s3, h3, fun v σ4 I4 H4 s4 q4 r4 => k v σ4 I4 H4 s4 ((q1.trans q3).trans q4) r4⟩
        · cases hf
      · cases hf
    · left
      have e : i = ds.length := by omega
      subst e
      rw [List.drop_length] at hf
      cases hf
      exact ⟨wd.stop H (q'.trans s'.ih), k σ I' H s' (q1.trans q')⟩
  · cases hm
/-! ### while -/
def swhile (t : MM Bool) (mb : SM) : Nat → SM
  | 0 => fun _ => none
  | n + 1 => fun env => match t env with
    | some (false, e1) => some (.nx e1)
    | some (true, e1) => (match mb e1 with
      | some (.nx e2) => swhile t mb n e2
      | some (.ct e2) => swhile t mb n e2
      | some (.bk e2) => some (.nx e2)
      | some (.rt r e2) => some (.rt r e2)
      | none => none)
    | none => none
theorem es_while {t : MM Bool} (n : Nat) (hc : EB X cl e t) (hb : ESs X cl body sm) (hp : PassesOwn (model X.prog X.w) X.A X.env X.xe := by exact PassesOwn.never) : ES X cl (.While e body [] pos) (swhile t sm n) := by
  refine (ps_while hp hc hb).zi fun Dn σ H q => ?_
  obtain ⟨F, I, env, ex, out, s, hm, k⟩ := q
  refine ⟨fun m σ H => ∃ I' ei, SR X.K cl F I' H σ ei ex ∧ Ex I I' ∧ swhile t sm m ei = some out, ⟨n, I, env, s, Ex.refl _, hm⟩, ?_⟩
  rintro m σ H ⟨I', ei, s', q', hf⟩
  cases m with
  | zero => cases hf
  | succ m =>
    simp only [swhile] at hf
    split at hf
    · rename_i e1 h1
      cases hf
      exact ⟨F, I', ei, ex, false, e1, s', h1, fun I2 H2 s2 q2 => iteF (k σ I2 H2 s2 (q'.trans q2))⟩
    · rename_i e1 h1
      refine ⟨F, I', ei, ex, true, e1, s', h1, fun I2 H2 s2 q2 => iteT ⟨fun σ3 H3 => ∃ I3 e3, SR X.K cl F I3 H3 σ3 e3 ex ∧ Ex I I3 ∧ swhile t sm m e3 = some out, fun σ3 H3 ⟨I3, e3, s3, q3, h3⟩ => ⟨m, by omega, I3, e3, s3, q3, h3⟩, ?_⟩⟩
      have q3 : Ex I I2 := q'.trans q2
      split at hf
      · rename_i e3 h3
        exact ⟨F, I2, e1, ex, .nx e3, s2, h3, fun σ4 I4 H4 s4 q4 => ⟨I4, e3, s4, q3.trans q4, hf⟩⟩
      · rename_i e3 h3
        exact ⟨F, I2, e1, ex, .ct e3, s2, h3, fun σ4 I4 H4 s4 q4 => ⟨I4, e3, s4, q3.trans q4, hf⟩⟩
      · rename_i e3 h3
        cases hf
        exact ⟨F, I2, e1, ex, .bk e3, s2, h3, fun σ4 I4 H4 s4 q4 => k σ4 I4 H4 s4 (q3.trans q4)⟩
      · rename_i r2 e3 h3
        cases hf
        exact ⟨F, I2, e1, ex, .rt r2 e3, s2, h3, fun v σ4 I4 H4 s4 q4 r4 => k v σ4 I4 H4 s4 (q3.trans q4) r4⟩
      · cases hf
    · cases hf
end
end Zf

set_option Elab.async false
set_option linter.all false
set_option maxRecDepth 100000
set_option maxHeartbeats 1000000
/-! Zf, part 5: comprehensions, calls of defs, defs. -/
namespace Zf
open PySem PySem.Spec L2
/-! ### comprehensions -/
def wipeE (e : En) : List Nat → En
  | [] => e
  | v :: vs => (wipeE e vs).set v .no
def okW (e : En) (own : List Nat) : Bool := own.all fun i => match e[i]? with
  | some (.mu _ _) => false
  | _ => true
theorem wipeE_length (e : En) : ∀ vs : List Nat, (wipeE e vs).length = e.length
  | [] => rfl
  | v :: vs => by unfold wipeE; rw [List.length_set, wipeE_length e vs]
theorem wipeE_mu {e : En} {i : Nat} {p : Bool} {m : Mu} : ∀ {vs : List Nat}, (wipeE e vs)[i]? = some (.mu p m) → e[i]? = some (.mu p m)
  | [], h => h
  | v :: vs, h => by
    unfold wipeE at h
    by_cases q : v = i
    · subst q
      by_cases hl : v < (wipeE e vs).length
      · rw [List.getElem?_set_self hl] at h; cases h
      · rw [List.getElem?_eq_none (by simpa using hl)] at h; cases h
    · rw [List.getElem?_set_ne q] at h
      exact wipeE_mu h
section
variable {K : PySem.W.Frag} {cl : Nat → Addr}
theorem SR.wipe {F : Fx} {I H : Hp} {ex : List (Addr × HO)} {σ : L2.St} {env : En} (s : SR K cl F I H σ env ex) : ∀ {vs : List Nat}, okW env vs = true → SR K cl F I H (L2.wipe σ vs) (wipeE env vs) ex
  | [], _ => s
  | v :: vs, h => by
    unfold okW at h
    rw [List.all_cons, Bool.and_eq_true] at h
    obtain ⟨f, s2⟩ := SR.wipe s (vs := vs) h.2
    refine ⟨f, s2.setNo fun m e => ?_⟩
    have e2 := wipeE_mu e
    rw [e2] at h
    cases h.1
theorem SRx.congr {F : Fx} {I H : Hp} {ex : List (Addr × HO)} {σ σ' : L2.St} {env : En} {f : Nat → List Addr} (s : SRx K cl F I H σ env f ex) (hl : σ'.length = σ.length) (h : ∀ (i : Nat), (∃ x : Sl, env[i]? = some x ∧ x ≠ Sl.no) → σ'[i]? = σ[i]?) : SRx K cl F I H σ' env f ex where
  sl := ⟨fun i d e => by
      obtain ⟨v, h1, h2⟩ := s.sl.im i d e
      exact ⟨v, by rw [h i ⟨_, e, by simp⟩]; exact h1, h2⟩, fun i p m e => by
      obtain ⟨⟨v, h1, h2⟩, h3⟩ := s.sl.mu i p m e
      exact ⟨⟨v, by rw [h i ⟨_, e, by simp⟩]; exact h1, h2⟩, h3⟩, s.sl.dj⟩
  ln := s.ln.trans hl.symm
  ih := s.ih
  ii := s.ii
  fr := s.fr
  st := s.st
  nw := s.nw
  pn := fun i p m e => by
    obtain ⟨m', h1, h2, h3⟩ := s.pn i p m e
    exact ⟨m', h1, h2, by rw [h i ⟨_, h1, by simp⟩]; exact h3⟩
  ex0 := s.ex0
  exd := s.exd
  exn := s.exn
/-- the own slots are forgotten -/
def AllNo (e : En) (own : List Nat) : Prop := ∀ i ∈ own, ∀ x : Sl, e[i]? = some x → x = Sl.no
theorem allNo_wipe {e : En} : ∀ {vs : List Nat}, AllNo (wipeE e vs) vs
  | v :: vs, i, hi, x, h => by
    unfold wipeE at h
    by_cases q : v = i
    · subst q
      by_cases hl : v < (wipeE e vs).length
      · rw [List.getElem?_set_self hl] at h; cases h; rfl
      · rw [List.getElem?_eq_none (by simpa using hl)] at h; cases h
    · rw [List.getElem?_set_ne q] at h
      exact allNo_wipe i (by simpa [Ne.symm q] using hi) x h
theorem SR.unwipe {F : Fx} {I H : Hp} {ex : List (Addr × HO)} {σ : L2.St} {env : En} {vs : List Nat} (s : SR K cl F I H (L2.wipe σ vs) env ex) (hn : AllNo env vs) : SR K cl F I H σ env ex := by
  obtain ⟨f, s⟩ := s
  refine ⟨f, s.congr (by rw [wipe_length]) fun i ⟨x, e, ne⟩ => ?_⟩
  have hi : i ∉ vs := fun z => ne (hn i z x e)
  exact (wipe_out hi).symm
end
def lcL (t : Tg) (own : List Nat) (mt : MM Bool) (me : MM D) : List D → En → Option (List D × En)
  | [], e => some ([], e)
  | d :: ds, e => match mtg t d e with
    | some e1 => (match mt e1 with
      | some (true, e2) => (match me e2 with
        | some (x, e3) => if okW e3 own then (match lcL t own mt me ds (wipeE e3 own) with
          | some (xs, e4) => some (x :: xs, e4)
          | none => none) else none
        | none => none)
      | some (false, e2) => if okW e2 own then lcL t own mt me ds (wipeE e2 own) else none
      | none => none)
    | none => none
/-- a comprehension -/
def mlc (t : Tg) (own : List Nat) (mi : MM (List D)) (mt : MM Bool) (me : MM D) : MM (List D) := fun env => match mi env with
  | some (ds, e1) => if ds.length ≤ 100000 ∧ okW e1 own = true then lcL t own mt me ds (wipeE e1 own) else none
  | none => none
theorem lcL_le {t : Tg} {own : List Nat} {mt : MM Bool} {me : MM D} : ∀ {ds xs : List D} {e e' : En}, lcL t own mt me ds e = some (xs, e') → xs.length ≤ ds.length
  | [], xs, e, e', h => by cases h; exact Nat.le_refl _
  | d :: ds, xs, e, e', h => by
    simp only [lcL] at h
    split at h
    · split at h
      · split at h
        · split at h
          · split at h
            · rename_i h1
              cases h
              exact Nat.succ_le_succ (lcL_le h1)
            · cases h
          · cases h
        · cases h
      · split at h
        · exact Nat.le_succ_of_le (lcL_le h)
        · cases h
      · cases h
    · cases h
section
variable {X : Cx} {cl : Nat → Addr}
abbrev mtrue : MM Bool := fun env => some (true, env)
abbrev EBs (X : Cx) (cl : Nat → Addr) (es : List Expr) (m : MM Bool) : Prop := PTs X es (tBo X.K cl m)
theorem ets_nil : EBs X cl [] mtrue := by
  refine ⟨fun pins s σ H Q I h => ?_⟩
  obtain ⟨F, J, env, ex, b, env', s1, hm, k⟩ := h
  cases hm
  exact pts_nil.run pins s σ H Q I (k J H s1 (Ex.refl _))
theorem ets_one {c : Expr} {m : MM Bool} (h : EB X cl c m) : EBs X cl [c] m := pts_one h
theorem SR.last {K : PySem.W.Frag} {F : Fx} {I H : Hp} {σ : L2.St} {env : En} {p : Addr} {o : HO} {ex : List (Addr × HO)} (s : SR K cl F I H σ env ((p, o) :: ex)) : H p = some o := let ⟨_, s⟩ := s; (s.ex0 (p, o) (by simp)).2.1
theorem wipe_wipe (σ : L2.St) (vs : List Nat) : wipe (wipe σ vs) vs = wipe σ vs := by
  apply List.ext_getElem?
  intro n
  by_cases hn : n ∈ vs
  · have z : ∀ τ : L2.St, ∀ us : List Nat, n ∈ us → n < τ.length → (wipe τ us)[n]? = some none := by
      intro τ us
      induction us with
      | nil => intro h; cases h
      | cons u us ih =>
        intro h hl
        unfold wipe
        by_cases hu : u = n
        · subst hu; rw [List.getElem?_set_self (by rw [wipe_length]; exact hl)]
        · rw [List.getElem?_set_ne hu]; exact ih (by simpa [Ne.symm hu] using h) hl
    by_cases hl : n < σ.length
    · rw [z _ vs hn (by rw [wipe_length]; exact hl), z _ vs hn hl]
    · rw [List.getElem?_eq_none (by rw [wipe_length, wipe_length]; omega), List.getElem?_eq_none (by rw [wipe_length]; omega)]
  · rw [wipe_out hn]
theorem lc_imp {K : PySem.W.Frag} {own : List Nat} {t : Tg} {mi : MM (List D)} {mt : MM Bool} {me : MM D} (hsl : ∀ i ∈ t.slots, i ∈ own) (σ : L2.St) (H : Hp) (Q : VK) (q : tF K cl (mlc t own mi mt me) σ H Q) :
    tLc (tI K cl mi) (gR K t) (tBo K cl mt) (tM K cl me) own σ H Q := by
  obtain ⟨F, I, env, ex, out, env', s, hm, k⟩ := q
  unfold mlc at hm
  split at hm
  · rename_i ds e1 h1
    split at hm
    · rename_i hw
      obtain ⟨hlen, hw⟩ := hw
      have hlen2 : ds.length ≤ sizeLine := Nat.le_trans hlen (by decide)
      refine ⟨F, I, env, ex, ds, e1, s, h1, fun J I1 H1 s1 q1 wd DD hD => ?_⟩
      refine ⟨fun i m H => m = ds.length - i ∧ i ≤ ds.length ∧ ∃ I' ei acc ws xs, SR K cl F I' H (wipe σ own) ei ((DD, .lst ws) :: ex) ∧ Ex I1 I' ∧ RepL K cl I' ws acc ∧ AllNo ei own ∧ acc.length ≤ i ∧ lcL t own mt me (ds.drop i) ei = some (xs, env') ∧ out = acc ++ xs,
        ⟨ds.length, by simp, Nat.zero_le _, I1, _, [], [], out, (s1.wipe hw).lay hD, Ex.refl _, .nil, allNo_wipe, Nat.le_refl _, hm, rfl⟩, ?_⟩
      rintro i m H ⟨rfl, hi, I', ei, acc, ws, xs, s', q', ra, hno, hacc, hf, hout⟩
      by_cases hlt : i < ds.length
      · right
        refine ⟨wd.go i H hlt (q'.trans s'.ih), fun H2 => ∃ I2 e2 acc2 ws2 xs2, SR K cl F I2 H2 (wipe σ own) e2 ((DD, .lst ws2) :: ex) ∧ Ex I1 I2 ∧ RepL K cl I2 ws2 acc2 ∧ AllNo e2 own ∧ acc2.length ≤ i + 1 ∧ lcL t own mt me (ds.drop (i + 1)) e2 = some (xs2, env') ∧ out = acc2 ++ xs2,
          fun H2 ⟨I2, e2, acc2, ws2, xs2, h⟩ => ⟨ds.length - (i + 1), by omega, rfl, hlt, I2, e2, acc2, ws2, xs2, h⟩, fun x H2 hy => ?_⟩
        obtain ⟨I2, d, hd, g, r⟩ := wd.yld i I' H x H2 hlt q' s'.ih hy
        have e : ds.drop i = d :: ds.drop (i + 1) := by
          rw [List.drop_eq_getElem_cons hlt]
          congr
          have := List.getElem?_eq_getElem hlt
          rw [hd] at this
          exact (Option.some.inj this).symm
        rw [e] at hf
        simp only [lcL] at hf
        have q3 : Ex I1 I2 := q'.trans g.i
        split at hf
        · rename_i e2 h2
          refine (s'.gr g).tg r h2 fun σ3 s3 hwp => ⟨(hwp _ hsl).trans (wipe_wipe _ _), ?_⟩
          have hw3 : wipe σ3 own = wipe σ own := (hwp _ hsl).trans (wipe_wipe _ _)
          split at hf
          · rename_i e3 h3
            refine ⟨F, I2, e2, _, true, e3, s3, h3, fun I3 H3 s4 q4 => ?_⟩
            split at hf
            · rename_i y e4 h4
              split at hf
              · rename_i hok
                split at hf
                · rename_i xs2 e5 h5
                  cases hf
                  refine iteT ⟨F, I3, e3, _, y, e4, s4, h4, fun v I4 H4 s5 q5 r5 => ⟨ws, s5.last, ?_, ?_⟩⟩
                  · rw [ra.length]
                    exact Nat.lt_of_le_of_lt hacc (Nat.lt_of_lt_of_le hlt hlen2)
                  · have s6 := s5.wipe hok
                    rw [hw3] at s6
                    obtain ⟨f6, s6⟩ := s6
                    exact ⟨I4, _, acc ++ [y], ws ++ [v], xs2, ⟨f6, s6.exSet⟩, (q3.trans q4).trans q5, ((ra.ex ((g.i.trans q4).trans q5)).append (.cons r5 .nil)), allNo_wipe, by simp; omega, h5, by rw [hout]; simp⟩
                · cases hf
              · cases hf
            · cases hf
          · rename_i e3 h3
            refine ⟨F, I2, e2, _, false, e3, s3, h3, fun I3 H3 s4 q4 => ?_⟩
            split at hf
            · rename_i hok
              have s6 := s4.wipe hok
              rw [hw3] at s6
              exact iteF ⟨I3, _, acc, ws, xs, s6, q3.trans q4, ra.ex (g.i.trans q4), allNo_wipe, by omega, hf, hout⟩
            · cases hf
          · cases hf
        · cases hf
      · left
        have e : i = ds.length := by omega
        subst e
        rw [List.drop_length] at hf
        cases hf
        refine ⟨wd.stop H (q'.trans s'.ih), ?_⟩
        rw [List.append_nil] at hout
        subst hout
        exact k DD ws I' H (s'.unwipe hno) (q1.trans q') ra
    · cases hm
  · cases hm
theorem ef_lc {elt tg iter : Expr} {ifs : List Expr} {scope : Scope} {own : List (Str × Nat)} {pos : Pos} {t : Tg} {mi : MM (List D)} {mt : MM Bool} {me : MM D} (hN : X.N.Nodup) (hi : EI X cl tg iter mi) (ok : blkC X.N X.env.scope scope own = true)
    (hg : ∀ (s : Shared) (H : Hp) (C : Addr) (cs : List (Str × Addr)) (fp : List Addr), PG (X.blk s H scope (compEnvC scope cs C X.env) fp) tg (gR X.K t)) (ht : ∀ (s : Shared) (H : Hp) (C : Addr) (cs : List (Str × Addr)) (fp : List Addr), EBs (X.blk s H scope (compEnvC scope cs C X.env) fp) cl ifs mt)
    (he : ∀ (s : Shared) (H : Hp) (C : Addr) (cs : List (Str × Addr)) (fp : List Addr), EM (X.blk s H scope (compEnvC scope cs C X.env) fp) cl elt me) (hsl : ∀ i ∈ t.slots, i ∈ own.map (·.2) := by decide) (hs : ∀ x, foldedSetIterable iter X.env x = pure x := by intro _; rfl) (hc : X.calm = true := by rfl) :
    EF X cl (.ListComp elt [⟨tg, iter, ifs, 0⟩] scope pos) (mlc t (own.map (·.2)) mi mt me) := by
  exact (pe_lc (te := tM X.K cl me) (tt := tBo X.K cl mt) hc hN hi (blkOk_by ok) hg ht he hs).zi (lc_imp hsl)
theorem es_lcOwn (i : Nat) {y : Str} {py : Pos} {elt tg iter : Expr} {ifs : List Expr} {scope : Scope} {own : List (Str × Nat)} {pos spos : Pos} {t : Tg} {mi : MM (List D)} {mt : MM Bool} {me : MM D} (hN : X.N.Nodup) (hi : EI X cl tg iter mi) (ok : blkC X.N X.env.scope scope own = true)
    (hg : ∀ (s : Shared) (H : Hp) (C : Addr) (cs : List (Str × Addr)) (fp : List Addr), PG (X.blk s H scope (compEnvC scope cs C X.env) fp) tg (gR X.K t)) (ht : ∀ (s : Shared) (H : Hp) (C : Addr) (cs : List (Str × Addr)) (fp : List Addr), EBs (X.blk s H scope (compEnvC scope cs C X.env) fp) cl ifs mt)
    (he : ∀ (s : Shared) (H : Hp) (C : Addr) (cs : List (Str × Addr)) (fp : List Addr), EM (X.blk s H scope (compEnvC scope cs C X.env) fp) cl elt me) (hsw : swapsWith (.ListComp elt [⟨tg, iter, ifs, 0⟩] scope pos) (some (.Name y py)) spos.line X.env = pure true)
    (hy : X.N[i]? = some y := by rfl) (hyl : X.env.scope.names.lookup y = some .local := by rfl) (hsl : ∀ i ∈ t.slots, i ∈ own.map (·.2) := by decide) (hs : ∀ x, foldedSetIterable iter X.env x = pure x := by intro _; rfl) (hc : X.calm = true := by rfl) :
    ES X cl (.Assign [.Name y py] (.ListComp elt [⟨tg, iter, ifs, 0⟩] scope pos) spos) (sown i (mlc t (own.map (·.2)) mi mt me)) := by
  refine (ps_setLc (i := i) (te := tM X.K cl me) (tt := tBo X.K cl mt) hc hN hy hyl hsw hi (blkOk_by ok) hg ht he hs).zi fun Dn σ H q => lc_imp hsl σ H _ ?_
  obtain ⟨F, I, env, ex, out, s, hm, k⟩ := q
  unfold sown at hm
  split at hm
  · rename_i ds e1 h1
    split at hm
    · rename_i ho
      cases hm
      exact ⟨F, I, env, ex, ds, e1, s, h1, fun p vs I' H' s' e' r => k _ I' H' (SR.setOwn s' ho r) e'⟩
    · cases hm
  · cases hm
theorem es_lcIm (i : Nat) {y : Str} {py : Pos} {elt tg iter : Expr} {ifs : List Expr} {scope : Scope} {own : List (Str × Nat)} {pos spos : Pos} {t : Tg} {mi : MM (List D)} {mt : MM Bool} {me : MM D} (hN : X.N.Nodup) (hi : EI X cl tg iter mi) (ok : blkC X.N X.env.scope scope own = true)
    (hg : ∀ (s : Shared) (H : Hp) (C : Addr) (cs : List (Str × Addr)) (fp : List Addr), PG (X.blk s H scope (compEnvC scope cs C X.env) fp) tg (gR X.K t)) (ht : ∀ (s : Shared) (H : Hp) (C : Addr) (cs : List (Str × Addr)) (fp : List Addr), EBs (X.blk s H scope (compEnvC scope cs C X.env) fp) cl ifs mt)
    (he : ∀ (s : Shared) (H : Hp) (C : Addr) (cs : List (Str × Addr)) (fp : List Addr), EM (X.blk s H scope (compEnvC scope cs C X.env) fp) cl elt me) (hsw : swapsWith (.ListComp elt [⟨tg, iter, ifs, 0⟩] scope pos) (some (.Name y py)) spos.line X.env = pure true)
    (hy : X.N[i]? = some y := by rfl) (hyl : X.env.scope.names.lookup y = some .local := by rfl) (hsl : ∀ i ∈ t.slots, i ∈ own.map (·.2) := by decide) (hs : ∀ x, foldedSetIterable iter X.env x = pure x := by intro _; rfl) (hc : X.calm = true := by rfl) :
    ES X cl (.Assign [.Name y py] (.ListComp elt [⟨tg, iter, ifs, 0⟩] scope pos) spos) (sset i (MM.map (mlc t (own.map (·.2)) mi mt me) .lst)) := by
  refine (ps_setLc (i := i) (te := tM X.K cl me) (tt := tBo X.K cl mt) hc hN hy hyl hsw hi (blkOk_by ok) hg ht he hs).zi fun Dn σ H q => lc_imp hsl σ H _ ?_
  obtain ⟨F, I, env, ex, out, s, hm, k⟩ := q
  unfold sset MM.map at hm
  split at hm
  · rename_i d e1 h1
    split at h1
    · rename_i ds e2 h2
      cases h1
      split at hm
      · rename_i ho
        cases hm
        refine ⟨F, I, env, ex, ds, e1, s, h2, fun p vs I' H' ⟨f, s'⟩ e' r => ?_⟩
        obtain ⟨e2, s2⟩ := s'.exFreeze
        exact k _ _ _ (SR.set ⟨f, s2⟩ ho (.lst upd_same (r.ex e2))) (e'.trans e2)
      · cases hm
    · cases h1
  · cases hm
end
/-! ### calls of defs -/
/-- an argument: data, or a slot's object itself -/
inductive Ar where
  | im (d : D) | sl (i : Nat)
  deriving Inhabited
def Ar.slot : Ar → Option Nat
  | .im _ => none
  | .sl i => some i
inductive ArR (K : PySem.W.Frag) (cl : Nat → Addr) (I : Hp) (σ : L2.St) : List Ar → List V → Prop
  | nil : ArR K cl I σ [] []
  | im {d : D} {v : V} {as : List Ar} {vs : List V} : Rep K cl I v d → ArR K cl I σ as vs → ArR K cl I σ (.im d :: as) (v :: vs)
  | sl {i : Nat} {v : V} {as : List Ar} {vs : List V} : σ[i]? = some (some v) → ArR K cl I σ as vs → ArR K cl I σ (.sl i :: as) (v :: vs)
section
variable {K : PySem.W.Frag} {cl : Nat → Addr}
theorem ArR.ex {I I' : Hp} {σ : L2.St} (e : Ex I I') {as : List Ar} {vs : List V} (h : ArR K cl I σ as vs) : ArR K cl I' σ as vs := by
  induction h with
  | nil => exact .nil
  | im r _ ih => exact .im (r.ex e) ih
  | sl r _ ih => exact .sl r ih
theorem ArR.length {I : Hp} {σ : L2.St} {as : List Ar} {vs : List V} (h : ArR K cl I σ as vs) : vs.length = as.length := by
  induction h with
  | nil => rfl
  | im r _ ih => simp [ih]
  | sl r _ ih => simp [ih]
theorem ArR.get {I : Hp} {σ : L2.St} {as : List Ar} {vs : List V} (h : ArR K cl I σ as vs) : ∀ {k : Nat} {a : Ar}, as[k]? = some a → ∃ v, vs[k]? = some v ∧ (match a with
    | .im d => Rep K cl I v d
    | .sl i => σ[i]? = some (some v)) := by
  induction h with
  | nil => intro k a e; cases e
  | im r _ ih =>
    intro k a e
    cases k with
    | zero => cases e; exact ⟨_, rfl, r⟩
    | succ k => exact ih (by simpa using e)
  | sl r _ ih =>
    intro k a e
    cases k with
    | zero => cases e; exact ⟨_, rfl, r⟩
    | succ k => exact ih (by simpa using e)
end
def tA (K : PySem.W.Frag) (cl : Nat → Addr) (m : MM (List Ar)) : TA := fun σ H Q => ∃ F I env ex as env', SR K cl F I H σ env ex ∧ m env = some (as, env') ∧ ∀ vs I' H', SR K cl F I' H' σ env' ex → Ex I I' → ArR K cl I' σ as vs → Q vs H'
abbrev EAr (X : Cx) (cl : Nat → Addr) (es : List Expr) (m : MM (List Ar)) : Prop := PA X es (tA X.K cl m)
def anil : MM (List Ar) := fun env => some ([], env)
def acim (ma : MM D) (mr : MM (List Ar)) : MM (List Ar) := fun env => match ma env with
  | some (a, e1) => (match mr e1 with
    | some (r, e2) => some (.im a :: r, e2)
    | none => none)
  | none => none
def acsl (i : Nat) (mr : MM (List Ar)) : MM (List Ar) := fun env => match env[i]? with
  | some (.mu _ _) => (match mr env with
    | some (r, e2) => some (.sl i :: r, e2)
    | none => none)
  | _ => none
section
variable {X : Cx} {cl : Nat → Addr} {e : Expr} {es : List Expr} {ma : MM D} {mr : MM (List Ar)}
theorem er_nil : EAr X cl [] anil := pa_nil.zi fun σ H Q h => by
  obtain ⟨F, I, env, ex, as, env', s, hm, k⟩ := h
  cases hm
  exact k [] I H s (Ex.refl _) .nil
theorem er_im (ha : EM X cl e ma) (hr : EAr X cl es mr) (hs : starEach (e :: es) X.env = (false, eval e X.env) :: starEach es X.env := by rfl) : EAr X cl (e :: es) (acim ma mr) := (pa_cons ha hr hs).zi fun σ H Q h => by
  obtain ⟨F, I, env, ex, as, env', s, hm, k⟩ := h
  unfold acim at hm
  split at hm
  · rename_i a e1 h1
    split at hm
    · rename_i r e2 h2
      cases hm
      exact ⟨F, I, env, ex, a, e1, s, h1, fun v I1 H1 s1 q1 r1 => ⟨F, I1, e1, ex, r, env', s1, h2, fun vs I2 H2 s2 q2 r2 => k (v :: vs) I2 H2 s2 (q1.trans q2) (.im (r1.ex q2) r2)⟩⟩
    · cases hm
  · cases hm
theorem er_sl (i : Nat) {x : Str} {p : Pos} (hr : EAr X cl es mr) (hN : X.N[i]? = some x := by rfl) (hv : Vis X.env.scope x := by first | exact Or.inl rfl | exact Or.inr (Or.inl rfl) | exact Or.inr (Or.inr rfl)) (hd : (x == ("__debug__" : Str)) = false := by decide)
    (hcd : (x == ("__classdict__" : Str)) = false := by decide) (hs : starEach (.Name x p :: es) X.env = (false, eval (.Name x p) X.env) :: starEach es X.env := by rfl) : EAr X cl (.Name x p :: es) (acsl i mr) := (pa_cons (pe_var hN hv hd hcd) hr hs).zi fun σ H Q h => by
  obtain ⟨F, I, env, ex, as, env', s, hm, k⟩ := h
  unfold acsl at hm
  split at hm
  · rename_i p m e1
    split at hm
    · rename_i r e2 h2
      cases hm
      obtain ⟨f, s'⟩ := id s
      obtain ⟨v, hv, _⟩ := s'.lookM e1
      exact ⟨v, hv, F, I, env, ex, r, env', s, h2, fun vs I2 H2 s2 q2 r2 => k (v :: vs) I2 H2 s2 q2 (.sl hv r2)⟩
    · cases hm
  · cases hm
end
/-- the arguments as the callee has them -/
def argsE (e : En) : List Ar → Option En
  | [] => some []
  | .im d :: as => (match argsE e as with
    | some r => some (.im d :: r)
    | none => none)
  | .sl i :: as => (match e[i]? with
    | some (.mu _ m) => (match argsE e as with
      | some r => some (.mu true m :: r)
      | none => none)
    | _ => none)
/-- the caller's slots behind the call -/
def updE (e : En) : List Ar → En → En
  | .im _ :: as, _ :: ns => updE e as ns
  | .sl i :: as, .mu _ m' :: ns => (match e[i]? with
    | some (.mu p _) => updE (e.set i (.mu p m')) as ns
    | _ => updE e as ns)
  | .sl _ :: as, _ :: ns => updE e as ns
  | _, _ => e
def slots (as : List Ar) : List Nat := as.filterMap Ar.slot
def mcall (F : FM) (dfl : List D) (m : MM (List Ar)) : MM D := fun env => match m env with
  | some (as, e1) => if (slots as).Nodup then (match argsE e1 as with
    | some args => (match F (args ++ dfl.map .im) with
      | some (d, news) => some (d, updE e1 as news)
      | none => none)
    | none => none) else none
  | none => none
section
variable (K : PySem.W.Frag) (cl : Nat → Addr)
/-- what a def promises by its mirror F -/
def spM (n : Nat) (F : FM) : Sp := fun vs H Q _ => ∃ (I : Hp) (args : En) (af : Nat → List Addr) (d : D) (news : En), vs.length = n ∧ args.length = n ∧ SlP K cl I H (fun i => vs[i]?) (fun i => args[i]?) af ∧ (∀ (i : Nat) (p : Bool) (m : Mu), args[i]? = some (Sl.mu p m) → p = true) ∧ Ex I H ∧
  (∀ i : Nat, args[i]? ≠ some Sl.no) ∧ F args = some (d, news) ∧ ∀ v I' H', Ex I I' → Ex I' H' → (∀ a, H a ≠ none → I a = none → I' a = none) →
    (∀ a o, H a = some o → (∀ (i : Nat) (p : Bool) (m : Mu), args[i]? = some (Sl.mu p m) → a ∉ af i) → H' a = some o) →
    (∀ (i : Nat) (p : Bool) (m : Mu), args[i]? = some (Sl.mu p m) → ∃ m' u, news[i]? = some (Sl.mu true m') ∧ vs[i]? = some u ∧ MuR K cl I' H' u (af i) m') → Rep K cl I' v d → Q v H'
end
/-- a def that may be called with so many values, the defaults dfl behind -/
def Cal (P : Program) (w : World) (K : PySem.W.Frag) (mg : Str → Option Value) (base : Heap) (cl : Nat → Addr) (x : Str) (k n : Nat) (dfl : List D) (F : FM) : Prop :=
  ∃ (f : Addr) (fd : FuncData) (ps : List Str) (ds : List Value) (dvs : List V), FnOk P w K mg base CX0 k f fd ps (spM K cl n F) ∧ mg x = some (.ref f) ∧ PySem.W.keepIn K (.ref f) = true ∧ Binds K fd ps ds ∧ Vals dvs ds ∧ ∀ I, RepL K cl I dvs dfl
section
variable {K : PySem.W.Frag} {cl : Nat → Addr}
theorem argsE_length {e : En} : ∀ {as : List Ar} {args : En}, argsE e as = some args → args.length = as.length
  | [], args, h => by cases h; rfl
  | .im d :: as, args, h => by
    simp only [argsE] at h
    split at h
    · rename_i r h1; cases h; simp [argsE_length h1]
    · cases h
  | .sl i :: as, args, h => by
    simp only [argsE] at h
    split at h
    · split at h
      · rename_i r h1; cases h; simp [argsE_length h1]
      · cases h
    · cases h
theorem argsE_get {e : En} : ∀ {as : List Ar} {args : En} {k : Nat} {a : Ar}, argsE e as = some args → as[k]? = some a → (match a with
    | .im d => args[k]? = some (Sl.im d)
    | .sl i => ∃ p m, e[i]? = some (Sl.mu p m) ∧ args[k]? = some (Sl.mu true m))
  | [], args, k, a, h, e2 => by cases e2
  | .im d :: as, args, k, a, h, e2 => by
    simp only [argsE] at h
    split at h
    · rename_i r h1
      cases h
      cases k with
      | zero => cases e2; rfl
      | succ k =>
        have z := argsE_get (k := k) (a := a) h1 (by simpa using e2)
        cases a <;> simpa using z
    · cases h
  | .sl i :: as, args, k, a, h, e2 => by
    simp only [argsE] at h
    split at h
    · rename_i p m h0
      split at h
      · rename_i r h1
        cases h
        cases k with
        | zero => cases e2; exact ⟨p, m, h0, rfl⟩
        | succ k =>
        have z := argsE_get (k := k) (a := a) h1 (by simpa using e2)
        cases a <;> simpa using z
      · cases h
    · cases h
theorem mem_slots {as : List Ar} {i : Nat} : i ∈ slots as ↔ ∃ k : Nat, as[k]? = some (Ar.sl i) := by
  unfold slots
  rw [List.mem_filterMap]
  constructor
  · rintro ⟨a, h1, h2⟩
    obtain ⟨k, hk⟩ := List.mem_iff_getElem?.mp h1
    cases a with
    | im d => cases h2
    | sl j => cases h2; exact ⟨k, hk⟩
  · rintro ⟨k, hk⟩
    exact ⟨.sl i, List.mem_of_getElem? hk, rfl⟩
theorem slots_inj : ∀ {as : List Ar} {k j i : Nat}, (slots as).Nodup → as[k]? = some (.sl i) → as[j]? = some (.sl i) → k = j
  | [], k, j, i, _, h, _ => by cases h
  | a :: as, k, j, i, hn, h1, h2 => by
    cases a with
    | im d =>
      have hn : (slots as).Nodup := hn
      cases k with
      | zero => cases h1
      | succ k => cases j with
        | zero => cases h2
        | succ j => exact congrArg Nat.succ (slots_inj hn (by simpa using h1) (by simpa using h2))
    | sl b =>
      have hn : (b :: slots as).Nodup := hn
      obtain ⟨n1, n2⟩ := List.nodup_cons.mp hn
      cases k with
      | zero => cases j with
        | zero => rfl
        | succ j => cases h1; exact absurd (mem_slots.mpr ⟨j, by simpa using h2⟩) n1
      | succ k => cases j with
        | zero => cases h2; exact absurd (mem_slots.mpr ⟨k, by simpa using h1⟩) n1
        | succ j => exact congrArg Nat.succ (slots_inj n2 (by simpa using h1) (by simpa using h2))
/-- the slots behind a call, one by one -/
theorem updE_get : ∀ {as : List Ar} {ns e : En} {j : Nat}, (slots as).Nodup → (∀ (k i : Nat), as[k]? = some (Ar.sl i) → ∃ p m m', e[i]? = some (.mu p m) ∧ ns[k]? = some (.mu true m')) → (as.length ≤ ns.length) →
    (j ∉ slots as → (updE e as ns)[j]? = e[j]?) ∧ (∀ (k : Nat), as[k]? = some (Ar.sl j) → ∃ p m m', e[j]? = some (.mu p m) ∧ ns[k]? = some (.mu true m') ∧ (updE e as ns)[j]? = some (.mu p m'))
  | [], ns, e, j, _, _, _ => ⟨fun _ => by cases ns <;> rfl, fun k h => by cases h⟩
  | a :: as, [], e, j, _, _, hl => by simp at hl
  | .im d :: as, n :: ns, e, j, hn, h, hl => by
    have ih := updE_get (as := as) (ns := ns) (e := e) (j := j) hn (fun k i hk => h (k + 1) i (by simpa using hk)) (by simpa using hl)
    refine ⟨fun z => ih.1 z, fun k hk => ?_⟩
    cases k with
    | zero => cases hk
    | succ k => exact ih.2 k (by simpa using hk)
  | .sl i :: as, n :: ns, e, j, hn, h, hl => by
    have hn : (i :: slots as).Nodup := hn
    obtain ⟨n1, n2⟩ := List.nodup_cons.mp hn
    obtain ⟨p, m, m', h1, h2⟩ := h 0 i rfl
    have h2 : n = .mu true m' := by simpa using h2
    subst h2
    have hlen : i < e.length := (List.getElem?_eq_some_iff.mp h1).1
    have eu : updE e (.sl i :: as) (.mu true m' :: ns) = updE (e.set i (.mu p m')) as ns := by simp only [updE, h1]
    have ih := updE_get (as := as) (ns := ns) (e := e.set i (.mu p m')) (j := j) n2 (fun k b hk => by
      obtain ⟨p2, m2, m3, h3, h4⟩ := h (k + 1) b (by simpa using hk)
      have : i ≠ b := fun z => n1 (mem_slots.mpr ⟨k, z ▸ hk⟩)
      exact ⟨p2, m2, m3, by rw [List.getElem?_set_ne this]; exact h3, by simpa using h4⟩) (by simpa using hl)
    rw [eu]
    refine ⟨fun z => ?_, fun k hk => ?_⟩
    · have hz : j ∉ i :: slots as := z
      rw [List.mem_cons, not_or] at hz
      rw [ih.1 hz.2, List.getElem?_set_ne (Ne.symm hz.1)]
    · cases k with
      | zero =>
        cases hk
        exact ⟨p, m, m', h1, rfl, by rw [ih.1 n1, List.getElem?_set_self hlen]⟩
      | succ k =>
        have hk : as[k]? = some (.sl j) := by simpa using hk
        have : i ≠ j := fun z => n1 (mem_slots.mpr ⟨k, z ▸ hk⟩)
        obtain ⟨p2, m2, m3, h3, h4, h5⟩ := ih.2 k hk
        rw [List.getElem?_set_ne this] at h3
        exact ⟨p2, m2, m3, h3, by simpa using h4, h5⟩
theorem updE_length : ∀ {as : List Ar} {ns e : En}, (updE e as ns).length = e.length
  | [], ns, e => by cases ns <;> rfl
  | .im _ :: as, [], e => rfl
  | .sl _ :: as, [], e => rfl
  | .im d :: as, n :: ns, e => updE_length (as := as)
  | .sl i :: as, .no :: ns, e => updE_length (as := as)
  | .sl i :: as, .im _ :: ns, e => updE_length (as := as)
  | .sl i :: as, .mu _ m' :: ns, e => by
    simp only [updE]
    split
    · rw [updE_length (as := as), List.length_set]
    · exact updE_length (as := as)
/-- the state behind a call -/
theorem SRx.after {F : Fx} {I H I' H' : Hp} {σ : L2.St} {env : En} {f : Nat → List Addr} {ex : List (Addr × HO)} (s : SRx K cl F I H σ env f ex) {as : List Ar} {news : En} {vs : List V} (hn : (slots as).Nodup) (ra : ArR K cl I σ as vs)
    (e1 : Ex I I') (e2 : Ex I' H') (fr : ∀ a, H a ≠ none → I a = none → I' a = none) (st : ∀ a o, H a = some o → (∀ (k i : Nat), as[k]? = some (Ar.sl i) → a ∉ f i) → H' a = some o)
    (nw : ∀ (k i : Nat), as[k]? = some (Ar.sl i) → ∃ p m m' u, env[i]? = some (.mu p m) ∧ news[k]? = some (.mu true m') ∧ vs[k]? = some u ∧ MuR K cl I' H' u (f i) m') (hl : as.length ≤ news.length) : SRx K cl F I' H' σ (updE env as news) f ex := by
  have get := fun j => updE_get (as := as) (ns := news) (e := env) (j := j) hn (fun k i hk => let ⟨p, m, m', u, h1, h2, _⟩ := nw k i hk; ⟨p, m, m', h1, h2⟩) hl
  have look : ∀ j, (j ∉ slots as ∧ (updE env as news)[j]? = env[j]?) ∨ ∃ (k : Nat) (p : Bool) (m m' : Mu), as[k]? = some (Ar.sl j) ∧ env[j]? = some (Sl.mu p m) ∧ news[k]? = some (Sl.mu true m') ∧ (updE env as news)[j]? = some (Sl.mu p m') := fun j => by
    by_cases z : j ∈ slots as
    · obtain ⟨k, hk⟩ := mem_slots.mp z
      obtain ⟨p, m, m', h1, h2, h3⟩ := (get j).2 k hk
      exact .inr ⟨k, p, m, m', hk, h1, h2, h3⟩
    · exact .inl ⟨z, (get j).1 z⟩
  have muOld : ∀ {j : Nat} {p : Bool} {m : Mu}, (updE env as news)[j]? = some (.mu p m) → ∃ m0, env[j]? = some (.mu p m0) := fun {j p m} h => by
    rcases look j with ⟨_, h1⟩ | ⟨k, p', m1, m', _, h1, _, h3⟩
    · exact ⟨m, h1 ▸ h⟩
    · rw [h3] at h; cases h; exact ⟨m1, h1⟩
  have off : ∀ {j : Nat} {p : Bool} {m : Mu} {a : Addr}, j ∉ slots as → env[j]? = some (.mu p m) → a ∈ f j → ∀ (k i : Nat), as[k]? = some (Ar.sl i) → a ∉ f i := fun {j p m a} hj h ha k i hk ha2 => by
    obtain ⟨p2, m2, _, _, h2, _⟩ := nw k i hk
    exact s.sl.dj j i p m p2 m2 a (fun z => hj (mem_slots.mpr ⟨k, z ▸ hk⟩)) h h2 ha ha2
  refine ⟨⟨fun j d h => ?_, fun j p m h => ?_, fun i j p m q n a hij h1 h2 => ?_⟩, by rw [updE_length]; exact s.ln, e2, s.ii.trans e1, fun a h1 h2 => ?_, fun a o h1 h2 => ?_, fun j p m a h => ?_, fun j p m h => ?_, fun a ha => ?_, fun a ha j p m h => ?_, s.exn⟩
  · rcases look j with ⟨_, h1⟩ | ⟨k, p', m1, m', _, _, _, h3⟩
    · obtain ⟨v, h4, h5⟩ := s.sl.im j d (h1 ▸ h)
      exact ⟨v, h4, h5.ex e1⟩
    · have h : (updE env as news)[j]? = some (.im d) := h
      rw [h3] at h; cases h
  · have h : (updE env as news)[j]? = some (.mu p m) := h
    rcases look j with ⟨hj, h1⟩ | ⟨k, p', m1, m', hk, h1, h2, h3⟩
    · have h0 := h1 ▸ h
      obtain ⟨⟨v, h4, h5⟩, h6⟩ := s.sl.mu j p m h0
      have kp : ∀ a ∈ f j, H' a = H a := fun a ha => by
        cases q : H a with
        | none => exact absurd q (h5.here a ha)
        | some o => exact st a o q (off hj h0 ha)
      exact ⟨⟨v, h4, h5.kept e1 kp⟩, fun a ha => fr a (h5.here a ha) (h6 a ha)⟩
    · rw [h3] at h
      cases h
      obtain ⟨p2, m2, m3, u, h4, h5, h6, h7⟩ := nw k j hk
      rw [h2] at h5
      cases h5
      obtain ⟨v, h8, h9⟩ := ra.get hk
      rw [h6] at h8
      cases h8
      obtain ⟨⟨_, _, h11⟩, h10⟩ := s.sl.mu j p m1 h1
      exact ⟨⟨u, by have h9 : σ[j]? = some (some u) := h9; rw [h9]; rfl, h7⟩, fun a ha => fr a (h11.here a ha) (h10 a ha)⟩
  · obtain ⟨m0, h3⟩ := muOld h1
    obtain ⟨m1, h4⟩ := muOld h2
    exact s.sl.dj i j p m0 q m1 a hij h3 h4
  · by_cases z : H a = none
    · exfalso
      have := s.fresh0 z
      exact h1 this
    · exact fr a z (s.fr a h1 h2)
  · refine st a o (s.st a o h1 h2) fun k i hk ha => ?_
    obtain ⟨p, m, _, _, h3, _⟩ := nw k i hk
    rcases s.nw i p m a h3 ha with z | ⟨j, q, n, h4, h5⟩
    · rw [z] at h1; cases h1
    · exact h2 j q n h4 h5
  · obtain ⟨m0, h1⟩ := muOld h
    exact s.nw j p m0 a h1
  · obtain ⟨m0, h1, h2, h3⟩ := s.pn j p m h
    rcases look j with ⟨_, h4⟩ | ⟨k, p', m1, m', _, h4, _, h6⟩
    · exact ⟨m0, by rw [h4]; exact h1, h2, h3⟩
    · rw [h4] at h1; cases h1
      exact ⟨m', h6, h2, h3⟩
  · obtain ⟨h1, h2, h3⟩ := s.ex0 a ha
    refine ⟨fr a.1 (by rw [h2]; simp) h1, st a.1 a.2 h2 fun k i hk => ?_, h3⟩
    obtain ⟨p, m, _, _, h4, _⟩ := nw k i hk
    exact s.exd a ha i p m h4
  · obtain ⟨m0, h1⟩ := muOld h
    exact s.exd a ha j p m0 h1
end
section
variable {X : Cx} {cl : Nat → Addr} {e : Expr} {es : List Expr} {pos p : Pos} {x : Str} {k n : Nat} {dfl : List D} {F : FM} {m : MM (List Ar)}
theorem call_imp {K : PySem.W.Frag} {dvs : List V} {E : XK} (hd : ∀ I, RepL K cl I dvs dfl) (hlen : ∀ args d news, F args = some (d, news) → news.length = args.length) (hn : ∀ (as : List Ar) (env env' : En), m env = some (as, env') → as.length + dfl.length = n) (σ : L2.St) (H : Hp) (Q : VK) (h : tM K cl (mcall F dfl m) σ H Q) :
    tCall (spM K cl n F) dvs E (tA K cl m) σ H Q := by
  obtain ⟨Fr, I, env, ex, d, env', s, hm, kk⟩ := h
  unfold mcall at hm
  split at hm
  · rename_i as e1 h1
    split at hm
    · rename_i hnd
      split at hm
      · rename_i args h2
        split at hm
        · rename_i d' news h3
          cases hm
          refine ⟨Fr, I, env, ex, as, e1, s, h1, fun vs I1 H1 s1 q1 ra => ?_⟩
          obtain ⟨f, s1⟩ := s1
          have hal := argsE_length h2
          have hvl := ra.length
          have hdl := (hd I1).length
          have hasn := hn as env e1 h1
          have inl : ∀ {i : Nat}, i < as.length → (args ++ dfl.map Sl.im)[i]? = args[i]? := fun {i} hi => List.getElem?_append_left (by rw [hal]; exact hi)
          have inr : ∀ {i : Nat}, as.length ≤ i → (args ++ dfl.map Sl.im)[i]? = (dfl[i - as.length]?).map Sl.im := fun {i} hi => by rw [List.getElem?_append_right (by rw [hal]; exact hi), hal, List.getElem?_map]
          have vnl : ∀ {i : Nat}, i < as.length → (vs ++ dvs)[i]? = vs[i]? := fun {i} hi => List.getElem?_append_left (by rw [hvl]; exact hi)
          have vnr : ∀ {i : Nat}, as.length ≤ i → (vs ++ dvs)[i]? = dvs[i - as.length]? := fun {i} hi => by rw [List.getElem?_append_right (by rw [hvl]; exact hi), hvl]
          have argAt : ∀ {i : Nat} {z : Sl}, (args ++ dfl.map Sl.im)[i]? = some z → (∃ a, as[i]? = some a ∧ args[i]? = some z ∧ i < as.length) ∨ (as.length ≤ i ∧ ∃ d, dfl[i - as.length]? = some d ∧ z = .im d) := fun {i z} hz => by
            by_cases hi : i < as.length
            · rw [inl hi] at hz
              exact .inl ⟨as[i], by simp [hi], hz, hi⟩
            · have hi := Nat.le_of_not_lt hi
              rw [inr hi] at hz
              cases q : dfl[i - as.length]? with
              | none => rw [q] at hz; cases hz
              | some d => rw [q] at hz; cases hz; exact .inr ⟨hi, d, rfl, rfl⟩
          have muAt : ∀ {i : Nat} {q : Bool} {mm : Mu}, (args ++ dfl.map Sl.im)[i]? = some (.mu q mm) → ∃ j p, as[i]? = some (.sl j) ∧ e1[j]? = some (.mu p mm) ∧ q = true ∧ i < as.length := fun {i q mm} hz => by
            rcases argAt hz with ⟨a, h4, h5, hi⟩ | ⟨_, d, _, h6⟩
            · have h6 := argsE_get h2 h4
              cases a with
              | im d => rw [show args[i]? = some (.im d) from h6] at h5; cases h5
              | sl j =>
                obtain ⟨p, m0, h7, h8⟩ := h6
                rw [h8] at h5
                cases h5
                exact ⟨j, p, h4, h7, rfl, hi⟩
            · cases h6
          refine ⟨I1, args ++ dfl.map .im, fun i => match as[i]? with
            | some (.sl j) => f j
            | _ => [], d, news, by simp [hvl, hdl, hasn], by simp [hal, hasn], ⟨fun i d hz => ?_, fun i q mm hz => ?_, fun i j q mm q2 mm2 a hij hz1 hz2 ha1 ha2 => ?_⟩, fun i q mm hz => (let ⟨_, _, _, _, h, _⟩ := muAt hz; h), s1.ih, fun i hz => ?_, h3, ?_⟩
          · rcases argAt hz with ⟨a, h4, h5, hi⟩ | ⟨hi, d', h4, h5⟩
            · obtain ⟨v, h6, h7⟩ := ra.get h4
              have h8 := argsE_get h2 h4
              cases a with
              | im d0 =>
                rw [show args[i]? = some (.im d0) from h8] at h5
                cases h5
                exact ⟨v, by show (vs ++ dvs)[i]? = _; rw [vnl hi]; exact h6, h7⟩
              | sl j =>
                obtain ⟨p, m0, h9, h10⟩ := h8
                rw [h10] at h5
                cases h5
            · cases h5
              obtain ⟨v, h6, h7⟩ := (hd I1).get h4
              exact ⟨v, by show (vs ++ dvs)[i]? = _; rw [vnr hi]; exact h6, h7⟩
          · obtain ⟨j, p, h4, h5, h6, hi⟩ := muAt hz
            obtain ⟨v, h7, h8⟩ := ra.get h4
            obtain ⟨v', h9, h10, h11⟩ := s1.lookM h5
            have h8 : σ[j]? = some (some v) := h8
            rw [h8] at h9
            cases h9
            refine ⟨⟨v, by show (vs ++ dvs)[i]? = _; rw [vnl hi]; exact h7, ?_⟩, ?_⟩
            · simp only [h4]; exact h10
            · simp only [h4]; exact h11
          · obtain ⟨j1, p1, h4, h5, _, _⟩ := muAt hz1
            obtain ⟨j2, p2, h6, h7, _, _⟩ := muAt hz2
            simp only [h4] at ha1
            simp only [h6] at ha2
            exact s1.sl.dj j1 j2 p1 mm p2 mm2 a (fun z => hij (slots_inj hnd h4 (z ▸ h6))) h5 h7 ha1 ha2
          · rcases argAt hz with ⟨a, h4, h5, hi⟩ | ⟨_, d, _, h5⟩
            · have h6 := argsE_get h2 h4
              cases a with
              | im d => rw [show args[i]? = some (.im d) from h6] at h5; cases h5
              | sl j => obtain ⟨p, m0, _, h8⟩ := h6; rw [h8] at h5; cases h5
            · cases h5
          · intro v I' H' g1 g2 g3 g4 g5 g6
            have hnl : news.length = args.length + dfl.length := by rw [hlen _ _ _ h3]; simp
            refine kk v I' H' ⟨f, s1.after hnd ra g1 g2 g3 (fun a o h4 h5 => g4 a o h4 fun i q mm hz => ?_) (fun k i hk => ?_) (by omega)⟩ (q1.trans g1) g6
            · obtain ⟨j, p, h6, _, _, _⟩ := muAt hz
              simp only [h6]
              exact h5 i j h6
            · have h6 := argsE_get h2 hk
              obtain ⟨p, m0, h7, h8⟩ := h6
              have hkl : k < as.length := (List.getElem?_eq_some_iff.mp hk).1
              obtain ⟨m', u, h9, h10, h11⟩ := g5 k true m0 (by rw [inl hkl]; exact h8)
              simp only [hk] at h11
              rw [vnl hkl] at h10
              exact ⟨p, m0, m', u, h7, h9, h10, h11⟩
        · cases hm
      · cases hm
    · cases hm
  · cases hm
end
end Zf

set_option Elab.async false
set_option linter.all false
set_option maxRecDepth 100000
set_option maxHeartbeats 1000000
/-! Zf, part 6: defs, what is walked, lists that change. -/
namespace Zf
open PySem PySem.Spec L2
/-! ### a def -/
def fnM (n : Nat) (body : SM) : FM := fun args => match body (args ++ List.replicate (n - args.length) .no) with
  | some (.rt d e) => some (d, (List.range args.length).map fun i => e.getD i .no)
  | some (.nx e) => some (.non, (List.range args.length).map fun i => e.getD i .no)
  | _ => none
theorem fnM_length {n : Nat} {body : SM} {args news : En} {d : D} (h : fnM n body args = some (d, news)) : news.length = args.length := by
  unfold fnM at h
  split at h
  · cases h; simp
  · cases h; simp
  · cases h
section
variable {P : Program} {w : World} {K : PySem.W.Frag} {mg : Str → Option Value} {base : Heap} {cl : Nat → Addr}
theorem fn_ok {x qual : Str} {params : Arguments} {body : List Stmt} {scope : Scope} {dvs : List V} {kws : List (Str × V)} {f : Addr} {fd : FuncData} {N ps : List Str} {k n nN : Nat} {sm : SM} (F : FunD K x qual params body scope dvs kws f fd) (S : FnScope N ps scope) (hl : ps.length ≤ N.length) (en : ps.length = n) (eN : N.length = nN)
    (hb : ∀ (cdv : Value) (A : Around) (outer : List Env) (s : Shared) (H : Hp) (E : XK), Room k (A.deeper (PyProof.Rows.envOfC qual scope s.heap.objs.size f cdv)) → ESs (cxOf CX0 P w K mg base N qual scope f cdv A outer s H E).nox cl body sm) :
    FnOk P w K mg base CX0 (k + 1) f fd ps (spM K cl n (fnM nN sm)) := by
  subst en eN
  refine F.ok S (fun vs H Q E h => ?_) (fun cdv A outer s H vs Q E hr h => ?_)
  · obtain ⟨I, args, af, d, news, h1, _⟩ := h
    exact h1
  · obtain ⟨I, args, af, d, news, h1, h2, hsl, hpin, hI, hno, hF, kk⟩ := h
    refine ⟨_, (hb cdv A outer s H E hr).nox, ?_⟩
    have len0 : (args ++ List.replicate (N.length - args.length) Sl.no).length = (L2.start N vs).length := by
      unfold L2.start; simp [h1, h2]
    have eL : ∀ {i : Nat} {z : Sl}, (args ++ List.replicate (N.length - args.length) Sl.no)[i]? = some z → z ≠ .no → args[i]? = some z ∧ i < args.length := fun {i z} h hz => by
      by_cases hi : i < args.length
      · rw [List.getElem?_append_left hi] at h; exact ⟨h, hi⟩
      · rw [List.getElem?_append_right (Nat.le_of_not_lt hi), List.getElem?_replicate] at h
        split at h
        · cases h; exact absurd rfl hz
        · cases h
    have sL : ∀ {i : Nat}, i < args.length → ((L2.start N vs)[i]?).join = vs[i]? := fun {i} hi => by
      unfold L2.start
      have hi2 : i < vs.length := by omega
      rw [List.getElem?_append_left (by simpa using hi2), List.getElem?_map]
      cases q : vs[i]? with
      | none => rw [List.getElem?_eq_none_iff] at q; omega
      | some v => rfl
    have s0 : SRx K cl ⟨I, H, vs, args, af⟩ I H (L2.start N vs) (args ++ List.replicate (N.length - args.length) .no) af [] := by
      refine ⟨⟨fun i d e => ?_, fun i p m e => ?_, fun i j p m q n a hij e1 e2 => hsl.dj i j p m q n a hij (eL e1 (by simp)).1 (eL e2 (by simp)).1⟩, len0, hI, Ex.refl _, fun a _ h => h, fun a o h _ => h, fun i p m a e ha => .inr ⟨i, p, m, (eL e (by simp)).1, ha⟩, fun i p m e => ?_, fun a ha => (by cases ha), fun a ha => (by cases ha), List.nodup_nil⟩
      · obtain ⟨e1, hi⟩ := eL e (by simp)
        obtain ⟨v, e2, r⟩ := hsl.im i d e1
        exact ⟨v, (sL hi).trans e2, r⟩
      · obtain ⟨e1, hi⟩ := eL e (by simp)
        obtain ⟨⟨v, e2, r⟩, n⟩ := hsl.mu i p m e1
        exact ⟨⟨v, (sL hi).trans e2, r⟩, n⟩
      · have e : args[i]? = some (.mu p m) := e
        have hi : i < args.length := (List.getElem?_eq_some_iff.mp e).1
        cases hpin i p m e
        exact ⟨m, by rw [List.getElem?_append_left hi]; exact e, rfl, sL hi⟩
    have fin : ∀ (d' : D) (e : En) (v : V) (σ' : L2.St) (I' H' : Hp), (news = (List.range args.length).map fun i => e.getD i .no) → SR K cl ⟨I, H, vs, args, af⟩ I' H' σ' e [] → Rep K cl I' v d → Q v H' := fun d' e v σ' I' H' hnews ⟨f', s'⟩ r => by
      refine kk v I' H' s'.ii s'.ih s'.fr s'.st (fun i p m em => ?_) r
      obtain ⟨m', e1, e2, e3⟩ := s'.pn i p m em
      obtain ⟨⟨u, e4, e5⟩, _⟩ := s'.sl.mu i true m' e1
      have hi : i < args.length := (List.getElem?_eq_some_iff.mp em).1
      have e2 : f' i = af i := e2
      refine ⟨m', u, ?_, e3.symm.trans e4, e2 ▸ e5⟩
      rw [hnews, List.getElem?_map, List.getElem?_range hi]
      show some (e.getD i .no) = _
      rw [List.getD_eq_getElem?_getD, e1]; rfl
    unfold fnM at hF
    split at hF
    · rename_i d' e he
      cases hF
      exact ⟨_, I, _, [], _, ⟨af, s0⟩, he, fun v σ' I' H' s' e' r => fin d e v σ' I' H' rfl s' r⟩
    · rename_i e he
      cases hF
      exact ⟨_, I, _, [], _, ⟨af, s0⟩, he, fun σ' I' H' s' e' => fin .non e .non σ' I' H' rfl s' .non⟩
    · cases hF
end
section
variable {X : Cx} {cl : Nat → Addr} {e : Expr} {es : List Expr} {pos p : Pos} {x : Str} {k n : Nat} {dfl : List D} {F : FM} {m : MM (List Ar)} {ma : MM D} {tg : Expr}
theorem em_call (c : Cal X.prog X.w X.K X.mg X.base cl x k n dfl F) (hr : Room k X.A) (ha : EAr X cl (e :: es) m) (hlen : ∀ args d news, F args = some (d, news) → news.length = args.length) (hn : ∀ (as : List Ar) (env env' : En), m env = some (as, env') → as.length + dfl.length = n) (hg : Gl X x := by rfl)
    (hdb : (x == ("__debug__" : Str)) = false := by decide) (he : starEach (e :: es) X.env = (false, eval e X.env) :: starEach es X.env := by rfl) (hpl : (backTo pos (starEach es X.env)).any (·.1) = false := by rfl) :
    EM X cl (.Call (.Name x p) (e :: es) [] pos) (mcall F dfl m) := by
  obtain ⟨f, fd, ps, ds, dvs, h1, h2, h3, h4, h5, h6⟩ := c
  exact (pe_call h1 hr hg h2 h3 h4 h5 pass0 ha hdb he hpl).zi (call_imp h6 hlen hn)
theorem em_call0 (c : Cal X.prog X.w X.K X.mg X.base cl x k n dfl F) (hr : Room k X.A) (hlen : ∀ args d news, F args = some (d, news) → news.length = args.length) (hn : dfl.length = n) (hg : Gl X x := by rfl)
    (hdb : (x == ("__debug__" : Str)) = false := by decide) : EM X cl (.Call (.Name x p) [] [] pos) (mcall F dfl anil) := by
  obtain ⟨f, fd, ps, ds, dvs, h1, h2, h3, h4, h5, h6⟩ := c
  refine (pe_call0 h1 hr hg h2 h3 h4 h5 pass0 hdb).zi fun σ H Q q => ?_
  have q2 := call_imp (dvs := dvs) (E := E0) (n := n) h6 hlen (fun as env env' e => by cases e; simpa using hn) σ H Q q
  obtain ⟨F1, I, env, ex, as, env', s, hm, kk⟩ := q2
  cases hm
  exact kk [] I H s (Ex.refl _) .nil
/-- how many arguments -/
theorem an_nil {as : List Ar} {env env' : En} (h : anil env = some (as, env')) : as.length = 0 := by cases h; rfl
theorem an_im {mr : MM (List Ar)} {j : Nat} (h : ∀ (as : List Ar) (env env' : En), mr env = some (as, env') → as.length = j) : ∀ (as : List Ar) (env env' : En), acim ma mr env = some (as, env') → as.length = j + 1 := fun as env env' hm => by
  unfold acim at hm
  split at hm
  · split at hm
    · rename_i r e2 h2
      cases hm
      simp [h _ _ _ h2]
    · cases hm
  · cases hm
theorem an_sl {mr : MM (List Ar)} {j i : Nat} (h : ∀ (as : List Ar) (env env' : En), mr env = some (as, env') → as.length = j) : ∀ (as : List Ar) (env env' : En), acsl i mr env = some (as, env') → as.length = j + 1 := fun as env env' hm => by
  unfold acsl at hm
  split at hm
  · split at hm
    · rename_i r e2 h2
      cases hm
      simp [h _ _ _ h2]
    · cases hm
  · cases hm
/-! ### what is walked -/
def iAny (K : PySem.W.Frag) (tl : TE) : TI := fun σ H R => tl σ H fun x H1 => (∃ a xs, x = .ref a ∧ SqL K H1 a xs ∧ R (Itl K a) H1) ∨ (∃ a xs, x = .ref a ∧ SqT K H1 a xs ∧ R (Itt K a) H1) ∨ ∃ z, x = .str z ∧ R (Its z) H1
theorem pi_any {tl : TE} (he : PE X e tl) : PI X tg e (iAny X.K tl) := by
  refine ⟨fun pins s σ H R I h => ?_⟩
  refine thn (he.run pins s σ H _ I h) fun v s1 ⟨x, H1, I1, r1, q1⟩ => ?_
  rcases q1 with ⟨a, xs, ex, hq, q⟩ | ⟨a, xs, ex, hq, q⟩ | ⟨z, ex, q⟩
  · subst ex
    cases r1
    obtain ⟨its, rv, p, hz⟩ := I1.list hq
    refine wpAny_pyIter_list p.isList ?_
    refine ⟨s1.heap.objs.size, [s1.heap.objs.size], _, _, H1, rfl, I1.kept (t' := s1.toks) fun b o e => Heap.get?_push_of_some _ e, turn_list a _, ⟨_, Heap.get?_push_size _ rfl, rfl, rfl⟩, fun b hb => ?_, q⟩
    have e : b = s1.heap.objs.size := by simpa using hb
    subst e
    exact I1.fpOk (Nat.le_refl _) (I1.hok.fresh (Nat.le_refl _))
  · subst ex
    cases r1
    obtain ⟨its, rv, p, hz⟩ := I1.tuple hq
    refine wpAny_pyIter_tuple (show s1.heap.IsTuple a its.toArray from p) ?_
    refine ⟨s1.heap.objs.size, [s1.heap.objs.size], _, _, H1, rfl, I1.kept (t' := s1.toks) fun b o e => Heap.get?_push_of_some _ e, turn_tuple a _, ⟨_, Heap.get?_push_size _ rfl, rfl, rfl⟩, fun b hb => ?_, q⟩
    have e : b = s1.heap.objs.size := by simpa using hb
    subst e
    exact I1.fpOk (Nat.le_refl _) (I1.hok.fresh (Nat.le_refl _))
  · subst ex
    obtain ⟨t, rfl⟩ := r1
    cases ha : z.cps.all (· < 128)
    · exact wpAny_pyIter_wide ha (pi_one (tk := s1.toks) I1 _ (turn_str _ z t "str_iterator" (.inr rfl)) ⟨_, Heap.get?_push_size _ rfl, rfl, rfl⟩ q)
    · exact wpAny_pyIter_ascii ha (pi_one (tk := s1.toks) I1 _ (turn_str _ z t "str_ascii_iterator" (.inl rfl)) ⟨_, Heap.get?_push_size _ rfl, rfl, rfl⟩ q)
/-- the signs of a text -/
def signsD (z : Str) : List D := z.cps.toList.map fun c => .str ⟨#[c]⟩
def seqD : D → Option (List D)
  | .lst xs => some xs
  | .tup xs => some xs
  | .str z => some (signsD z)
  | .scr ns => some (ns.map .int)
  | _ => none
theorem wd_list {K : PySem.W.Frag} {I : Hp} {a : Addr} {vs : List V} {ds : List D} (h : SqL K I a vs) (r : RepL K cl I vs ds) : WD K cl I (Itl K a) ds := by
  have hl := r.length
  refine ⟨fun i H hi e => ?_, fun H e => ⟨vs, ex_l e h, by omega⟩, fun i J H y H' hi e1 e2 hy => ?_⟩
  · have hi : i < vs.length := by omega
    exact ⟨vs, vs[i], ex_l e h, by simp [hi]⟩
  · obtain ⟨rfl, hy⟩ := hy
    obtain ⟨d, h1, h2⟩ := r.getV (hy vs (ex_l (e1.trans e2) h))
    exact ⟨J, d, h1, Gr.refl e2, h2.ex e1⟩
theorem wd_tup {K : PySem.W.Frag} {I : Hp} {a : Addr} {vs : List V} {ds : List D} (h : SqT K I a vs) (r : RepL K cl I vs ds) : WD K cl I (Itt K a) ds := by
  have hl := r.length
  refine ⟨fun i H hi e => ?_, fun H e => ⟨vs, ex_t e h, by omega⟩, fun i J H y H' hi e1 e2 hy => ?_⟩
  · have hi : i < vs.length := by omega
    exact ⟨vs, vs[i], ex_t e h, by simp [hi]⟩
  · obtain ⟨rfl, hy⟩ := hy
    obtain ⟨d, h1, h2⟩ := r.getV (hy vs (ex_t (e1.trans e2) h))
    exact ⟨J, d, h1, Gr.refl e2, h2.ex e1⟩
theorem wd_str {K : PySem.W.Frag} {I : Hp} {z : Str} : WD K cl I (Its z) (signsD z) := by
  have hl : (signsD z).length = z.cps.size := by simp [signsD]
  refine ⟨fun i H hi e => ?_, fun H e => ?_, fun i J H y H' hi e1 e2 hy => ?_⟩
  · show i < z.cps.size
    omega
  · show z.cps.size ≤ (signsD z).length
    omega
  · obtain ⟨rfl, c, hc, rfl⟩ := hy
    refine ⟨J, .str ⟨#[c]⟩, ?_, Gr.refl e2, .str _⟩
    unfold signsD
    rw [List.getElem?_map]
    have : z.cps.toList[i]? = some c := by simpa using hc
    rw [this]; rfl
/-- a list, a tuple, a text -/
theorem ei_any (h : EM X cl e ma) : EI X cl tg e (MM.opt ma seqD) := by
  refine ⟨fun pins s σ H R I q => (pi_any h).run pins s σ H R I ?_⟩
  obtain ⟨F, J, env, ex, ds, env', s1, hm, k⟩ := q
  obtain ⟨d, h1, h2⟩ := opt_of hm
  refine ⟨F, J, env, ex, d, env', s1, h1, fun v I' H' s' e' r => ?_⟩
  cases r <;> try (cases h2; done)
  · rename_i z
    cases h2
    exact .inr (.inr ⟨z, rfl, k _ I' H' s' e' wd_str⟩)
  · rename_i a vs ds' hs r
    cases h2
    exact .inl ⟨a, vs, rfl, rl hs s'.ih, k _ I' H' s' e' (wd_list (rl hs (Ex.refl _)) r)⟩
  · rename_i a vs ds' hs r
    cases h2
    exact .inr (.inl ⟨a, vs, rfl, ex_t s'.ih hs, k _ I' H' s' e' (wd_tup hs r)⟩)
  · rename_i a ns hs
    cases h2
    exact .inl ⟨a, _, rfl, ex_l s'.ih hs, k _ I' H' s' e' (wd_list hs (RepL.ints ns))⟩
/-- range -/
def rngD (lo : Int) (n : Nat) : List D := (List.range n).map fun (i : Nat) => D.int (lo + (i : Int))
theorem wd_range {K : PySem.W.Frag} {I : Hp} {lo : Int} {n : Nat} : WD K cl I (Itr lo n) (rngD lo n) := by
  have hl : (rngD lo n).length = n := by simp [rngD]
  refine ⟨fun i H hi e => ?_, fun H e => ?_, fun i J H y H' hi e1 e2 hy => ?_⟩
  · show i < n
    omega
  · show n ≤ (rngD lo n).length
    omega
  · obtain ⟨rfl, rfl⟩ := hy
    refine ⟨J, .int (lo + i), ?_, Gr.refl e2, .int _⟩
    unfold rngD
    rw [List.getElem?_map, List.getElem?_range (by omega)]
    rfl
def rng1D : List D → Option (List D)
  | [.int j] => if -(2 ^ 60) ≤ j ∧ j ≤ 2 ^ 60 then some (rngD 0 j.toNat) else none
  | _ => none
def rng2D : List D → Option (List D)
  | [.int i, .int j] => if -(2 ^ 60) ≤ i ∧ i ≤ 2 ^ 60 ∧ -(2 ^ 60) ≤ j ∧ j ≤ 2 ^ 60 then some (rngD i (j - i).toNat) else none
  | _ => none
theorem ei_range1 {a : Expr} {m : MM (List D)} (hm : X.mg "range" = none) (ha : EA X cl [a] m) (hg : Gl X "range" := by rfl) (hs : starEach [a] X.env = [(false, eval a X.env)] := by rfl) : EI X cl tg (.Call (.Name "range" p) [a] [] pos) (MM.opt m rng1D) := by
  refine ⟨fun pins s σ H R I q => (pi_range1 hg hm ha hs).run pins s σ H R I ?_⟩
  obtain ⟨F, J, env, ex, ds, env', s1, hm, k⟩ := q
  obtain ⟨as, h1, h2⟩ := opt_of hm
  refine ⟨F, J, env, ex, as, env', s1, h1, fun vs I' H' s' e' r => ?_⟩
  unfold rng1D at h2
  split at h2
  · rename_i j
    split at h2
    · rename_i hj
      cases h2
      cases r with
      | cons r rr =>
        cases rr
        cases r
        exact ⟨j, rfl, by omega, by omega, k _ I' H' s' e' wd_range⟩
    · cases h2
  · cases h2
theorem ei_range2 {a b : Expr} {m : MM (List D)} (hm : X.mg "range" = none) (ha : EA X cl [a, b] m) (hg : Gl X "range" := by rfl) (hs : starEach [a, b] X.env = [(false, eval a X.env), (false, eval b X.env)] := by rfl) (hs2 : starEach [b] X.env = [(false, eval b X.env)] := by rfl) :
    EI X cl tg (.Call (.Name "range" p) [a, b] [] pos) (MM.opt m rng2D) := by
  refine ⟨fun pins s σ H R I q => (pi_range2 hg hm ha hs hs2).run pins s σ H R I ?_⟩
  obtain ⟨F, J, env, ex, ds, env', s1, hm, k⟩ := q
  obtain ⟨as, h1, h2⟩ := opt_of hm
  refine ⟨F, J, env, ex, as, env', s1, h1, fun vs I' H' s' e' r => ?_⟩
  unfold rng2D at h2
  split at h2
  · rename_i i j
    split at h2
    · rename_i hj
      cases h2
      cases r with
      | cons r rr =>
        cases rr with
        | cons r2 rr =>
          cases rr
          cases r
          cases r2
          exact ⟨i, j, rfl, by omega, k _ I' H' s' e' wd_range⟩
    · cases h2
  · cases h2
/-! pairs -/
def enumD (i : Nat) : List D → List D
  | [] => []
  | d :: ds => .tup [.int (i : Int), d] :: enumD (i + 1) ds
theorem enumD_get : ∀ {ds : List D} {i k : Nat} {d : D}, ds[k]? = some d → (enumD i ds)[k]? = some (.tup [.int ((i + k : Nat) : Int), d])
  | [], i, k, d, h => by cases h
  | x :: ds, i, 0, d, h => by cases h; rfl
  | x :: ds, i, k + 1, d, h => by
    have := enumD_get (ds := ds) (i := i + 1) (k := k) (by simpa using h)
    show (enumD (i + 1) ds)[k]? = _
    rw [this]
    have e : i + 1 + k = i + (k + 1) := by omega
    rw [e]
theorem enumD_length : ∀ {ds : List D} {i : Nat}, (enumD i ds).length = ds.length
  | [], _ => rfl
  | _ :: ds, i => congrArg Nat.succ (enumD_length (ds := ds) (i := i + 1))
theorem wd_enum {K : PySem.W.Frag} {I : Hp} {a : Addr} {vs : List V} {ds : List D} (h : SqL K I a vs) (r : RepL K cl I vs ds) : WD K cl I (Ite K a) (enumD 0 ds) := by
  have hl := r.length
  have w := fun (n : Nat) => walk_enum (K := K) (a := a) (xs := vs)
  refine ⟨fun i H hi e => ?_, fun H e => ?_, fun i J H y H' hi e1 e2 hy => ?_⟩
  · rw [enumD_length] at hi
    exact (w 0).goes i H (by omega) (ex_l e h)
  · rw [enumD_length, ← hl]
    exact (w 0).stops H (ex_l e h)
  · rw [enumD_length] at hi
    obtain ⟨T, x, z, rfl, hT, rfl, hx, hz⟩ := (w 0).yields i H y H' (by omega) (ex_l (e1.trans e2) h) hy
    cases hx
    obtain ⟨d, h1, h2⟩ := r.getV hz
    have g := Gr.new (o := .tup [.int (i : Nat), z]) e2 hT
    refine ⟨_, _, enumD_get h1, g, .tup (.inl (.inl upd_same)) (.cons ?_ (.cons ((h2.ex e1).ex g.i) .nil))⟩
    rw [Nat.zero_add]
    exact .int _
def lstD : List D → Option (List D)
  | [.lst xs] => some (enumD 0 xs)
  | _ => none
theorem ei_enum {elts : List Expr} {kk : Nat} {tpos : Pos} {m : MM (List D)} (hm : X.mg "enumerate" = none) (ha : EA X cl [e] m) (hg : Gl X "enumerate" := by rfl) (hs : starEach [e] X.env = [(false, eval e X.env)] := by rfl) :
    EI X cl (.Tuple elts kk tpos) (.Call (.Name "enumerate" p) [e] [] pos) (MM.opt m lstD) := by
  refine ⟨fun pins s σ H R I q => (pi_enum hg hm ha hs).run pins s σ H R I ?_⟩
  obtain ⟨F, J, env, ex, ds, env', s1, hm, k⟩ := q
  obtain ⟨as, h1, h2⟩ := opt_of hm
  refine ⟨F, J, env, ex, as, env', s1, h1, fun vs I' H' s' e' r => ?_⟩
  unfold lstD at h2
  split at h2
  · cases h2
    cases r with
    | cons r rr =>
      cases rr
      cases r with
      | lst hs r => exact ⟨_, _, rfl, rl hs s'.ih, k _ I' H' s' e' (wd_enum (rl hs (Ex.refl _)) r)⟩
  · cases h2
def zipD : List D → List D → List D
  | x :: xs, y :: ys => .tup [x, y] :: zipD xs ys
  | _, _ => []
theorem zipD_length : ∀ {xs ys : List D}, (zipD xs ys).length = min xs.length ys.length
  | [], ys => by cases ys <;> simp [zipD]
  | x :: xs, [] => by simp [zipD]
  | x :: xs, y :: ys => by simp [zipD, zipD_length (xs := xs) (ys := ys)]
theorem zipD_get : ∀ {xs ys : List D} {k : Nat} {x y : D}, xs[k]? = some x → ys[k]? = some y → (zipD xs ys)[k]? = some (.tup [x, y])
  | [], _, _, _, _, h, _ => by cases h
  | _ :: _, [], _, _, _, _, h => by cases h
  | x :: xs, y :: ys, 0, _, _, h1, h2 => by cases h1; cases h2; rfl
  | x :: xs, y :: ys, k + 1, _, _, h1, h2 => zipD_get (xs := xs) (ys := ys) (by simpa using h1) (by simpa using h2)
def zipL : List D → Option (List D)
  | [.lst xs, .lst ys] => some (zipD xs ys)
  | [.tup xs, .tup ys] => some (zipD xs ys)
  | _ => none
theorem wd_zip {K : PySem.W.Frag} {I : Hp} {J : It} {G : Hp → Prop} {vs ws : List V} {ds es : List D} (w : Walk J (min vs.length ws.length) G (YPair (fun i => vs[i]?) (fun i => ws[i]?))) (hG : ∀ H, Ex I H → G H) (r : RepL K cl I vs ds) (q : RepL K cl I ws es) : WD K cl I J (zipD ds es) := by
  have h1 := r.length
  have h2 := q.length
  refine ⟨fun i H hi e => ?_, fun H e => ?_, fun i L H y H' hi e1 e2 hy => ?_⟩
  · rw [zipD_length] at hi
    exact w.goes i H (by omega) (hG H e)
  · rw [zipD_length, ← h1, ← h2]
    exact w.stops H (hG H e)
  · rw [zipD_length] at hi
    obtain ⟨T, x, z, rfl, hT, rfl, hx, hz⟩ := w.yields i H y H' (by omega) (hG H (e1.trans e2)) hy
    obtain ⟨d, h3, h4⟩ := r.getV hx
    obtain ⟨d', h5, h6⟩ := q.getV hz
    have g := Gr.new (o := .tup [x, z]) e2 hT
    exact ⟨_, _, zipD_get h3 h5, g, .tup (.inl (.inl upd_same)) (.cons ((h4.ex e1).ex g.i) (.cons ((h6.ex e1).ex g.i) .nil))⟩
theorem walk_zipT {K : PySem.W.Frag} {a b : Addr} {xs ys : List V} {n : Nat} (hn : n = min xs.length ys.length) : Walk (RZ.ItzT K a b) n (fun H => SqT K H a xs ∧ SqT K H b ys) (YPair (fun i => xs[i]?) (fun i => ys[i]?)) := by
  subst hn
  refine ⟨fun i _ hi q => ?_, fun _ q => ⟨xs, ys, q.1, q.2, by omega⟩, fun i H v H' _ q y => ?_⟩
  · have h1 : i < xs.length := by omega
    have h2 : i < ys.length := by omega
    exact ⟨xs, ys, xs[i], ys[i], q.1, q.2, by simp [h1], by simp [h2]⟩
  · obtain ⟨T, x, z, h1, h2, h3, h4, h5⟩ := y
    exact ⟨T, x, z, h1, h2, h3, h4 xs q.1, h5 ys q.2⟩
theorem ei_zip {e2 : Expr} {elts : List Expr} {kk : Nat} {tpos : Pos} {m : MM (List D)} (hm : X.mg "zip" = none) (ha : EA X cl [e, e2] m) (hg : Gl X "zip" := by rfl) (hs : starEach [e, e2] X.env = (false, eval e X.env) :: starEach [e2] X.env := by rfl) (hpl : (backTo pos (starEach [e2] X.env)).any (·.1) = false := by rfl) :
    EI X cl (.Tuple elts kk tpos) (.Call (.Name "zip" p) [e, e2] [] pos) (MM.opt m zipL) := by
  refine ⟨fun pins s σ H R I q => (RZ.pi_zipA hg hm ha hs hpl).run pins s σ H R I ?_⟩
  obtain ⟨F, J, env, ex, ds, env', s1, hm, k⟩ := q
  obtain ⟨as, h1, h2⟩ := opt_of hm
  refine ⟨F, J, env, ex, as, env', s1, h1, fun vs I' H' s' e' r => ?_⟩
  unfold zipL at h2
  split at h2
  · cases h2
    cases r with
    | cons r rr =>
      cases rr with
      | cons r2 rr =>
        cases rr
        cases r with
        | lst hs r => cases r2 with
          | lst hs2 r2 => exact ⟨_, _, _, _, rfl, .inl ⟨rl hs s'.ih, rl hs2 s'.ih, k _ I' H' s' e' (wd_zip (walk_zip rfl) (fun H e => ⟨rl hs e, rl hs2 e⟩) r r2)⟩⟩
  · cases h2
    cases r with
    | cons r rr =>
      cases rr with
      | cons r2 rr =>
        cases rr
        cases r with
        | tup hs r => cases r2 with
          | tup hs2 r2 => exact ⟨_, _, _, _, rfl, .inr ⟨ex_t s'.ih hs, ex_t s'.ih hs2, k _ I' H' s' e' (wd_zip (walk_zipT rfl) (fun H e => ⟨ex_t e hs, ex_t e hs2⟩) r r2)⟩⟩
  · cases h2
end
end Zf

set_option Elab.async false
set_option linter.all false
set_option maxRecDepth 100000
set_option maxHeartbeats 1000000
/-! Zf, part 7: operations. -/
namespace Zf
open PySem PySem.Spec L2
section
variable {K : PySem.W.Frag} {cl : Nat → Addr}
/-! ### numbers -/
def addD : D → D → Option D
  | .int a, .int b => some (.int (a + b))
  | .str a, .str b => if a.length + b.length ≤ 1000000 then some (.str (a ++ b)) else none
  | .lst a, .lst b => if a.length + b.length ≤ 1000000 then some (.lst (a ++ b)) else none
  | .tup a, .tup b => if a.length + b.length ≤ 1000000 then some (.tup (a ++ b)) else none
  | _, _ => none
def rAddA (K : PySem.W.Frag) : R2 := fun x y H Q => (∃ i j, x = .int i ∧ y = .int j ∧ Q (.int (i + j)) H) ∨ ((∃ i j, x = .str i ∧ y = .str j ∧ i.length + j.length ≤ sizeLine ∧ Q (.str (i ++ j)) H) ∨ (rCat x y H Q ∨ rCatA K x y H Q))
theorem op_addA {X : Cx} : OpR X (binaryOp .Add) (rAddA X.K) := OpR.or op_add (OpR.or op_add_str (OpR.or op_cat op_catA))
theorem ok_add : OK2 K cl (rAddA K) addD := fun I H v w d1 d2 d Q e r1 r2 hg k => by
  cases r1 <;> cases r2 <;> try (cases hg; done)
  · cases hg
    exact .inl ⟨_, _, rfl, rfl, k _ _ _ (Gr.refl e) (.int _)⟩
  · simp only [addD] at hg
    split at hg
    · cases hg
      exact .inr (.inl ⟨_, _, rfl, rfl, Nat.le_trans (by assumption) (by decide), k _ _ _ (Gr.refl e) (.str _)⟩)
    · cases hg
  · rename_i a vs ds h1 q1 b ws es h2 q2
    simp only [addD] at hg
    split at hg
    · cases hg
      refine .inr (.inr (.inl ⟨a, b, vs, ws, rfl, rfl, e _ _ h1, e _ _ h2, by rw [q1.length, q2.length]; exact Nat.le_trans (by assumption) (by decide), fun p hp => ?_⟩))
      have g := Gr.new (o := .lst (vs ++ ws)) e hp
      exact k _ _ _ g (.lst upd_same ((q1.append q2).ex g.i))
    · cases hg
  · rename_i a vs ds h1 q1 b ws es h2 q2
    simp only [addD] at hg
    split at hg
    · cases hg
      refine .inr (.inr (.inr ⟨a, b, vs, ws, rfl, rfl, ex_t e h1, ex_t e h2, by rw [q1.length, q2.length]; exact Nat.le_trans (by assumption) (by decide), fun z => ?_, fun _ z => ?_, fun _ _ p hp => ?_⟩))
      · subst z; cases q1; exact k _ _ _ (Gr.refl e) (.tup h2 q2)
      · subst z; cases q2
        rw [List.append_nil] at k
        exact k _ _ _ (Gr.refl e) (.tup h1 q1)
      · have g := Gr.new (o := .tup (vs ++ ws)) e hp
        exact k _ _ _ g (.tup (.inl (.inl upd_same)) ((q1.append q2).ex g.i))
    · cases hg
/-- lists added, a new list -/
def addF : D → D → Option (List D)
  | .lst a, .lst b => if a.length + b.length ≤ 1000000 then some (a ++ b) else none
  | _, _ => none
theorem okf_add : OKF2 K cl rCat addF := fun I H v w d1 d2 d Q e r1 r2 hg k => by
  cases r1 <;> cases r2 <;> try (cases hg; done)
  rename_i a vs ds h1 q1 b ws es h2 q2
  simp only [addF] at hg
  split at hg
  · cases hg
    exact ⟨a, b, vs, ws, rfl, rfl, e _ _ h1, e _ _ h2, by rw [q1.length, q2.length]; exact Nat.le_trans (by assumption) (by decide), fun p hp => k p _ hp (q1.append q2)⟩
  · cases hg
def subD : D → D → Option D
  | .int a, .int b => some (.int (a - b))
  | _, _ => none
theorem ok_sub : OK2 K cl (rI0 fun i j => .int (i - j)) subD := fun I H v w d1 d2 d Q e r1 r2 hg k => by
  cases r1 <;> cases r2 <;> try (cases hg; done)
  cases hg
  exact ⟨_, _, rfl, rfl, k _ _ _ (Gr.refl e) (.int _)⟩
/-- one factor below 2 ^ 63 -/
def mulD : D → D → Option D
  | .int a, .int b => if a.natAbs ≤ 2 ^ 63 ∨ b.natAbs ≤ 2 ^ 63 then some (.int (a * b)) else none
  | .lst a, .int b => if a.length * b.toNat ≤ 1000000 ∧ b.natAbs ≤ 2 ^ 60 then some (.lst (List.replicate b.toNat a).flatten) else none
  | .str a, .int b => if a.length * b.toNat ≤ 1000000 ∧ b.natAbs ≤ 2 ^ 60 then some (.str (Txt.mul a b)) else none
  | _, _ => none
def rMulS : R2 := fun x y H Q => ∃ (z : Str) (n : Int), x = .str z ∧ y = .int n ∧ MulOk z n ∧ Q (.str (Txt.mul z n)) H
theorem op_mulS {X : Cx} : OpR X (binaryOp .Mult) rMulS := by
  intro pins s σ H x y v u Q I rx ry h
  obtain ⟨z, n, rfl, rfl, hok, q⟩ := h
  obtain ⟨t, rfl⟩ := rx
  obtain ⟨t', rfl⟩ := ry
  exact PySem.SB.mul hok fun t' k => ⟨.str _, H, I.tok _, ⟨_, rfl⟩, q⟩
theorem mulOk_of {a : Str} {b : Int} (h : a.length * b.toNat ≤ 1000000 ∧ b.natAbs ≤ 2 ^ 60) : MulOk a b := by
  obtain ⟨h1, h2⟩ := h
  refine ⟨?_, fun hb _ => ?_, fun hb _ => ?_⟩
  · have h3 : ¬ b < -(2 ^ 63 : Int) := by omega
    have h4 : ¬ b ≥ (2 ^ 63 : Int) := by omega
    rw [decide_eq_false h3, decide_eq_false h4]; rfl
  · have e : ((a.length * b.toNat : Nat) : Int) = (a.length : Int) * b := by
      rw [Int.natCast_mul, Int.toNat_of_nonneg (by omega)]
    have : (a.length : Int) ≤ (2 ^ 63 - 1) / b := (Int.le_ediv_iff_mul_le (by omega)).mpr (by omega)
    omega
  · unfold Builtin.Str.tooLong
    simp only [decide_eq_false_iff_not]
    have : (1000000 : Nat) ≤ sizeLine := by decide
    omega
theorem RepL.rep {I : Hp} {vs : List V} {ds : List D} (r : RepL K cl I vs ds) : ∀ n : Nat, RepL K cl I (List.replicate n vs).flatten (List.replicate n ds).flatten
  | 0 => .nil
  | n + 1 => by
    rw [List.replicate_succ, List.replicate_succ, List.flatten_cons, List.flatten_cons]
    exact r.append (RepL.rep r n)
def rMulA : R2 := fun x y H Q => rI CMul (fun i j => .int (i * j)) x y H Q ∨ (rRep x y H Q ∨ rMulS x y H Q)
theorem op_mulA {X : Cx} : OpR X (binaryOp .Mult) rMulA := OpR.or op_mul (OpR.or op_rep op_mulS)
theorem ok_mul : OK2 K cl rMulA mulD := fun I H v w d1 d2 d Q e r1 r2 hg k => by
  cases r1 <;> cases r2 <;> try (cases hg; done)
  · rename_i a b
    simp only [mulD] at hg
    split at hg
    · rename_i h
      cases hg
      refine .inl ⟨_, _, rfl, rfl, ?_, k _ _ _ (Gr.refl e) (.int _)⟩
      rcases h with h | h
      · exact .inl ⟨by omega, by omega⟩
      · exact .inr ⟨by omega, by omega⟩
    · cases hg
  · rename_i a b
    simp only [mulD] at hg
    split at hg
    · rename_i h
      cases hg
      exact .inr (.inr ⟨_, _, rfl, rfl, mulOk_of h, k _ _ _ (Gr.refl e) (.str _)⟩)
    · cases hg
  · rename_i a vs ds h1 q1 b
    simp only [mulD] at hg
    split at hg
    · rename_i h
      cases hg
      refine .inr (.inl ⟨a, b, vs, rfl, rfl, e _ _ h1, by omega, by omega, by rw [q1.length]; exact Nat.le_trans h.1 (by decide), fun p hp => ?_⟩)
      have g := Gr.new (o := .lst (List.replicate b.toNat vs).flatten) e hp
      exact k _ _ _ g (.lst upd_same ((q1.rep _).ex g.i))
    · cases hg
def mulF : D → D → Option (List D)
  | .lst a, .int b => if a.length * b.toNat ≤ 1000000 ∧ b.natAbs ≤ 2 ^ 60 then some (List.replicate b.toNat a).flatten else none
  | _, _ => none
theorem okf_mul : OKF2 K cl rRep mulF := fun I H v w d1 d2 d Q e r1 r2 hg k => by
  cases r1 <;> cases r2 <;> try (cases hg; done)
  rename_i a vs ds h1 q1 b
  simp only [mulF] at hg
  split at hg
  · rename_i h
    cases hg
    exact ⟨a, b, vs, rfl, rfl, e _ _ h1, by omega, by omega, by rw [q1.length]; exact Nat.le_trans h.1 (by decide), fun p hp => k p _ hp (q1.rep _)⟩
  · cases hg
def modD : D → D → Option D
  | .int a, .int b => if 0 < b then some (.int (a % b)) else none
  | _, _ => none
theorem ok_mod : OK2 K cl (rI (fun _ j => 0 < j) fun i j => .int (i % j)) modD := fun I H v w d1 d2 d Q e r1 r2 hg k => by
  cases r1 <;> cases r2 <;> try (cases hg; done)
  simp only [modD] at hg
  split at hg
  · cases hg
    exact ⟨_, _, rfl, rfl, by assumption, k _ _ _ (Gr.refl e) (.int _)⟩
  · cases hg
def fdivD : D → D → Option D
  | .int a, .int b => if 0 < b ∧ b < 1073741824 then some (.int (a / b)) else none
  | _, _ => none
theorem ok_fdiv : OK2 K cl (rI CDiv fun i j => .int (i / j)) fdivD := fun I H v w d1 d2 d Q e r1 r2 hg k => by
  cases r1 <;> cases r2 <;> try (cases hg; done)
  simp only [fdivD] at hg
  split at hg
  · cases hg
    exact ⟨_, _, rfl, rfl, by assumption, k _ _ _ (Gr.refl e) (.int _)⟩
  · cases hg
def powD : D → D → Option D
  | .int a, .int b => if 0 ≤ b ∧ b ≤ 1000000 ∧ a.natAbs < 2 ^ 64 then some (.int (a ^ b.toNat)) else none
  | _, _ => none
theorem ok_pow : OK2 K cl (rI CPow fun i j => .int (i ^ j.toNat)) powD := fun I H v w d1 d2 d Q e r1 r2 hg k => by
  cases r1 <;> cases r2 <;> try (cases hg; done)
  simp only [powD] at hg
  split at hg
  · cases hg
    exact ⟨_, _, rfl, rfl, by assumption, k _ _ _ (Gr.refl e) (.int _)⟩
  · cases hg
/-! ### comparisons -/
def cmpD (fi : Int → Int → Bool) (fs : List Nat → List Nat → Bool) : D → D → Option D
  | .int a, .int b => some (.bl (fi a b))
  | .str a, .str b => some (.bl (fs a.cps.toList b.cps.toList))
  | _, _ => none
def rCmp (fi : Int → Int → Bool) (fs : List Nat → List Nat → Bool) : R2 := fun x y H Q => (∃ i j, x = .int i ∧ y = .int j ∧ Q (.bl (fi i j)) H) ∨ ∃ i j, x = .str i ∧ y = .str j ∧ Q (.bl (fs i.cps.toList j.cps.toList)) H
theorem ok_cmp {fi : Int → Int → Bool} {fs : List Nat → List Nat → Bool} : OK2 K cl (rCmp fi fs) (cmpD fi fs) := fun I H v w d1 d2 d Q e r1 r2 hg k => by
  cases r1 <;> cases r2 <;> try (cases hg; done)
  · cases hg
    exact .inl ⟨_, _, rfl, rfl, k _ _ _ (Gr.refl e) (.bl _)⟩
  · cases hg
    exact .inr ⟨_, _, rfl, rfl, k _ _ _ (Gr.refl e) (.bl _)⟩
abbrev ltD := cmpD (fun i j => decide (i < j)) (fun i j => decide (i < j))
abbrev leD := cmpD (fun i j => decide (i ≤ j)) (fun i j => !decide (j < i))
abbrev gtD := cmpD (fun i j => decide (j < i)) (fun i j => decide (j < i))
abbrev geD := cmpD (fun i j => decide (j ≤ i)) (fun i j => !decide (i < j))
theorem op_ltA {X : Cx} : OpR X (compareOp .Lt) (rCmp (fun i j => decide (i < j)) (fun i j => decide (i < j))) := OpR.or op_lt op_lt_str
theorem op_leA {X : Cx} : OpR X (compareOp .LtE) (rCmp (fun i j => decide (i ≤ j)) (fun i j => !decide (j < i))) := OpR.or op_le op_le_str
theorem op_gtA {X : Cx} : OpR X (compareOp .Gt) (rCmp (fun i j => decide (j < i)) (fun i j => decide (j < i))) := OpR.or op_gt op_gt_str
theorem op_geA {X : Cx} : OpR X (compareOp .GtE) (rCmp (fun i j => decide (j ≤ i)) (fun i j => !decide (i < j))) := OpR.or op_ge op_ge_str
mutual
def toP : D → Option PyData
  | .non => some .none
  | .bl b => some (.bool b)
  | .int i => some (.int i)
  | .str z => some (.str z)
  | .lst ds => (match toPs ds with
    | some r => some (.list r)
    | none => none)
  | .tup ds => (match toPs ds with
    | some r => some (.tuple r)
    | none => none)
  | .dct _ => none
  | .obj _ _ => none
  | .scr _ => none
def toPs : List D → Option (List PyData)
  | [] => some []
  | d :: ds => (match toP d with
    | some p => (match toPs ds with
      | some r => some (p :: r)
      | none => none)
    | none => none)
end
mutual
theorem Rep.dp {I H : Hp} (e : Ex I H) : ∀ {v : V} {d : D} {p : PyData}, Rep K cl I v d → toP d = some p → Dp K H v p
  | _, _, _, .non, h => by cases h; exact .non
  | _, _, _, .bl b, h => by cases h; exact .bl b
  | _, _, _, .int i, h => by cases h; exact .int i
  | _, _, _, .str z, h => by cases h; exact .str z
  | _, _, _, .lst h1 r, h => by
    simp only [toP] at h
    split at h
    · cases h; exact .lst (rl h1 e) (RepL.dp e r (by assumption))
    · cases h
  | _, _, _, .tup h1 r, h => by
    simp only [toP] at h
    split at h
    · cases h; exact .tup (ex_t e h1) (RepL.dp e r (by assumption))
    · cases h
  | _, _, _, .dct _ _, h => by cases h
  | _, _, _, .obj _ _, h => by cases h
  | _, _, _, .scr _, h => by cases h
theorem RepL.dp {I H : Hp} (e : Ex I H) : ∀ {v : List V} {d : List D} {p : List PyData}, RepL K cl I v d → toPs d = some p → DpAll K H v p
  | _, _, _, .nil, h => by cases h; exact .nil
  | _, _, _, .cons r rr, h => by
    simp only [toPs] at h
    split at h
    · rename_i h1
      split at h
      · rename_i h2
        cases h
        exact .cons (Rep.dp e r h1) (RepL.dp e rr h2)
      · cases h
    · cases h
end
def eqB : D → D → Option Bool
  | .str a, .str b => some (decide (a = b))
  | .int a, .int b => some (decide (a = b))
  | a, b => (match toP a, toP b with
    | some p, some q => if SeqAt.shaped p && SeqAt.shaped q then some (PyData.eqv p q) else none
    | _, _ => none)
def eqD (a b : D) : Option D := match eqB a b with
  | some r => some (.bl r)
  | none => none
def neD (a b : D) : Option D := match eqB a b with
  | some r => some (.bl (!r))
  | none => none
def rEqA (K : PySem.W.Frag) : R2 := fun x y H Q => rEq x y H Q ∨ rEqD K x y H Q
def rNeA (K : PySem.W.Frag) : R2 := fun x y H Q => rNe x y H Q ∨ rNeD K x y H Q
theorem op_eqA {X : Cx} {k : Nat} (hr : Room k X.A) : OpR X (compareOp .Eq) (rEqA X.K) := OpR.or op_eq (op_eqD hr.units)
theorem op_neA {X : Cx} {k : Nat} (hr : Room k X.A) : OpR X (compareOp .NotEq) (rNeA X.K) := OpR.or op_ne (op_neD hr.units)
theorem eqB_ok {I H : Hp} {v w : V} {d1 d2 : D} {b : Bool} (e : Ex I H) (r1 : Rep K cl I v d1) (r2 : Rep K cl I w d2) (h : eqB d1 d2 = some b) : (scal v w = true ∧ decide (v = w) = b) ∨ ∃ p q, Dp K H v p ∧ Dp K H w q ∧ SeqAt.shaped p = true ∧ SeqAt.shaped q = true ∧ PyData.eqv p q = b := by
  unfold eqB at h
  split at h
  · cases h; cases r1; cases r2; exact .inl ⟨rfl, by simp⟩
  · cases h; cases r1; cases r2; exact .inl ⟨rfl, by simp⟩
  · split at h
    · rename_i p q h1 h2
      split at h
      · rename_i h3
        cases h
        rw [Bool.and_eq_true] at h3
        exact .inr ⟨p, q, r1.dp e h1, r2.dp e h2, h3.1, h3.2, rfl⟩
      · cases h
    · cases h
theorem ok_eq : OK2 K cl (rEqA K) eqD := fun I H v w d1 d2 d Q e r1 r2 hg k => by
  unfold eqD at hg
  split at hg
  · rename_i b hb
    cases hg
    rcases eqB_ok e r1 r2 hb with ⟨h1, h2⟩ | ⟨p, q, h1, h2, h3, h4, h5⟩
    · exact .inl ⟨h1, by rw [h2]; exact k _ _ _ (Gr.refl e) (.bl _)⟩
    · exact .inr ⟨p, q, h1, h2, h3, h4, by rw [h5]; exact k _ _ _ (Gr.refl e) (.bl _)⟩
  · cases hg
theorem ok_ne : OK2 K cl (rNeA K) neD := fun I H v w d1 d2 d Q e r1 r2 hg k => by
  unfold neD at hg
  split at hg
  · rename_i b hb
    cases hg
    rcases eqB_ok e r1 r2 hb with ⟨h1, h2⟩ | ⟨p, q, h1, h2, h3, h4, h5⟩
    · exact .inl ⟨h1, by rw [h2]; exact k _ _ _ (Gr.refl e) (.bl _)⟩
    · exact .inr ⟨p, q, h1, h2, h3, h4, by rw [h5]; exact k _ _ _ (Gr.refl e) (.bl _)⟩
  · cases hg
/-! in -/
def toV : D → Option V
  | .non => some .non
  | .bl b => some (.bl b)
  | .int i => some (.int i)
  | .str z => some (.str z)
  | _ => none
def toVs : List D → Option (List V)
  | [] => some []
  | d :: ds => (match toV d with
    | some v => (match toVs ds with
      | some r => some (v :: r)
      | none => none)
    | none => none)
theorem Rep.toV {I : Hp} {v u : V} {d : D} (r : Rep K cl I v d) (h : Zf.toV d = some u) : v = u ∧ flatV u = true := by
  cases r <;> cases h <;> exact ⟨rfl, rfl⟩
theorem RepL.toVs {I : Hp} {vs us : List V} {ds : List D} (r : RepL K cl I vs ds) (h : Zf.toVs ds = some us) : vs = us ∧ us.all flatV = true := by
  induction ds generalizing vs us with
  | nil => cases r; cases h; exact ⟨rfl, rfl⟩
  | cons d ds ih =>
    cases r with
    | cons r rr =>
      simp only [Zf.toVs] at h
      split at h
      · rename_i v h1
        split at h
        · rename_i r2 h2
          cases h
          obtain ⟨e1, f1⟩ := r.toV h1
          obtain ⟨e2, f2⟩ := ih rr h2
          subst e1 e2
          exact ⟨rfl, by rw [List.all_cons, f1, f2]; rfl⟩
        · cases h
      · cases h
theorem toVs_strs : ∀ xs : List Str, toVs (xs.map D.str) = some (xs.map V.str)
  | [] => rfl
  | x :: xs => by simp [toVs, toV, toVs_strs xs]
theorem toVs_ints : ∀ xs : List Int, toVs (xs.map D.int) = some (xs.map V.int)
  | [] => rfl
  | x :: xs => by simp [toVs, toV, toVs_ints xs]
theorem inV_strs (a : Str) : ∀ xs : List Str, inV (.str a) (xs.map V.str) = decide (a ∈ xs)
  | [] => rfl
  | x :: xs => by
    have h := inV_strs a xs
    unfold inV at h ⊢
    rw [List.map_cons, List.any_cons, h]
    by_cases q : x = a
    · subst q; simp [eqV]
    · have : ¬ a = x := fun z => q z.symm
      simp [eqV, q, this]
/-- is there a text in a text -/
def subS (z w : Str) : Bool := match z.cps.toList with
  | [c] => decide (c ∈ w.cps.toList)
  | _ => !(Builtin.Str.occurrences w z 0 w.length 1).isEmpty
def inB : D → D → Option Bool
  | .str a, .str b => some (subS a b)
  | d, .lst ds => (match Zf.toV d, toVs ds with
    | some v, some vs => some (inV v vs)
    | _, _ => none)
  | d, .tup ds => (match Zf.toV d, toVs ds with
    | some v, some vs => some (inV v vs)
    | _, _ => none)
  | _, _ => none
def inD (a b : D) : Option D := match inB a b with
  | some r => some (.bl r)
  | none => none
def ninD (a b : D) : Option D := match inB a b with
  | some r => some (.bl (!r))
  | none => none
def rInA (K : PySem.W.Frag) : R2 := fun x y H Q => (∃ (c : Nat) (z : Str), x = .str ⟨#[c]⟩ ∧ y = .str z ∧ Q (.bl (decide (c ∈ z.cps.toList))) H) ∨ ((∃ i j, x = .str i ∧ y = .str j ∧ Q (.bl (!(Builtin.Str.occurrences j i 0 j.length 1).isEmpty)) H) ∨ rIn K false x y H Q)
def rNinA (K : PySem.W.Frag) : R2 := fun x y H Q => (∃ (c : Nat) (z : Str), x = .str ⟨#[c]⟩ ∧ y = .str z ∧ Q (.bl (!decide (c ∈ z.cps.toList))) H) ∨ ((∃ i j, x = .str i ∧ y = .str j ∧ Q (.bl (!(!(Builtin.Str.occurrences j i 0 j.length 1).isEmpty))) H) ∨ rIn K true x y H Q)
theorem op_inA {X : Cx} : OpR X (compareOp .In) (rInA X.K) := OpR.or op_in_sign (OpR.or op_in_str op_in_seq)
theorem op_ninA {X : Cx} : OpR X (compareOp .NotIn) (rNinA X.K) := OpR.or op_notIn_sign (OpR.or op_notin_str op_notIn_seq)
theorem str_one {z : Str} {c : Nat} (h : z.cps.toList = [c]) : z = ⟨#[c]⟩ := by
  obtain ⟨⟨l⟩⟩ := z
  have : l = [c] := h
  subst this; rfl
theorem inB_ok {I H : Hp} {v w : V} {d1 d2 : D} {b : Bool} (e : Ex I H) (r1 : Rep K cl I v d1) (r2 : Rep K cl I w d2) (h : inB d1 d2 = some b) :
    (∃ (c : Nat) (z : Str), v = .str ⟨#[c]⟩ ∧ w = .str z ∧ decide (c ∈ z.cps.toList) = b) ∨ (∃ i j, v = .str i ∧ w = .str j ∧ (!(Builtin.Str.occurrences j i 0 j.length 1).isEmpty) = b) ∨ ∃ p xs, w = .ref p ∧ (SqL K H p xs ∨ SqT K H p xs) ∧ flatV v = true ∧ xs.all flatV = true ∧ inV v xs = b := by
  unfold inB at h
  split at h
  · cases h
    cases r1; cases r2
    rename_i a z
    unfold subS
    split
    · rename_i c hc
      exact .inl ⟨c, z, by rw [str_one hc], rfl, rfl⟩
    · exact .inr (.inl ⟨a, z, rfl, rfl, rfl⟩)
  · split at h
    · rename_i u us h1 h2
      cases h
      obtain ⟨rfl, f1⟩ := r1.toV h1
      cases r2 with
      | lst hs r =>
        obtain ⟨rfl, f2⟩ := r.toVs h2
        exact .inr (.inr ⟨_, _, rfl, .inl (rl hs e), f1, f2, rfl⟩)
    · cases h
  · split at h
    · rename_i u us h1 h2
      cases h
      obtain ⟨rfl, f1⟩ := r1.toV h1
      cases r2 with
      | tup hs r =>
        obtain ⟨rfl, f2⟩ := r.toVs h2
        exact .inr (.inr ⟨_, _, rfl, .inr (ex_t e hs), f1, f2, rfl⟩)
    · cases h
  · cases h
theorem ok_in : OK2 K cl (rInA K) inD := fun I H v w d1 d2 d Q e r1 r2 hg k => by
  unfold inD at hg
  split at hg
  · rename_i b hb
    cases hg
    rcases inB_ok e r1 r2 hb with ⟨c, z, rfl, rfl, h⟩ | ⟨i, j, rfl, rfl, h⟩ | ⟨p, xs, rfl, h1, h2, h3, h⟩
    · exact .inl ⟨c, z, rfl, rfl, by rw [h]; exact k _ _ _ (Gr.refl e) (.bl _)⟩
    · exact .inr (.inl ⟨i, j, rfl, rfl, by rw [h]; exact k _ _ _ (Gr.refl e) (.bl _)⟩)
    · exact .inr (.inr ⟨p, xs, rfl, h1, h2, h3, by rw [h]; exact k _ _ _ (Gr.refl e) (.bl _)⟩)
  · cases hg
theorem ok_nin : OK2 K cl (rNinA K) ninD := fun I H v w d1 d2 d Q e r1 r2 hg k => by
  unfold ninD at hg
  split at hg
  · rename_i b hb
    cases hg
    rcases inB_ok e r1 r2 hb with ⟨c, z, rfl, rfl, h⟩ | ⟨i, j, rfl, rfl, h⟩ | ⟨p, xs, rfl, h1, h2, h3, h⟩
    · exact .inl ⟨c, z, rfl, rfl, by rw [h]; exact k _ _ _ (Gr.refl e) (.bl _)⟩
    · exact .inr (.inl ⟨i, j, rfl, rfl, by rw [h]; exact k _ _ _ (Gr.refl e) (.bl _)⟩)
    · exact .inr (.inr ⟨p, xs, rfl, h1, h2, h3, by rw [h]; exact k _ _ _ (Gr.refl e) (.bl _)⟩)
  · cases hg
end
section
variable {X : Cx} {cl : Nat → Addr} {a e : Expr} {pos : Pos} {ma : MM D}
/-! is None -/
def isN : D → Option D
  | .non => some (.bl true)
  | _ => some (.bl false)
def notN : D → Option D
  | .non => some (.bl false)
  | _ => some (.bl true)
theorem Rep.non_iff {K : PySem.W.Frag} {I : Hp} {v : V} {d : D} (r : Rep K cl I v d) : isN d = some (.bl (decide (v = .non))) ∧ notN d = some (.bl (!decide (v = .non))) := by
  cases r <;> exact ⟨rfl, rfl⟩
theorem em_isN {j pos'} (h : EM X cl a ma) : EM X cl (.Compare a [.Is] [.Constant .none j pos'] pos) (MM.opt ma isN) := (pe_cmp (pc_isN h) (by rfl)).zi fun σ H Q q => by
  obtain ⟨F, I, env, ex, d, env', s, hm, k⟩ := q
  obtain ⟨d0, h1, h2⟩ := opt_of hm
  refine ⟨F, I, env, ex, d0, env', s, h1, fun v I' H' s' e' r => ?_⟩
  rw [r.non_iff.1] at h2
  cases h2
  exact k _ I' H' s' e' (.bl _)
theorem em_notN {j pos'} (h : EM X cl a ma) : EM X cl (.Compare a [.IsNot] [.Constant .none j pos'] pos) (MM.opt ma notN) := (pe_cmp (pc_notN h) (by rfl)).zi fun σ H Q q => by
  obtain ⟨F, I, env, ex, d, env', s, hm, k⟩ := q
  obtain ⟨d0, h1, h2⟩ := opt_of hm
  refine ⟨F, I, env, ex, d0, env', s, h1, fun v I' H' s' e' r => ?_⟩
  rw [r.non_iff.2] at h2
  cases h2
  exact k _ I' H' s' e' (.bl _)
theorem eb_isN {j pos'} (h : EM X cl a ma) : EB X cl (.Compare a [.Is] [.Constant .none j pos'] pos) (MM.opt (MM.opt ma isN) blD) :=
  eb_of (t := tIsN (tM X.K cl ma)) (pt_cmp (pc_isN h) (by rfl)) fun σ H Q q => by
    obtain ⟨F, I, env, ex, d, env', s, hm, k⟩ := q
    obtain ⟨d0, h1, h2⟩ := opt_of hm
    refine ⟨F, I, env, ex, d0, env', s, h1, fun v I' H' s' e' r => ?_⟩
    rw [r.non_iff.1] at h2
    cases h2
    exact k _ I' H' s' e' (.bl _)
theorem eb_notN {j pos'} (h : EM X cl a ma) : EB X cl (.Compare a [.IsNot] [.Constant .none j pos'] pos) (MM.opt (MM.opt ma notN) blD) :=
  eb_of (t := tNotN (tM X.K cl ma)) (pt_cmp (pc_notN h) (by rfl)) fun σ H Q q => by
    obtain ⟨F, I, env, ex, d, env', s, hm, k⟩ := q
    obtain ⟨d0, h1, h2⟩ := opt_of hm
    refine ⟨F, I, env, ex, d0, env', s, h1, fun v I' H' s' e' r => ?_⟩
    rw [r.non_iff.2] at h2
    cases h2
    exact k _ I' H' s' e' (.bl _)
end
/-! ### built-in functions -/
section
variable {K : PySem.W.Frag} {cl : Nat → Addr}
def lenL : List D → Option D
  | [.str z] => if z.length ≤ 1000000 then some (.int z.length) else none
  | [.lst xs] => some (.int xs.length)
  | [.tup xs] => some (.int xs.length)
  | _ => none
theorem ok_len : OKL K cl (fun xs H Q => ∃ x n, xs = [x] ∧ LenV K x H n ∧ Q (.int n) H) lenL := fun I H vs ds d Q e r hg k => by
  unfold lenL at hg
  split at hg
  · split at hg
    · cases hg
      cases r with
      | cons r rr => cases rr; cases r; exact ⟨_, _, rfl, ⟨Nat.le_trans (by assumption) (by decide), rfl⟩, k _ _ _ (Gr.refl e) (.int _)⟩
    · cases hg
  · cases hg
    cases r with
    | cons r rr =>
      cases rr
      cases r with
      | lst hs r => exact ⟨_, _, rfl, .inl ⟨_, rl hs e, rfl⟩, by rw [r.length]; exact k _ _ _ (Gr.refl e) (.int _)⟩
  · cases hg
    cases r with
    | cons r rr =>
      cases rr
      cases r with
      | tup hs r => exact ⟨_, _, rfl, .inr ⟨_, ex_t e hs, rfl⟩, by rw [r.length]; exact k _ _ _ (Gr.refl e) (.int _)⟩
  · cases hg
def intL : List D → Option D
  | [.int i] => some (.int i)
  | [.bl b] => some (.int (if b then 1 else 0))
  | _ => none
theorem ok_int : OKL K cl (fun xs H Q => (∃ i, xs = [.int i] ∧ Q (.int i) H) ∨ ∃ k, xs = [.bl k] ∧ Q (.int (if k then 1 else 0)) H) intL := fun I H vs ds d Q e r hg k => by
  unfold intL at hg
  split at hg
  · cases hg
    cases r with
    | cons r rr => cases rr; cases r; exact .inl ⟨_, rfl, k _ _ _ (Gr.refl e) (.int _)⟩
  · cases hg
    cases r with
    | cons r rr => cases rr; cases r; exact .inr ⟨_, rfl, k _ _ _ (Gr.refl e) (.int _)⟩
  · cases hg
def listL : List D → Option (List D)
  | [.lst xs] => some xs
  | [.tup xs] => some xs
  | _ => none
theorem okf_list : OKFL K cl (fun xs H Q => ∃ p ys, xs = [.ref p] ∧ (SqL K H p ys ∨ SqT K H p ys) ∧ ∀ l, H l = none → Q (.ref l) (upd H l (.lst ys))) listL := fun I H vs as ds Q e r hg k => by
  unfold listL at hg
  split at hg
  · cases hg
    cases r with
    | cons r rr => cases rr; cases r with
      | lst hs r => exact ⟨_, _, rfl, .inl (rl hs e), fun l hl => k l _ hl r⟩
  · cases hg
    cases r with
    | cons r rr => cases rr; cases r with
      | tup hs r => exact ⟨_, _, rfl, .inr (ex_t e hs), fun l hl => k l _ hl r⟩
  · cases hg
def tupleL : List D → Option D
  | [.lst xs] => some (.tup xs)
  | [.tup xs] => some (.tup xs)
  | _ => none
theorem ok_tuple : OKL K cl (fun xs H Q => ∃ p ys, xs = [.ref p] ∧ ((SqL K H p ys ∧ ∀ l, H l = none → Q (.ref l) (upd H l (.tup ys))) ∨ (SqT K H p ys ∧ Q (.ref p) H))) tupleL := fun I H vs ds d Q e r hg k => by
  unfold tupleL at hg
  split at hg
  · cases hg
    cases r with
    | cons r rr => cases rr; cases r with
      | @lst a vs ds hs r =>
        refine ⟨_, _, rfl, .inl ⟨rl hs e, fun l hl => ?_⟩⟩
        have g := Gr.new (o := .tup vs) e hl
        exact k _ _ _ g (.tup (.inl (.inl upd_same)) (r.ex g.i))
  · cases hg
    cases r with
    | cons r rr => cases rr; cases r with
      | tup hs r => exact ⟨_, _, rfl, .inr ⟨ex_t e hs, k _ _ _ (Gr.refl e) (.tup hs r)⟩⟩
  · cases hg
def sumL : List D → Option D
  | [.lst xs] => (match intsD xs with
    | some ns => some (.int ns.sum)
    | none => none)
  | _ => none
theorem ok_sum : OKL K cl (rSum K) sumL := fun I H vs ds d Q e r hg k => by
  unfold sumL at hg
  split at hg
  · split at hg
    · rename_i ns hn
      cases hg
      cases r with
      | cons r rr => cases rr; cases r with
        | lst hs r =>
          rw [r.intsV hn] at hs
          exact ⟨_, ns, rfl, rl hs e, k _ _ _ (Gr.refl e) (.int _)⟩
    · cases hg
  · cases hg
def allL : List D → Option D
  | [.lst xs] => (match bolsD xs with
    | some ns => some (.bl (ns.all id))
    | none => none)
  | _ => none
theorem ok_all : OKL K cl (rAll K) allL := fun I H vs ds d Q e r hg k => by
  unfold allL at hg
  split at hg
  · split at hg
    · rename_i ns hn
      cases hg
      cases r with
      | cons r rr => cases rr; cases r with
        | lst hs r =>
          rw [r.bolsV hn] at hs
          exact ⟨_, ns, rfl, rl hs e, k _ _ _ (Gr.refl e) (.bl _)⟩
    · cases hg
  · cases hg
def anyL : List D → Option D
  | [.lst xs] => (match bolsD xs with
    | some ns => some (.bl (ns.any id))
    | none => none)
  | _ => none
theorem ok_any : OKL K cl (rAny K) anyL := fun I H vs ds d Q e r hg k => by
  unfold anyL at hg
  split at hg
  · split at hg
    · rename_i ns hn
      cases hg
      cases r with
      | cons r rr => cases rr; cases r with
        | lst hs r =>
          rw [r.bolsV hn] at hs
          exact ⟨_, ns, rfl, rl hs e, k _ _ _ (Gr.refl e) (.bl _)⟩
    · cases hg
  · cases hg
/-! ### methods of texts -/
def startsM (z : Str) : List D → Option D
  | [.str y] => some (.bl (Txt.startswith z y))
  | _ => none
theorem ok_starts : OKM K cl (fun x xs H Q => ∃ a b, x = .str a ∧ xs = [.str b] ∧ Q (.bl (Txt.startswith a b)) H) startsM := fun I H z vs ds d Q e r hg k => by
  unfold startsM at hg
  split at hg
  · cases hg
    cases r with
    | cons r rr => cases rr; cases r; exact ⟨_, _, rfl, rfl, k _ _ _ (Gr.refl e) (.bl _)⟩
  · cases hg
def endsM (z : Str) : List D → Option D
  | [.str y] => some (.bl (Txt.endswith z y))
  | _ => none
theorem ok_ends : OKM K cl (fun x xs H Q => ∃ a b, x = .str a ∧ xs = [.str b] ∧ Q (.bl (Txt.endswith a b)) H) endsM := fun I H z vs ds d Q e r hg k => by
  unfold endsM at hg
  split at hg
  · cases hg
    cases r with
    | cons r rr => cases rr; cases r; exact ⟨_, _, rfl, rfl, k _ _ _ (Gr.refl e) (.bl _)⟩
  · cases hg
def joinM (z : Str) : List D → Option D
  | [.lst xs] => (match strsD xs with
    | some ys => if (ys.map (·.length)).sum + ys.length * z.length ≤ 10000000 then some (.str (Txt.join z ys)) else none
    | none => none)
  | [.tup xs] => (match strsD xs with
    | some ys => if (ys.map (·.length)).sum + ys.length * z.length ≤ 10000000 then some (.str (Txt.join z ys)) else none
    | none => none)
  | _ => none
theorem ok_join : OKM K cl (fun x xs H Q => ∃ a p, ∃ ys : List Str, x = .str a ∧ xs = [.ref p] ∧ (SqL K H p (ys.map V.str) ∨ SqT K H p (ys.map V.str)) ∧ (ys.map (·.length)).sum + ys.length * a.length ≤ 16777216 ∧ Q (.str (Txt.join a ys)) H) joinM := fun I H z vs ds d Q e r hg k => by
  unfold joinM at hg
  split at hg
  · split at hg
    · rename_i ys hn
      split at hg
      · cases hg
        cases r with
        | cons r rr => cases rr; cases r with
          | lst hs r =>
            rw [r.strsV hn] at hs
            exact ⟨z, _, ys, rfl, rfl, .inl (rl hs e), Nat.le_trans (by assumption) (by decide), k _ _ _ (Gr.refl e) (.str _)⟩
      · cases hg
    · cases hg
  · split at hg
    · rename_i ys hn
      split at hg
      · cases hg
        cases r with
        | cons r rr => cases rr; cases r with
          | tup hs r =>
            rw [r.strsV hn] at hs
            exact ⟨z, _, ys, rfl, rfl, .inr (ex_t e hs), Nat.le_trans (by assumption) (by decide), k _ _ _ (Gr.refl e) (.str _)⟩
      · cases hg
    · cases hg
  · cases hg
def splitM (z : Str) : List D → Option (List D)
  | [.str y] => if y.length ≠ 0 ∧ z.length ≤ 1000000 then some ((Txt.split z y).map .str) else none
  | _ => none
theorem okf_split : OKFM K cl (fun x xs H Q => ∃ a b, x = .str a ∧ xs = [.str b] ∧ (b.length == 0) = false ∧ a.length + 2 ≤ sizeLine ∧ rNewStrs (Txt.split a b) H Q) splitM := fun I H z vs as ds Q e r hg k => by
  unfold splitM at hg
  split at hg
  · split at hg
    · rename_i h
      cases hg
      cases r with
      | cons r rr =>
        cases rr; cases r
        exact ⟨_, _, rfl, rfl, beq_eq_false_iff_ne.mpr h.1, Nat.le_trans (Nat.add_le_add_right h.2 2) (by decide), fun p hp => k p _ hp (RepL.strs _)⟩
    · cases hg
  · cases hg
def wordsM (z : Str) : List D → Option (List D)
  | [] => if z.length ≤ 1000000 then some ((Txt.words z).map .str) else none
  | _ => none
theorem okf_words : OKFM K cl (fun x xs H Q => ∃ a, x = .str a ∧ xs = [] ∧ a.length + 2 ≤ sizeLine ∧ rNewStrs (Txt.words a) H Q) wordsM := fun I H z vs as ds Q e r hg k => by
  unfold wordsM at hg
  split at hg
  · split at hg
    · rename_i h
      cases hg
      cases r
      exact ⟨_, rfl, rfl, Nat.le_trans (Nat.add_le_add_right h 2) (by decide), fun p hp => k p _ hp (RepL.strs _)⟩
    · cases hg
  · cases hg
def stripM (f : Str → Str → Str) (z : Str) : List D → Option D
  | [.str y] => if z.length ≤ 1000000 then some (.str (f z y)) else none
  | _ => none
theorem ok_strip {f : Str → Str → Str} : OKM K cl (fun x xs H Q => ∃ a b, x = .str a ∧ xs = [.str b] ∧ a.length ≤ sizeLine ∧ Q (.str (f a b)) H) (stripM f) := fun I H z vs ds d Q e r hg k => by
  unfold stripM at hg
  split at hg
  · split at hg
    · rename_i h
      cases hg
      cases r with
      | cons r rr => cases rr; cases r; exact ⟨_, _, rfl, rfl, Nat.le_trans h (by decide), k _ _ _ (Gr.refl e) (.str _)⟩
    · cases hg
  · cases hg
def find4M (z : Str) : List D → Option D
  | [.str y, .int i, .int j] => some (.int (Txt.findIn z y i j))
  | _ => none
theorem ok_find4 : OKM K cl (fun x xs H Q => ∃ (a b : Str) (i j : Int), x = .str a ∧ xs = [.str b, .int i, .int j] ∧ Q (.int (Txt.findIn a b i j)) H) find4M := fun I H z vs ds d Q e r hg k => by
  unfold find4M at hg
  split at hg
  · cases hg
    cases r with
    | cons r rr => cases rr with
      | cons r2 rr => cases rr with
        | cons r3 rr => cases rr; cases r; cases r2; cases r3; exact ⟨_, _, _, _, rfl, rfl, k _ _ _ (Gr.refl e) (.int _)⟩
  · cases hg
end
end Zf

set_option Elab.async false
set_option linter.all false
set_option maxRecDepth 100000
set_option maxHeartbeats 1000000
/-! Zf, part 8: lists that change, draws, the law's end. -/
namespace Zf
open PySem PySem.Spec L2
section
variable {X : Cx} {cl : Nat → Addr} {a b e : Expr} {es : List Expr} {pos p apos cpos : Pos} {ma mb : MM D} {i : Nat} {x : Str}
/-! ### append, extend, pop -/
def mappend (i : Nat) (m : MM D) : MM D := fun env => match env[i]? with
  | some (.mu _ (.ml _)) => (match m env with
    | some (d, e1) => (match e1[i]? with
      | some (.mu q (.ml ds)) => if ds.length < 1000000 then some (.non, e1.set i (.mu q (.ml (ds ++ [d])))) else none
      | _ => none)
    | none => none)
  | _ => none
theorem em_append (i : Nat) (ha : EM X cl e ma) (hN : X.N[i]? = some x := by rfl) (hv : Vis X.env.scope x := by first | exact Or.inl rfl | exact Or.inr (Or.inl rfl) | exact Or.inr (Or.inr rfl)) (hd : (x == ("__debug__" : Str)) = false := by decide)
    (hcd : (x == ("__classdict__" : Str)) = false := by decide)
    (hbase : attributeBase (.Name x p) "append" X.env (eval (.Name x p) X.env) = eval (.Name x p) X.env := by rfl)
    (hfew : ((backTo cpos (starEach [e] X.env)).all (fun x => !x.1) && (backToKw cpos (keywordEach [] X.env)).all (fun x => x.1.isSome)
      && decide ([e].length + ([] : List Keyword).length + (if ([] : List Keyword).isEmpty then 0 else 1) < 30)) = true := by rfl)
    (hline : (apos.endLine == cpos.line) = true := by rfl) (hs : starEach [e] X.env = (false, eval e X.env) :: starEach [] X.env := by rfl) (hplain : (backTo cpos (starEach [] X.env)).any (·.1) = false := by rfl) :
    EM X cl (.Call (.Attribute (.Name x p) "append" apos) [e] [] cpos) (mappend i ma) := by
  refine (pe_bm PySem.F.plainAttrs_list PySem.F.slot_list_append PySem.F.type_list_append mt_append (pe_var hN hv hd hcd) (pa_cons ha pa_nil hs) hbase hfew hline hs hplain).zi fun σ H Q q => ?_
  obtain ⟨F, I, env, ex, d, env', s, hm, k⟩ := q
  unfold mappend at hm
  split at hm
  · rename_i p0 ds0 h0
    split at hm
    · rename_i d1 e1 h1
      split at hm
      · rename_i q0 ds h2
        split at hm
        · rename_i hlen
          cases hm
          obtain ⟨f, s'⟩ := id s
          obtain ⟨v, hv, ⟨l, vs, rfl, hf, hl, hr⟩, hn⟩ := s'.lookM h0
          refine ⟨_, hv, .inl ⟨rfl, vs, .inl (.inl hl)⟩, F, I, env, ex, d1, e1, s, h1, fun w I1 H1 s1 q1 r1 => ?_⟩
          obtain ⟨f1, s1⟩ := s1
          obtain ⟨v', hv', ⟨l', vs', e', hf', hl', hr'⟩, hn'⟩ := s1.lookM h2
          rw [hv] at hv'
          cases hv'
          cases e'
          refine ⟨l, vs', w, rfl, rfl, hl', by rw [hr'.length]; exact Nat.lt_of_lt_of_le hlen (by decide), ?_⟩
          refine k .non I1 _ ⟨f1, s1.change h2 (fun a ha => upd_ne fun z => ha (by rw [hf', z]; simp)) fun v hv => ?_⟩ q1 .non
          have := s1.lookM h2
          rw [show σ[i]? = some (some (V.ref l)) from by assumption] at hv
          cases hv
          exact ⟨l, _, rfl, hf', upd_same, hr'.append (.cons r1 .nil)⟩
        · cases hm
      · cases hm
    · cases hm
  · cases hm
def mextend (i : Nat) (m : MM (List D)) : MM D := fun env => match env[i]? with
  | some (.mu _ (.ml _)) => (match m env with
    | some (d, e1) => (match e1[i]? with
      | some (.mu q (.ml ds)) => if ds.length + d.length ≤ 1000000 then some (.non, e1.set i (.mu q (.ml (ds ++ d)))) else none
      | _ => none)
    | none => none)
  | _ => none
theorem em_extend (i : Nat) {m : MM (List D)} (ha : EF X cl e m) (hN : X.N[i]? = some x := by rfl) (hv : Vis X.env.scope x := by first | exact Or.inl rfl | exact Or.inr (Or.inl rfl) | exact Or.inr (Or.inr rfl)) (hd : (x == ("__debug__" : Str)) = false := by decide)
    (hcd : (x == ("__classdict__" : Str)) = false := by decide)
    (hbase : attributeBase (.Name x p) "extend" X.env (eval (.Name x p) X.env) = eval (.Name x p) X.env := by rfl)
    (hfew : ((backTo cpos (starEach [e] X.env)).all (fun x => !x.1) && (backToKw cpos (keywordEach [] X.env)).all (fun x => x.1.isSome)
      && decide ([e].length + ([] : List Keyword).length + (if ([] : List Keyword).isEmpty then 0 else 1) < 30)) = true := by rfl)
    (hline : (apos.endLine == cpos.line) = true := by rfl) (hs : starEach [e] X.env = (false, eval e X.env) :: starEach [] X.env := by rfl) (hplain : (backTo cpos (starEach [] X.env)).any (·.1) = false := by rfl) :
    EM X cl (.Call (.Attribute (.Name x p) "extend" apos) [e] [] cpos) (mextend i m) := by
  refine (pe_bm PySem.F.plainAttrs_list PySem.F.slot_list_extend PySem.F.type_list_extend mt_extend (pe_var hN hv hd hcd) (pa_cons ha pa_nil hs) hbase hfew hline hs hplain).zi fun σ H Q q => ?_
  obtain ⟨F, I, env, ex, d, env', s, hm, k⟩ := q
  unfold mextend at hm
  split at hm
  · rename_i p0 ds0 h0
    split at hm
    · rename_i d1 e1 h1
      split at hm
      · rename_i q0 ds h2
        split at hm
        · rename_i hlen
          cases hm
          obtain ⟨f, s'⟩ := id s
          obtain ⟨v, hv, ⟨l, vs, rfl, hf, hl, hr⟩, hn⟩ := s'.lookM h0
          refine ⟨_, hv, .inl ⟨rfl, vs, .inl (.inl hl)⟩, F, I, env, ex, d1, e1, s, h1, fun p1 ws I1 H1 s1 q1 r1 => ?_⟩
          obtain ⟨f1, s1⟩ := s1
          obtain ⟨v', hv', ⟨l', vs', e', hf', hl', hr'⟩, hn'⟩ := s1.lookM h2
          rw [hv] at hv'
          cases hv'
          cases e'
          have hp1 : H1 p1 = some (.lst ws) := (s1.ex0 (p1, .lst ws) (by simp)).2.1
          refine ⟨l, p1, vs', ws, rfl, rfl, hl', hp1, by rw [hr'.length, r1.length]; exact Nat.le_trans hlen (by decide), ?_⟩
          obtain ⟨g1, s2⟩ := s1.exFreeze
          refine k .non _ _ ⟨f1, s2.change h2 (fun a ha => upd_ne fun z => ha (by rw [hf', z]; simp)) fun v hv => ?_⟩ (q1.trans g1) .non
          rw [show σ[i]? = some (some (V.ref l)) from by assumption] at hv
          cases hv
          exact ⟨l, _, rfl, hf', upd_same, (hr'.append r1).ex g1⟩
        · cases hm
      · cases hm
    · cases hm
  · cases hm
def mpopAt (i : Nat) (m : MM D) : MM D := fun env => match env[i]? with
  | some (.mu _ (.ml _)) => (match m env with
    | some (.int j, e1) => (match e1[i]? with
      | some (.mu q (.ml ds)) => if 0 ≤ j then (match ds[j.toNat]? with
        | some d => if ds.length ≤ 1000000 then some (d, e1.set i (.mu q (.ml (ds.eraseIdx j.toNat)))) else none
        | none => none) else none
      | _ => none)
    | _ => none)
  | _ => none
theorem RepL.erase {K : PySem.W.Frag} {I : Hp} {vs : List V} {ds : List D} (r : RepL K cl I vs ds) : ∀ n : Nat, RepL K cl I (vs.eraseIdx n) (ds.eraseIdx n) := by
  induction vs generalizing ds with
  | nil => cases r; exact fun _ => .nil
  | cons v vs ih =>
    cases r with
    | cons h r =>
      intro n
      cases n with
      | zero => exact r
      | succ n => exact .cons h (ih r n)
theorem em_popAt (i : Nat) (ha : EM X cl e ma) (hN : X.N[i]? = some x := by rfl) (hv : Vis X.env.scope x := by first | exact Or.inl rfl | exact Or.inr (Or.inl rfl) | exact Or.inr (Or.inr rfl)) (hd : (x == ("__debug__" : Str)) = false := by decide)
    (hcd : (x == ("__classdict__" : Str)) = false := by decide)
    (hbase : attributeBase (.Name x p) "pop" X.env (eval (.Name x p) X.env) = eval (.Name x p) X.env := by rfl)
    (hfew : ((backTo cpos (starEach [e] X.env)).all (fun x => !x.1) && (backToKw cpos (keywordEach [] X.env)).all (fun x => x.1.isSome)
      && decide ([e].length + ([] : List Keyword).length + (if ([] : List Keyword).isEmpty then 0 else 1) < 30)) = true := by rfl)
    (hline : (apos.endLine == cpos.line) = true := by rfl) (hs : starEach [e] X.env = (false, eval e X.env) :: starEach [] X.env := by rfl) (hplain : (backTo cpos (starEach [] X.env)).any (·.1) = false := by rfl) :
    EM X cl (.Call (.Attribute (.Name x p) "pop" apos) [e] [] cpos) (mpopAt i ma) := by
  refine (pe_bm PySem.F.plainAttrs_list PySem.F.slot_list_pop PySem.F.type_list_pop mt_popAt (pe_var hN hv hd hcd) (pa_cons ha pa_nil hs) hbase hfew hline hs hplain).zi fun σ H Q q => ?_
  obtain ⟨F, I, env, ex, d, env', s, hm, k⟩ := q
  unfold mpopAt at hm
  split at hm
  · rename_i p0 ds0 h0
    split at hm
    · rename_i j e1 h1
      split at hm
      · rename_i q0 ds h2
        split at hm
        · rename_i hj
          split at hm
          · rename_i d2 h3
            split at hm
            · rename_i hlen
              cases hm
              obtain ⟨f, s'⟩ := id s
              obtain ⟨v, hv, ⟨l, vs, rfl, hf, hl, hr⟩, hn⟩ := s'.lookM h0
              refine ⟨_, hv, .inl ⟨rfl, vs, .inl (.inl hl)⟩, F, I, env, ex, .int j, e1, s, h1, fun w I1 H1 s1 q1 r1 => ?_⟩
              cases r1
              obtain ⟨f1, s1⟩ := s1
              obtain ⟨v', hv', ⟨l', vs', e', hf', hl', hr'⟩, hn'⟩ := s1.lookM h2
              rw [hv] at hv'
              cases hv'
              cases e'
              obtain ⟨u, hu, ru⟩ := hr'.get h3
              have hjl : j.toNat < ds.length := (List.getElem?_eq_some_iff.mp h3).1
              have hvl := hr'.length
              refine ⟨l, vs', j, j.toNat, u, rfl, rfl, hl', by omega, by omega, ?_, hu, ?_⟩
              · have e1 : ixN vs'.length j = some j.toNat := by
                  unfold ixN
                  rw [if_pos hj, if_pos (by omega)]
                exact (ixN_seq e1).1
              · refine k u I1 _ ⟨f1, s1.change h2 (fun a ha => upd_ne fun z => ha (by rw [hf', z]; simp)) fun v hv => ?_⟩ q1 ru
                rw [show σ[i]? = some (some (V.ref l)) from by assumption] at hv
                cases hv
                exact ⟨l, _, rfl, hf', upd_same, hr'.erase _⟩
            · cases hm
          · cases hm
        · cases hm
      · cases hm
    · cases hm
  · cases hm
/-! ### own lists looked at -/
/-- len(own list) -/
def mlenO (i : Nat) : MM D := fun env => match env[i]? with
  | some (.mu _ (.ml ds)) => some (.int ds.length, env)
  | _ => none
theorem em_lenO (i : Nat) (hm : X.mg "len" = none) (hg : Gl X "len" := by rfl) (hN : X.N[i]? = some x := by rfl) (hv : Vis X.env.scope x := by first | exact Or.inl rfl | exact Or.inr (Or.inl rfl) | exact Or.inr (Or.inr rfl)) (hd : (x == ("__debug__" : Str)) = false := by decide)
    (hcd : (x == ("__classdict__" : Str)) = false := by decide) (he : starEach [.Name x p] X.env = (false, eval (.Name x p) X.env) :: starEach [] X.env := by rfl) (hpl : (backTo pos (starEach [] X.env)).any (·.1) = false := by rfl) :
    EM X cl (.Call (.Name "len" apos) [.Name x p] [] pos) (mlenO i) := by
  refine (pe_callB call_len hg hm PySem.boot_len (pa_cons (pe_var hN hv hd hcd) pa_nil he) (by decide) (by decide) he hpl).zi fun σ H Q q => ?_
  obtain ⟨F, I, env, ex, d, env', s, hm, k⟩ := q
  unfold mlenO at hm
  split at hm
  · rename_i p0 ds h0
    cases hm
    obtain ⟨f, s'⟩ := id s
    obtain ⟨v, hv, ⟨l, vs, rfl, hf, hl, hr⟩, hn⟩ := s'.lookM h0
    exact ⟨_, hv, _, _, rfl, .inl ⟨vs, .inl (.inl hl), rfl⟩, by rw [hr.length]; exact k _ I H s (Ex.refl _) (.int _)⟩
  · cases hm
/-- own list == [], != [] -/
def mnilO (neg : Bool) (i : Nat) : MM Bool := fun env => match env[i]? with
  | some (.mu _ (.ml ds)) => (match toPs ds with
    | some ps => if SeqAt.shaped (.list ps) then some (if neg then !ds.isEmpty else ds.isEmpty, env) else none
    | none => none)
  | _ => none
theorem eqv_nil (ps : List PyData) : PyData.eqv (.list ps) (.list []) = ps.isEmpty := by cases ps <;> simp [PyData.eqv, PyData.eqvAll]
theorem toPs_isEmpty : ∀ {ds : List D} {ps : List PyData}, toPs ds = some ps → ps.isEmpty = ds.isEmpty
  | [], _, h => by cases h; rfl
  | d :: ds, ps, h => by
    simp only [toPs] at h
    split at h
    · split at h
      · cases h; rfl
      · cases h
    · cases h
theorem eb_nilO {k : Nat} (neg : Bool) (i : Nat) (hr : Room k X.A) {op : CmpOp} (ho : op = if neg then .NotEq else .Eq) (hN : X.N[i]? = some x := by rfl) (hv : Vis X.env.scope x := by first | exact Or.inl rfl | exact Or.inr (Or.inl rfl) | exact Or.inr (Or.inr rfl)) (hd : (x == ("__debug__" : Str)) = false := by decide)
    (hcd : (x == ("__classdict__" : Str)) = false := by decide) : EB X cl (.Compare (.Name x p) [op] [.List [] apos] pos) (mnilO neg i) := by
  have key : ∀ σ H Q, tBo X.K cl (mnilO neg i) σ H Q → ∃ v, σ[i]? = some (some v) ∧ ∀ q, H q = none → ∃ ps : List PyData, Dp X.K (upd H q (.lst [])) v (.list ps) ∧ SeqAt.shaped (.list ps) = true ∧ Q (if neg then !ps.isEmpty else ps.isEmpty) (upd H q (.lst [])) := by
    intro σ H Q q
    obtain ⟨F, I, env, ex, d, env', s, hm, k⟩ := q
    unfold mnilO at hm
    split at hm
    · rename_i p0 ds h0
      split at hm
      · rename_i ps hps
        split at hm
        · rename_i hsh
          cases hm
          obtain ⟨f, s'⟩ := id s
          obtain ⟨v, hv, ⟨l, vs, rfl, hf, hl, hr⟩, hn⟩ := s'.lookM h0
          refine ⟨_, hv, fun q hq => ⟨ps, ?_, hsh, ?_⟩⟩
          · have g := Gr.new (o := .lst []) s.ih hq
            exact .lst (.inl (.inl (g.h _ _ hl))) (RepL.dp ((Ex.refl I).trans (s.ih.trans g.h)) hr hps)
          · have g := Gr.new (o := .lst []) s.ih hq
            rw [toPs_isEmpty hps]
            exact k _ _ (s.gr g) g.i
        · cases hm
      · cases hm
    · cases hm
  cases neg with
  | true =>
    subst ho
    refine (pt_cmpR (op_neD hr.units) (pe_var hN hv hd hcd) (pe_lst pa_nil) (nomark _)).zi fun σ H Q q => ?_
    obtain ⟨v, hv, h⟩ := key σ H Q q
    refine ⟨v, hv, Nat.zero_le _, fun q hq => ?_⟩
    obtain ⟨ps, h1, h2, h3⟩ := h q hq
    exact ⟨_, .list [], h1, .lst (.inl (.inl upd_same)) .nil, h2, by rfl, _, rfl, by rw [eqv_nil]; exact h3⟩
  | false =>
    subst ho
    refine (pt_cmpR (op_eqD hr.units) (pe_var hN hv hd hcd) (pe_lst pa_nil) (nomark _)).zi fun σ H Q q => ?_
    obtain ⟨v, hv, h⟩ := key σ H Q q
    refine ⟨v, hv, Nat.zero_le _, fun q hq => ?_⟩
    obtain ⟨ps, h1, h2, h3⟩ := h q hq
    exact ⟨_, .list [], h1, .lst (.inl (.inl upd_same)) .nil, h2, by rfl, _, rfl, by rw [eqv_nil]; exact h3⟩
/-! ### the source of draws -/
def DS.at (s : DS) : Int → Option Int
  | 1 => some s.cur
  | 3 => some s.cnt
  | _ => none
def mdr (i : Nat) (j : Int) : MM D := fun env => match env[i]? with
  | some (.mu _ (.dr s)) => (match s.at j with
    | some n => some (.int n, env)
    | none => none)
  | _ => none
theorem DS.at_ok {s : DS} {j n : Int} {a b : Addr} (h : s.at j = some n) : atI [V.ref a, .int s.cur, .ref b, .int s.cnt] j = some (.int n) := by
  unfold DS.at at h
  split at h
  · cases h; rfl
  · cases h; rfl
  · cases h
theorem em_dr (i : Nat) (j : Int) {k} (hN : X.N[i]? = some x := by rfl) (hv : Vis X.env.scope x := by first | exact Or.inl rfl | exact Or.inr (Or.inl rfl) | exact Or.inr (Or.inr rfl)) (hd : (x == ("__debug__" : Str)) = false := by decide)
    (hcd : (x == ("__classdict__" : Str)) = false := by decide) (hs : PlainIx (.Constant (.int j) k apos) := by exact fun _ _ => rfl) : EM X cl (.Subscript (.Name x p) (.Constant (.int j) k apos) pos) (mdr i j) := by
  refine (pe_ix ix_list (pe_var hN hv hd hcd) pe_int hs).zi fun σ H Q q => ?_
  obtain ⟨F, I, env, ex, d, env', s, hm, k⟩ := q
  unfold mdr at hm
  split at hm
  · rename_i p0 t h0
    split at hm
    · rename_i n hn
      cases hm
      obtain ⟨f, s'⟩ := id s
      obtain ⟨v, hv, ⟨d, a, b, rfl, hf, _, _, _, h1, h2, h3⟩, _⟩ := s'.lookM h0
      exact ⟨_, hv, d, _, j, _, rfl, rfl, .inl (.inl h1), DS.at_ok hn, k _ I H s (Ex.refl _) (.int _)⟩
    · cases hm
  · cases hm
/-- draws[0], draws[2], as they stand -/
def DS.row (s : DS) : Int → Option (List Int)
  | 0 => some s.A
  | 2 => some s.B
  | _ => none
theorem SRx.row {K : PySem.W.Frag} {F : Fx} {I H : Hp} {σ : L2.St} {env : En} {f : Nat → List Addr} {ex : List (Addr × HO)} (s : SRx K cl F I H σ env f ex) {i : Nat} {q : Bool} {t : DS} {j : Int} {ns : List Int} (h : env[i]? = some (.mu q (.dr t))) (hj : t.row j = some ns) :
    ∃ d xs c, σ[i]? = some (some (.ref d)) ∧ SqL K H d xs ∧ atI xs j = some (.ref c) ∧ H c = some (.lst (ns.map V.int)) := by
  obtain ⟨v, hv, ⟨d, a, b, rfl, hf, _, _, _, h1, h2, h3⟩, _⟩ := s.lookM h
  unfold DS.row at hj
  split at hj
  · cases hj; exact ⟨d, _, a, hv, .inl (.inl h1), rfl, h2⟩
  · cases hj; exact ⟨d, _, b, hv, .inl (.inl h1), rfl, h3⟩
  · cases hj
/-- draws[j] != [] -/
def mdrNe (i : Nat) (j : Int) : MM Bool := fun env => match env[i]? with
  | some (.mu _ (.dr s)) => (match s.row j with
    | some ns => some (!ns.isEmpty, env)
    | none => none)
  | _ => none
theorem dpAll_ints {K : PySem.W.Frag} {H : Hp} : ∀ ns : List Int, DpAll K H (ns.map V.int) (ns.map PyData.int)
  | [] => .nil
  | n :: ns => .cons (.int n) (dpAll_ints ns)
theorem shaped_ints (ns : List Int) : SeqAt.shaped (.list (ns.map PyData.int)) = true := by
  unfold SeqAt.shaped
  rw [Bool.and_eq_true]
  constructor
  · have : ∀ ns : List Int, PyData.canLayAll0 (ns.map PyData.int) = true := fun ns => by
      induction ns with
      | nil => rfl
      | cons n ns ih => simp [PyData.canLayAll0, PyData.canLay0, ih]
    simp [PyData.canLay0, this]
  · have : ∀ ns : List Int, PyData.depthAll (ns.map PyData.int) ≤ 1 := fun ns => by
      induction ns with
      | nil => simp [PyData.depthAll]
      | cons n ns ih => simp [PyData.depthAll, PyData.depth]; omega
    have h := this ns
    simp [PyData.depth]
    omega
theorem eb_drNe {k : Nat} (i : Nat) (j : Int) {kk} {p1 p2 p3 : Pos} (hr : Room k X.A) (hN : X.N[i]? = some x := by rfl) (hv : Vis X.env.scope x := by first | exact Or.inl rfl | exact Or.inr (Or.inl rfl) | exact Or.inr (Or.inr rfl)) (hd : (x == ("__debug__" : Str)) = false := by decide)
    (hcd : (x == ("__classdict__" : Str)) = false := by decide) (hs : PlainIx (.Constant (.int j) kk apos) := by exact fun _ _ => rfl) : EB X cl (.Compare (.Subscript (.Name x p) (.Constant (.int j) kk apos) p1) [.NotEq] [.List [] p2] p3) (mdrNe i j) := by
  refine (pt_cmpR (op_neD hr.units) (pe_ix ix_list (pe_var hN hv hd hcd) pe_int hs) (pe_lst pa_nil) (nomark _)).zi fun σ H Q q => ?_
  obtain ⟨F, I, env, ex, d, env', s, hm, k⟩ := q
  unfold mdrNe at hm
  split at hm
  · rename_i p0 t h0
    split at hm
    · rename_i ns hn
      cases hm
      obtain ⟨f, s'⟩ := id s
      obtain ⟨d, xs, c, h1, h2, h3, h4⟩ := s'.row h0 hn
      refine ⟨_, h1, d, xs, j, _, rfl, rfl, h2, h3, Nat.zero_le _, fun q hq => ?_⟩
      have g := Gr.new (o := .lst []) s.ih hq
      refine ⟨.list (ns.map PyData.int), .list [], .lst (.inl (.inl (g.h _ _ h4))) (dpAll_ints ns), .lst (.inl (.inl upd_same)) .nil, shaped_ints ns, by rfl, _, rfl, ?_⟩
      rw [eqv_nil]
      have : (ns.map PyData.int).isEmpty = ns.isEmpty := by cases ns <;> rfl
      rw [this]
      exact k _ _ (s.gr g) g.i
    · cases hm
  · cases hm
/-- len(draws[2]) -/
def mdrLen (i : Nat) (j : Int) : MM D := fun env => match env[i]? with
  | some (.mu _ (.dr s)) => (match s.row j with
    | some ns => some (.int ns.length, env)
    | none => none)
  | _ => none
theorem em_drLen (i : Nat) (j : Int) {kk} {p1 p2 p3 : Pos} (hm : X.mg "len" = none) (hg : Gl X "len" := by rfl) (hN : X.N[i]? = some x := by rfl) (hv : Vis X.env.scope x := by first | exact Or.inl rfl | exact Or.inr (Or.inl rfl) | exact Or.inr (Or.inr rfl)) (hd : (x == ("__debug__" : Str)) = false := by decide)
    (hcd : (x == ("__classdict__" : Str)) = false := by decide) (hs : PlainIx (.Constant (.int j) kk apos) := by exact fun _ _ => rfl)
    (he : starEach [.Subscript (.Name x p) (.Constant (.int j) kk apos) p1] X.env = (false, eval (.Subscript (.Name x p) (.Constant (.int j) kk apos) p1) X.env) :: starEach [] X.env := by rfl) (hpl : (backTo p3 (starEach [] X.env)).any (·.1) = false := by rfl) :
    EM X cl (.Call (.Name "len" p2) [.Subscript (.Name x p) (.Constant (.int j) kk apos) p1] [] p3) (mdrLen i j) := by
  refine (pe_callB call_len hg hm PySem.boot_len (pa_cons (pe_ix ix_list (pe_var hN hv hd hcd) pe_int hs) pa_nil he) (by decide) (by decide) he hpl).zi fun σ H Q q => ?_
  obtain ⟨F, I, env, ex, d, env', s, hm, k⟩ := q
  unfold mdrLen at hm
  split at hm
  · rename_i p0 t h0
    split at hm
    · rename_i ns hn
      cases hm
      obtain ⟨f, s'⟩ := id s
      obtain ⟨d, xs, c, h1, h2, h3, h4⟩ := s'.row h0 hn
      refine ⟨_, h1, d, xs, j, _, rfl, rfl, h2, h3, _, _, rfl, .inl ⟨_, .inl (.inl h4), rfl⟩, ?_⟩
      rw [List.length_map]
      exact k _ I H s (Ex.refl _) (.int _)
    · cases hm
  · cases hm
/-- draws[2][int(draws[3]) % len(draws[2])], with int or without -/
def mdrSeed (i : Nat) : MM D := fun env => match env[i]? with
  | some (.mu _ (.dr s)) => (match s.B[(s.cnt % (s.B.length : Int)).toNat]? with
    | some z => if 0 < s.B.length then some (.int z, env) else none
    | none => none)
  | _ => none
theorem at_mod {ns : List Int} {c z : Int} (hp : 0 < ns.length) (h : ns[(c % (ns.length : Int)).toNat]? = some z) : atI (ns.map V.int) (c % (ns.length : Int)) = some (.int z) := by
  have h1 : 0 ≤ c % (ns.length : Int) := Int.emod_nonneg _ (by omega)
  have h2 : c % (ns.length : Int) < (ns.length : Int) := Int.emod_lt_of_pos _ (by omega)
  unfold atI ixN
  rw [if_pos h1, List.length_map, if_pos h2]
  show (ns.map V.int)[_]? = _
  rw [List.getElem?_map, h]; rfl
theorem em_drSeed (i : Nat) {k1 k2 k3} {p1 p2 p3 p4 p5 p6 p7 p8 p9 p10 p11 p12 p13 p14 : Pos} (hl : X.mg "len" = none) (hi : X.mg "int" = none) (hgl : Gl X "len" := by rfl) (hgi : Gl X "int" := by rfl) (hN : X.N[i]? = some x := by rfl) (hv : Vis X.env.scope x := by first | exact Or.inl rfl | exact Or.inr (Or.inl rfl) | exact Or.inr (Or.inr rfl)) (hd : (x == ("__debug__" : Str)) = false := by decide)
    (hcd : (x == ("__classdict__" : Str)) = false := by decide)
    (he : starEach [.Subscript (.Name x p1) (.Constant (.int 2) k1 p2) p3] X.env = (false, eval (.Subscript (.Name x p1) (.Constant (.int 2) k1 p2) p3) X.env) :: starEach [] X.env := by rfl) (hpl : (backTo p4 (starEach [] X.env)).any (·.1) = false := by rfl)
    (he2 : starEach [.Subscript (.Name x p5) (.Constant (.int 3) k2 p6) p7] X.env = (false, eval (.Subscript (.Name x p5) (.Constant (.int 3) k2 p6) p7) X.env) :: starEach [] X.env := by rfl) (hpl2 : (backTo p8 (starEach [] X.env)).any (·.1) = false := by rfl) :
    EM X cl (.Subscript (.Subscript (.Name x p12) (.Constant (.int 2) k3 p13) p14) (.BinOp (.Call (.Name "int" p9) [.Subscript (.Name x p5) (.Constant (.int 3) k2 p6) p7] [] p8) .Mod (.Call (.Name "len" p10) [.Subscript (.Name x p1) (.Constant (.int 2) k1 p2) p3] [] p4) p11) pos) (mdrSeed i) := by
  refine (pe_ix ix_list (pe_ix ix_list (pe_var hN hv hd hcd) pe_int (fun _ _ => rfl)) (pe_op op_mod (pe_callTy call_int1 hgi hi (by decide +kernel) (pa_cons (pe_ix ix_list (pe_var hN hv hd hcd) pe_int (fun _ _ => rfl)) pa_nil he2) (by decide) (by decide) he2 hpl2)
    (pe_callB call_len hgl hl PySem.boot_len (pa_cons (pe_ix ix_list (pe_var hN hv hd hcd) pe_int (fun _ _ => rfl)) pa_nil he) (by decide) (by decide) he hpl)) (fun _ _ => rfl)).zi fun σ H Q q => ?_
  obtain ⟨F, I, env, ex, d, env', s, hm, k⟩ := q
  unfold mdrSeed at hm
  split at hm
  · rename_i p0 t h0
    split at hm
    · rename_i z hz
      split at hm
      · rename_i hp
        cases hm
        obtain ⟨f, s'⟩ := id s
        obtain ⟨v, hv, ⟨d, a, b, rfl, hf, _, _, _, h1, h2, h3⟩, _⟩ := s'.lookM h0
        refine ⟨_, hv, d, _, 2, .ref b, rfl, rfl, .inl (.inl h1), rfl, ?_⟩
        refine ⟨_, hv, d, _, 3, .int t.cnt, rfl, rfl, .inl (.inl h1), rfl, .inl ⟨_, rfl, ?_⟩⟩
        refine ⟨_, hv, d, _, 2, .ref b, rfl, rfl, .inl (.inl h1), rfl, _, _, rfl, .inl ⟨_, .inl (.inl h3), rfl⟩, ?_⟩
        refine ⟨_, _, rfl, rfl, by rw [List.length_map]; exact Int.natCast_pos.mpr hp, b, _, _, .int z, rfl, rfl, .inl (.inl h3), ?_, k _ I H s (Ex.refl _) (.int _)⟩
        rw [List.length_map]
        exact at_mod hp hz
      · cases hm
    · cases hm
  · cases hm
theorem em_drSeed' (i : Nat) {k1 k2 k3} {p1 p2 p3 p4 p5 p6 p7 p10 p11 p12 p13 p14 : Pos} (hl : X.mg "len" = none) (hgl : Gl X "len" := by rfl) (hN : X.N[i]? = some x := by rfl) (hv : Vis X.env.scope x := by first | exact Or.inl rfl | exact Or.inr (Or.inl rfl) | exact Or.inr (Or.inr rfl)) (hd : (x == ("__debug__" : Str)) = false := by decide)
    (hcd : (x == ("__classdict__" : Str)) = false := by decide)
    (he : starEach [.Subscript (.Name x p1) (.Constant (.int 2) k1 p2) p3] X.env = (false, eval (.Subscript (.Name x p1) (.Constant (.int 2) k1 p2) p3) X.env) :: starEach [] X.env := by rfl) (hpl : (backTo p4 (starEach [] X.env)).any (·.1) = false := by rfl) :
    EM X cl (.Subscript (.Subscript (.Name x p12) (.Constant (.int 2) k3 p13) p14) (.BinOp (.Subscript (.Name x p5) (.Constant (.int 3) k2 p6) p7) .Mod (.Call (.Name "len" p10) [.Subscript (.Name x p1) (.Constant (.int 2) k1 p2) p3] [] p4) p11) pos) (mdrSeed i) := by
  refine (pe_ix ix_list (pe_ix ix_list (pe_var hN hv hd hcd) pe_int (fun _ _ => rfl)) (pe_op op_mod (pe_ix ix_list (pe_var hN hv hd hcd) pe_int (fun _ _ => rfl))
    (pe_callB call_len hgl hl PySem.boot_len (pa_cons (pe_ix ix_list (pe_var hN hv hd hcd) pe_int (fun _ _ => rfl)) pa_nil he) (by decide) (by decide) he hpl)) (fun _ _ => rfl)).zi fun σ H Q q => ?_
  obtain ⟨F, I, env, ex, d, env', s, hm, k⟩ := q
  unfold mdrSeed at hm
  split at hm
  · rename_i p0 t h0
    split at hm
    · rename_i z hz
      split at hm
      · rename_i hp
        cases hm
        obtain ⟨f, s'⟩ := id s
        obtain ⟨v, hv, ⟨d, a, b, rfl, hf, _, _, _, h1, h2, h3⟩, _⟩ := s'.lookM h0
        refine ⟨_, hv, d, _, 2, .ref b, rfl, rfl, .inl (.inl h1), rfl, ?_⟩
        refine ⟨_, hv, d, _, 3, .int t.cnt, rfl, rfl, .inl (.inl h1), rfl, ?_⟩
        refine ⟨_, hv, d, _, 2, .ref b, rfl, rfl, .inl (.inl h1), rfl, _, _, rfl, .inl ⟨_, .inl (.inl h3), rfl⟩, ?_⟩
        refine ⟨_, _, rfl, rfl, by rw [List.length_map]; exact Int.natCast_pos.mpr hp, b, _, _, .int z, rfl, rfl, .inl (.inl h3), ?_, k _ I H s (Ex.refl _) (.int _)⟩
        rw [List.length_map]
        exact at_mod hp hz
      · cases hm
    · cases hm
  · cases hm
/-- draws[0].pop(0) -/
def mdrPop (i : Nat) : MM D := fun env => match env[i]? with
  | some (.mu q (.dr ⟨n :: r, c, B, t⟩)) => if r.length ≤ 1000000 then some (.int n, env.set i (.mu q (.dr ⟨r, c, B, t⟩))) else none
  | _ => none
theorem em_drPop (i : Nat) {k1 k2} {p1 p2 p3 p4 p5 p6 : Pos} (hN : X.N[i]? = some x := by rfl) (hv : Vis X.env.scope x := by first | exact Or.inl rfl | exact Or.inr (Or.inl rfl) | exact Or.inr (Or.inr rfl)) (hd : (x == ("__debug__" : Str)) = false := by decide)
    (hcd : (x == ("__classdict__" : Str)) = false := by decide)
    (hbase : attributeBase (.Subscript (.Name x p1) (.Constant (.int 0) k1 p2) p3) "pop" X.env (eval (.Subscript (.Name x p1) (.Constant (.int 0) k1 p2) p3) X.env) = eval (.Subscript (.Name x p1) (.Constant (.int 0) k1 p2) p3) X.env := by rfl)
    (hfew : ((backTo p5 (starEach [.Constant (.int 0) k2 p4] X.env)).all (fun x => !x.1) && (backToKw p5 (keywordEach [] X.env)).all (fun x => x.1.isSome)
      && decide (([.Constant (.int 0) k2 p4] : List Expr).length + ([] : List Keyword).length + (if ([] : List Keyword).isEmpty then 0 else 1) < 30)) = true := by rfl)
    (hline : (p6.endLine == p5.line) = true := by rfl) (hs : starEach [.Constant (.int 0) k2 p4] X.env = (false, eval (.Constant (.int 0) k2 p4) X.env) :: starEach [] X.env := by rfl) (hplain : (backTo p5 (starEach [] X.env)).any (·.1) = false := by rfl) :
    EM X cl (.Call (.Attribute (.Subscript (.Name x p1) (.Constant (.int 0) k1 p2) p3) "pop" p6) [.Constant (.int 0) k2 p4] [] p5) (mdrPop i) := by
  refine (pe_bm PySem.F.plainAttrs_list PySem.F.slot_list_pop PySem.F.type_list_pop mt_popAt (pe_ix ix_list (pe_var hN hv hd hcd) pe_int (fun _ _ => rfl)) (pa_cons pe_int pa_nil hs) hbase hfew hline hs hplain).zi fun σ H Q q => ?_
  obtain ⟨F, I, env, ex, d, env', s, hm, k⟩ := q
  unfold mdrPop at hm
  split at hm
  · rename_i q0 n r c B t h0
    split at hm
    · rename_i hlen
      cases hm
      obtain ⟨f, s'⟩ := id s
      obtain ⟨v, hv, ⟨d, a, b, rfl, hf, n1, n2, n3, h1, h2, h3⟩, _⟩ := s'.lookM h0
      refine ⟨_, hv, d, _, 0, .ref a, rfl, rfl, .inl (.inl h1), rfl, .inl ⟨rfl, _, .inl (.inl h2)⟩, a, _, 0, 0, .int n, rfl, rfl, h2, by decide, by decide, ?_, rfl, ?_⟩
      · simp [seqIndex?]
      · refine k _ I _ ⟨f, s'.change h0 (fun z hz => upd_ne fun w => hz (by rw [hf, w]; simp)) fun v hv => ?_⟩ (Ex.refl _) (.int _)
        rw [show σ[i]? = some (some (V.ref d)) from by assumption] at hv
        cases hv
        exact ⟨d, a, b, rfl, hf, n1, n2, n3, by rw [upd_ne n1]; exact h1, upd_same, by rw [upd_ne (Ne.symm n3)]; exact h3⟩
    · cases hm
  · cases hm
/-- draws[1] = e, draws[3] = e -/
def DS.put (s : DS) (j n : Int) : Option DS := match j with
  | 1 => some { s with cur := n }
  | 3 => some { s with cnt := n }
  | _ => none
def sdr (i : Nat) (j : Int) (m : MM D) : SM := fun env => match m env with
  | some (.int n, e1) => (match e1[i]? with
    | some (.mu q (.dr s)) => (match s.put j n with
      | some t => some (.nx (e1.set i (.mu q (.dr t))))
      | none => none)
    | _ => none)
  | _ => none
theorem es_dr (i : Nat) (j : Int) {kk} {p1 p2 p3 : Pos} (ha : EM X cl e ma) (hN : X.N[i]? = some x := by rfl) (hv : Vis X.env.scope x := by first | exact Or.inl rfl | exact Or.inr (Or.inl rfl) | exact Or.inr (Or.inr rfl)) (hd : (x == ("__debug__" : Str)) = false := by decide)
    (hcd : (x == ("__classdict__" : Str)) = false := by decide) (hs : swapsWithSole [.Subscript (.Name x p1) (.Constant (.int j) kk p2) p3] e pos.line X.env = pure false := by rfl) (hw : swappedStores [.Subscript (.Name x p1) (.Constant (.int j) kk p2) p3] e X.env = pure none := by rfl)
    (h1 : (assignEach [.Subscript (.Name x p1) (.Constant (.int j) kk p2) p3] X.env).map (·.2) = [assign (.Subscript (.Name x p1) (.Constant (.int j) kk p2) p3) X.env] := by rfl) :
    ES X cl (.Assign [.Subscript (.Name x p1) (.Constant (.int j) kk p2) p3] e pos) (sdr i j ma) := by
  refine (ps_asg ha (pg_sub (pe_var hN hv hd hcd) pe_int set_list) hs hw h1).zi fun Dn σ H q => ?_
  obtain ⟨F, I, env, ex, out, s, hm, k⟩ := q
  unfold sdr at hm
  split at hm
  · rename_i n e1 h2
    split at hm
    · rename_i q0 t h0
      split at hm
      · rename_i t2 ht
        cases hm
        refine ⟨F, I, env, ex, .int n, e1, s, h2, fun w I1 H1 s1 q1 r1 => ?_⟩
        cases r1
        obtain ⟨f, s'⟩ := id s1
        obtain ⟨v, hv, ⟨d, a, b, rfl, hf, n1, n2, n3, g1, g2, g3⟩, _⟩ := s'.lookM h0
        have key : ∃ jj, ixN 4 j = some jj ∧ [V.ref a, .int t.cur, .ref b, .int t.cnt].set jj (.int n) = [V.ref a, .int t2.cur, .ref b, .int t2.cnt] ∧ t2.A = t.A ∧ t2.B = t.B := by
          unfold DS.put at ht
          split at ht
          · cases ht; exact ⟨1, rfl, rfl, rfl, rfl⟩
          · cases ht; exact ⟨3, rfl, rfl, rfl, rfl⟩
          · cases ht
        obtain ⟨jj, k1, k2, k3, k4⟩ := key
        refine ⟨_, hv, d, _, j, jj, rfl, rfl, g1, k1, ?_⟩
        rw [k2]
        refine k σ I1 _ ⟨f, s'.change h0 (fun z hz => upd_ne fun w => hz (by rw [hf, w]; simp)) fun v hv => ?_⟩ q1
        rw [show σ[i]? = some (some (V.ref d)) from by assumption] at hv
        cases hv
        exact ⟨d, a, b, rfl, hf, n1, n2, n3, upd_same, by rw [upd_ne (Ne.symm n1), k3]; exact g2, by rw [upd_ne (Ne.symm n2), k4]; exact g3⟩
      · cases hm
    · cases hm
  · cases hm
/-! ### the source made, the law's end -/
/-- what _law_draws promises: a new source of the script's ints -/
def spDr (K : PySem.W.Frag) (fA fB : List Int → List Int) : Sp := fun vs H Q _ => ∃ (I : Hp) (ns : List Int) (v : V), vs = [v] ∧ Ex I H ∧ SqL K I (match v with | .ref a => a | _ => 0) (ns.map V.int) ∧ (∃ a, v = .ref a) ∧ ns.length ≤ 63 ∧
  ∀ d a b H', H d = none → H a = none → H b = none → d ≠ a → d ≠ b → a ≠ b → Ex H H' → H' d = some (.lst [.ref a, .int 0, .ref b, .int 0]) → H' a = some (.lst ((fA ns).map V.int)) → H' b = some (.lst ((fB ns).map V.int)) → Q (.ref d) H'
end
end Zf

set_option Elab.async false
set_option linter.all false
set_option maxRecDepth 100000
set_option maxHeartbeats 1000000
/-! Zf, part 9: the source made, the law. -/
namespace Zf
open PySem PySem.Spec L2
theorem an_nil' : ∀ (as : List Ar) (env env' : En), anil env = some (as, env') → as.length = 0 := fun _ _ _ h => an_nil h
theorem an_ok {m : MM (List Ar)} {dfl : List D} {j n : Nat} (h : ∀ (as : List Ar) (env env' : En), m env = some (as, env') → as.length = j) (hj : j + dfl.length = n) : ∀ (as : List Ar) (env env' : En), m env = some (as, env') → as.length + dfl.length = n := fun as e e' q => by
  rw [h as e e' q]; exact hj
def negD : D → Option D
  | .int i => some (.int (-i))
  | _ => none
section
variable {X : Cx} {cl : Nat → Addr} {a b e : Expr} {es : List Expr} {pos p apos cpos : Pos} {ma mb : MM D} {x : Str}
theorem em_neg (h : EM X cl a ma) : EM X cl (.UnaryOp .USub a pos) (MM.opt ma negD) := (pe_un un_neg h).zi fun σ H Q q => by
  obtain ⟨F, I, env, ex, d, env', s, hm, k⟩ := q
  obtain ⟨d0, h1, h2⟩ := opt_of hm
  refine ⟨F, I, env, ex, d0, env', s, h1, fun v I' H' s' e' r => ?_⟩
  cases r <;> cases h2
  exact ⟨_, rfl, k _ I' H' s' e' (.int _)⟩
/-- draws = _law_draws(script) -/
def sdraws (fA fB : List Int → List Int) (i j : Nat) : SM := fun env => match env[j]? with
  | some (.im (.scr ns)) => if okS env i = true ∧ ns.length ≤ 63 then some (.nx (env.set i (.mu false (.dr ⟨fA ns, 0, fB ns, 0⟩)))) else none
  | _ => none
def CalDr (P : Program) (w : World) (K : PySem.W.Frag) (mg : Str → Option Value) (base : Heap) (x : Str) (k : Nat) (fA fB : List Int → List Int) : Prop :=
  ∃ (f : Addr) (fd : FuncData), FnOk P w K mg base CX0 k f fd ["script"] (spDr K fA fB) ∧ mg x = some (.ref f) ∧ PySem.W.keepIn K (.ref f) = true ∧ Binds K fd ["script"] []
theorem es_draws (i j k : Nat) {f y z : Str} {fA fB : List Int → List Int} {p1 p2 p3 p4 : Pos} (c : CalDr X.prog X.w X.K X.mg X.base f k fA fB) (hr : Room k X.A) (hNd : X.N.Nodup) (hi : X.N[i]? = some y := by rfl) (hj : X.N[j]? = some z := by rfl) (hx : Loc X.env.scope y := by first | exact Or.inl rfl | exact Or.inr rfl)
    (hv : Vis X.env.scope z := by first | exact Or.inl rfl | exact Or.inr (Or.inl rfl) | exact Or.inr (Or.inr rfl)) (hd : (z == ("__debug__" : Str)) = false := by decide) (hcd : (z == ("__classdict__" : Str)) = false := by decide)
    (hg : Gl X f := by rfl) (hdb : (f == ("__debug__" : Str)) = false := by decide) (he : starEach [.Name z p2] X.env = (false, eval (.Name z p2) X.env) :: starEach [] X.env := by rfl) (hpl : (backTo p4 (starEach [] X.env)).any (·.1) = false := by rfl)
    (hs : swapsWith (.Call (.Name f p1) [.Name z p2] [] p4) (some (.Name y p3)) pos.line X.env = pure false := by rfl) (hf : X.fn y = true ∨ X.env.scope.names.lookup y = some .local := by first | exact .inl rfl | exact .inr rfl) :
    ES X cl (.Assign [.Name y p3] (.Call (.Name f p1) [.Name z p2] [] p4) pos) (sdraws fA fB i j) := by
  obtain ⟨fa, fd, h1, h2, h3, h4⟩ := c
  refine (ps_set (i := i) hNd hi hx (pe_call h1 hr hg h2 h3 h4 .nil pass0 (pa_cons (pe_var hj hv hd hcd) pa_nil he) hdb he hpl) hs hf).zi fun Dn σ H q => ?_
  obtain ⟨F, I, env, ex, out, s, hm, k⟩ := q
  unfold sdraws at hm
  split at hm
  · rename_i ns h0
    split at hm
    · rename_i ho
      obtain ⟨ho, hlen⟩ := ho
      cases hm
      obtain ⟨f0, s'⟩ := id s
      obtain ⟨v, hv, r⟩ := s'.look h0
      cases r with
      | @scr a _ hs =>
        refine ⟨_, hv, I, ns, .ref a, rfl, s'.ih, hs, ⟨a, rfl⟩, hlen, fun d a b H' nd na nb n1 n2 n3 eH hd ha hb => ?_⟩
        obtain ⟨hl, hok⟩ := okS_of ho
        refine k _ I H' ⟨fun j => if j = i then [d, a, b] else f0 j, ?_⟩ (Ex.refl _)
        have kp : ∀ c, H c ≠ none → H' c = H c := fun c hc => by
          cases q : H c with
          | none => exact absurd q hc
          | some o => exact eH c o q
        have g : ∀ {j : Nat} {q : Bool} {n : Mu}, (env.set i (.mu false (.dr ⟨fA ns, 0, fB ns, 0⟩)))[j]? = some (Sl.mu q n) → j ≠ i → env[j]? = some (Sl.mu q n) := fun {j q n} h q => by
          rw [List.getElem?_set_ne (Ne.symm q)] at h; exact h
        have off : ∀ {j : Nat} {q : Bool} {n : Mu} {c : Addr}, env[j]? = some (Sl.mu q n) → c ∈ f0 j → c ∉ [d, a, b] := fun {j q n c} h hc hm => by
          obtain ⟨⟨_, _, hM⟩, _⟩ := s'.sl.mu j q n h
          have := hM.here c hc
          simp at hm
          rcases hm with rfl | rfl | rfl
          · exact this nd
          · exact this na
          · exact this nb
        have dn : ∀ c ∈ [d, a, b], H c = none := fun c hc => by
          simp at hc
          rcases hc with rfl | rfl | rfl
          · exact nd
          · exact na
          · exact nb
        refine ⟨⟨fun j e h => ?_, fun j q n h => ?_, fun j k q n q' n' c hjk h1 h2 h3 h4 => ?_⟩, by simp [s'.ln], s'.ih.trans eH, s'.ii, s'.fr, fun c o h1 h2 => eH c o (s'.st c o h1 h2), fun j q n c h hc => ?_, fun j q n h => ?_, fun c hc => ?_, fun c hc j q n h => ?_, s'.exn⟩
        · by_cases q : i = j
          · subst q; have h : (env.set i _)[i]? = some (Sl.im e) := h; rw [List.getElem?_set_self hl] at h; cases h
          · have h : (env.set i _)[j]? = some (Sl.im e) := h
            rw [List.getElem?_set_ne q] at h
            show ∃ v, ((σ.set i _)[j]?).join = _ ∧ _
            rw [List.getElem?_set_ne q]
            exact s'.sl.im j e h
        · have h : (env.set i _)[j]? = some (Sl.mu q n) := h
          by_cases z : j = i
          · subst z
            rw [List.getElem?_set_self hl] at h
            cases h
            simp only [if_true]
            refine ⟨⟨.ref d, ?_, d, a, b, rfl, rfl, n1, n2, n3, hd, ha, hb⟩, fun c hc => s'.ih.none (dn c hc)⟩
            rw [List.getElem?_set_self (s'.ln ▸ hl)]; rfl
          · have h1 := g h z
            obtain ⟨⟨u, h4, h5⟩, h6⟩ := s'.sl.mu j q n h1
            simp only [if_neg z]
            refine ⟨⟨u, ?_, h5.kept (Ex.refl _) fun c hc => kp c (h5.here c hc)⟩, h6⟩
            rw [List.getElem?_set_ne (Ne.symm z)]; exact h4
        · have h1 : (env.set i _)[j]? = some (Sl.mu q n) := h1
          have h2 : (env.set i _)[k]? = some (Sl.mu q' n') := h2
          by_cases z1 : j = i
          · by_cases z2 : k = i
            · exact hjk (z1.trans z2.symm)
            · simp only [if_pos z1] at h3; simp only [if_neg z2] at h4
              exact off (g h2 z2) h4 h3
          · simp only [if_neg z1] at h3
            by_cases z2 : k = i
            · simp only [if_pos z2] at h4
              exact off (g h1 z1) h3 h4
            · simp only [if_neg z2] at h4
              exact s'.sl.dj j k q n q' n' c hjk (g h1 z1) (g h2 z2) h3 h4
        · by_cases z : j = i
          · simp only [if_pos z] at hc
            exact .inl (s'.fresh0 (dn c hc))
          · simp only [if_neg z] at hc
            exact s'.nw j q n c (g h z) hc
        · obtain ⟨m', h1, h2, h3⟩ := s'.pn j q n h
          have z : j ≠ i := fun z => hok m' (z ▸ h1)
          exact ⟨m', by rw [List.getElem?_set_ne (Ne.symm z)]; exact h1, by simp only [if_neg z]; exact h2, by rw [List.getElem?_set_ne (Ne.symm z)]; exact h3⟩
        · obtain ⟨h1, h2, h3⟩ := s'.ex0 c hc
          exact ⟨h1, eH _ _ h2, h3⟩
        · by_cases z : j = i
          · simp only [if_pos z]
            intro hm
            have := (s'.ex0 c hc).2.1
            rw [dn _ hm] at this
            cases this
          · simp only [if_neg z]
            exact s'.exd c hc j q n (g h z)
    · cases hm
  · cases hm
end
section
variable {P : Program} {w : World} {K : PySem.W.Frag} {mg : Str → Option Value} {base : Heap} {cl : Nat → Addr}
theorem fn_draws {x qual : Str} {params : Arguments} {body : List Stmt} {scope : Scope} {dvs : List V} {kws : List (Str × V)} {f : Addr} {fd : FuncData} {N : List Str} {k : Nat} {m : MM (List Pa)} {fA fB : List Int → List Int} (F : FunD K x qual params body scope dvs kws f fd) (S : FnScope N ["script"] scope) (hl : 1 ≤ N.length)
    (hb : ∀ (cdv : Value) (A : Around) (outer : List Env) (s : Shared) (H : Hp) (E : XK), Room k (A.deeper (PyProof.Rows.envOfC qual scope s.heap.objs.size f cdv)) → PSs (cxOf CX0 P w K mg base N qual scope f cdv A outer s H E).nox body (tRet (tLst (tP K cl m))))
    (hm : ∀ ns : List Int, ns.length ≤ 63 → ∃ env', m (.im (.scr ns) :: List.replicate (N.length - 1) .no) = some ([.ow ((fA ns).map .int), .im (.int 0), .ow ((fB ns).map .int), .im (.int 0)], env')) :
    FnOk P w K mg base CX0 (k + 1) f fd ["script"] (spDr K fA fB) := by
  refine F.ok S (fun vs H Q E h => ?_) (fun cdv A outer s H vs Q E hr h => ?_)
  · obtain ⟨I, ns, v, rfl, _⟩ := h
    rfl
  · obtain ⟨I, ns, v, rfl, hI, hS, ⟨a, rfl⟩, hlen, kk⟩ := h
    refine ⟨_, (hb cdv A outer s H E hr).nox, ?_⟩
    obtain ⟨env', he⟩ := hm ns hlen
    have s0 : SRx K cl ⟨I, H, [.ref a], [.im (.scr ns)], fun _ => []⟩ I H (L2.start N [.ref a]) (.im (.scr ns) :: List.replicate (N.length - 1) .no) (fun _ => []) [] := by
      have eL : ∀ {i : Nat} {z : Sl}, (Sl.im (.scr ns) :: List.replicate (N.length - 1) Sl.no)[i]? = some z → z ≠ .no → i = 0 ∧ z = .im (.scr ns) := fun {i z} h hz => by
        cases i with
        | zero => cases h; exact ⟨rfl, rfl⟩
        | succ i =>
          rw [List.getElem?_cons_succ, List.getElem?_replicate] at h
          split at h
          · cases h; exact absurd rfl hz
          · cases h
      refine ⟨⟨fun i d e => ?_, fun i p m e => ?_, fun i j p m q n a hij e1 e2 => ?_⟩, (by unfold L2.start; simp), hI, Ex.refl _, fun a _ h => h, fun a o h _ => h, fun i p m a e ha => (by cases ha), fun i p m e => ?_, fun a ha => (by cases ha), fun a ha => (by cases ha), List.nodup_nil⟩
      · obtain ⟨rfl, e1⟩ := eL e (by simp)
        cases e1
        exact ⟨.ref a, rfl, .scr hS⟩
      · obtain ⟨_, e1⟩ := eL e (by simp)
        cases e1
      · obtain ⟨_, e1⟩ := eL e1 (by simp)
        cases e1
      · have e : ([Sl.im (.scr ns)] : En)[i]? = some (.mu p m) := e
        cases i with
        | zero => cases e
        | succ i => cases e
    refine ⟨_, I, _, [], _, env', ⟨_, s0⟩, he, fun vs ps I' H' ⟨f', s'⟩ e' r => ?_⟩
    cases r with
    | @ow _ p1 ws1 _ _ _ r1 r =>
      cases r with
      | im r2 r =>
        cases r with
        | @ow _ p2 ws2 _ _ _ r3 r =>
          cases r with
          | im r4 r =>
            cases r
            cases r2
            cases r4
            have v1 := r1.intsV (intsD_map _)
            have v2 := r3.intsV (intsD_map _)
            subst v1 v2
            obtain ⟨i1, h1, z1⟩ := s'.ex0 (p1, .lst ((fA ns).map V.int)) (List.mem_append_left _ List.mem_cons_self)
            obtain ⟨i2, h2, z2⟩ := s'.ex0 (p2, .lst ((fB ns).map V.int)) (List.mem_append_left _ (List.mem_cons_of_mem _ List.mem_cons_self))
            have ne : p1 ≠ p2 := by
              rintro rfl
              have h7 := s'.exn
              simp at h7
            refine ⟨by show 4 ≤ sizeLine; decide, fun d hd => ?_⟩
            have n1 : d ≠ p1 := fun z => by rw [z, h1] at hd; cases hd
            have n2 : d ≠ p2 := fun z => by rw [z, h2] at hd; cases hd
            have h0 : ∀ c, H' c = none → H c = none := fun c hc => by
              cases q : H c with
              | none => rfl
              | some o =>
                rw [s'.st c o q (fun i p m e => by cases i <;> cases e)] at hc
                cases hc
            have kept : ∀ c o, H c = some o → H' c = some o := fun c o hc => s'.st c o hc fun i p m e => by cases i <;> cases e
            exact kk d p1 p2 _ (h0 d hd) z1 z2 n1 n2 ne (fun c o hc => by
              have h5 := kept c o hc
              have h6 : c ≠ d := fun z => by
                rw [z, hd] at h5
                cases h5
              rw [upd_ne h6]
              exact h5) upd_same (by rw [upd_ne (Ne.symm n1)]; exact h1) (by rw [upd_ne (Ne.symm n2)]; exact h2)
/-- the law, by its mirror -/
def spLaw (K : PySem.W.Frag) : Sp := fun vs H Q _ => ∃ (a : Addr) (ns : List Int), vs = [.ref a] ∧ SqL K H a (ns.map V.int) ∧ ns.length ≤ 63 ∧ ∀ H', Q (.bl true) H'
theorem law_imp {k : Nat} {f : Addr} {fd : FuncData} {F : FM} (h : FnOk P w K mg base CX0 k f fd ["script"] (spM K cl 1 F)) (hF : ∀ ns : List Int, ns.length ≤ 63 → ∃ news, F [.im (.scr ns)] = some (.bl true, news)) : FnOk P w K mg base CX0 k f fd ["script"] (spLaw K) :=
  h.imp fun vs H Q E q => by
    obtain ⟨a, ns, rfl, hS, hlen, k⟩ := q
    obtain ⟨news, hn⟩ := hF ns hlen
    refine ⟨H, [.im (.scr ns)], fun _ => [], .bl true, news, rfl, rfl, ⟨fun i d e => ?_, fun i p m e => ?_, fun i j p m q n a hij e1 e2 => ?_⟩, fun i p m e => ?_, Ex.refl _, fun i e => ?_, hn, fun v I' H' _ _ _ _ _ r => ?_⟩
    · cases i with
      | zero => cases e; exact ⟨_, rfl, .scr hS⟩
      | succ i => cases e
    · cases i <;> cases e
    · cases i <;> cases e1
    · cases i <;> cases e
    · cases i <;> cases e
    · cases r; exact k H'
end
end Zf
namespace Zf
open PySem PySem.Spec L2
theorem glob_str {o : Option Value} {z : Str} (h : ∃ t, o = some (.str z t)) : ∃ u, o = some u ∧ RelV (.str z) u := let ⟨t, e⟩ := h; ⟨_, e, t, rfl⟩
theorem glob_int {o : Option Value} {z : Int} (h : ∃ t, o = some (.int z t)) : ∃ u, o = some u ∧ RelV (.int z) u := let ⟨t, e⟩ := h; ⟨_, e, t, rfl⟩
end Zf
namespace Zf
open PySem PySem.Spec L2
theorem mulD_l {a b : Int} (h : a.natAbs ≤ 2 ^ 63) : mulD (.int a) (.int b) = some (.int (a * b)) := by simp only [mulD]; rw [if_pos (Or.inl h)]
theorem mulD_r {a b : Int} (h : b.natAbs ≤ 2 ^ 63) : mulD (.int a) (.int b) = some (.int (a * b)) := by simp only [mulD]; rw [if_pos (Or.inr h)]
theorem modD_p {a b : Int} (h : 0 < b) : modD (.int a) (.int b) = some (.int (a % b)) := by simp only [modD]; rw [if_pos h]
theorem fdivD_p {a b : Int} (h : 0 < b ∧ b < 1073741824) : fdivD (.int a) (.int b) = some (.int (a / b)) := by simp only [fdivD]; rw [if_pos h]
theorem powD_p {a b : Int} (h : 0 ≤ b ∧ b ≤ 1000000 ∧ a.natAbs < 2 ^ 64) : powD (.int a) (.int b) = some (.int (a ^ b.toNat)) := by simp only [powD]; rw [if_pos h]
theorem addD_i {a b : Int} : addD (.int a) (.int b) = some (.int (a + b)) := rfl
end Zf
namespace Zf
open PySem PySem.Spec L2
theorem eqD_i {a b : Int} : eqD (.int a) (.int b) = some (.bl (decide (a = b))) := rfl
theorem neD_i {a b : Int} : neD (.int a) (.int b) = some (.bl (!decide (a = b))) := rfl
theorem ltD_i {a b : Int} : ltD (.int a) (.int b) = some (.bl (decide (a < b))) := rfl
theorem leD_i {a b : Int} : leD (.int a) (.int b) = some (.bl (decide (a ≤ b))) := rfl
theorem gtD_i {a b : Int} : gtD (.int a) (.int b) = some (.bl (decide (b < a))) := rfl
theorem geD_i {a b : Int} : geD (.int a) (.int b) = some (.bl (decide (b ≤ a))) := rfl
theorem subD_i {a b : Int} : subD (.int a) (.int b) = some (.int (a - b)) := rfl
theorem eqD_s {a b : Str} : eqD (.str a) (.str b) = some (.bl (decide (a = b))) := rfl
theorem neD_s {a b : Str} : neD (.str a) (.str b) = some (.bl (!decide (a = b))) := rfl
theorem addD_s {a b : Str} (h : a.length + b.length ≤ 1000000) : addD (.str a) (.str b) = some (.str (a ++ b)) := by simp only [addD]; rw [if_pos h]
/-- a body's end -/
theorem fnM_rt {n : Nat} {m : SM} {args e : En} {d : D} (h : m (args ++ List.replicate (n - args.length) .no) = some (.rt d e)) : fnM n m args = some (d, (List.range args.length).map fun i => e.getD i .no) := by
  unfold fnM; rw [h]
theorem fnM_nx {n : Nat} {m : SM} {args e : En} (h : m (args ++ List.replicate (n - args.length) .no) = some (.nx e)) : fnM n m args = some (.non, (List.range args.length).map fun i => e.getD i .no) := by
  unfold fnM; rw [h]
theorem slots_nil : slots [] = [] := rfl
theorem slots_im {d : D} {as : List Ar} : slots (.im d :: as) = slots as := rfl
theorem slots_sl {i : Nat} {as : List Ar} : slots (.sl i :: as) = i :: slots as := rfl
end Zf

set_option Elab.async false
set_option linter.all false
set_option maxRecDepth 100000
set_option maxHeartbeats 1000000
/-! Zf, part 10: what is not covered, in-place sums, kinds, least and greatest, places. -/
namespace Zf
open PySem PySem.Spec L2
section
variable {X : Cx} {cl : Nat → Addr} {tg it e : Expr} {es : List Expr} {st : Stmt} {pos p apos cpos : Pos} {ma mb : MM D} {x : Str}
/-! ### not covered: the mirror has no answer -/
def mbad : MM D := fun _ => none
def mbadF : MM (List D) := fun _ => none
def mbadB : MM Bool := fun _ => none
def sbad : SM := fun _ => none
theorem em_bad : EM X cl e mbad := ⟨fun pins s σ H Q I h => by obtain ⟨_, _, _, _, _, _, _, h, _⟩ := h; cases h⟩
theorem ef_bad : EF X cl e mbadF := ⟨fun pins s σ H Q I h => by obtain ⟨_, _, _, _, _, _, _, h, _⟩ := h; cases h⟩
theorem eb_bad : EB X cl e mbadB := ⟨fun pins s σ H Q I h => by obtain ⟨_, _, _, _, _, _, _, h, _⟩ := h; cases h⟩
theorem ei_bad : EI X cl tg it mbadF := ⟨fun pins s σ H R I h => by obtain ⟨_, _, _, _, _, _, _, h, _⟩ := h; cases h⟩
theorem es_bad : ES X cl st sbad := ⟨fun pins s σ H D I h => by obtain ⟨_, _, _, _, _, _, h, _⟩ := h; cases h⟩
/-! ### x += e, of numbers and texts -/
def addI : D → D → Option D
  | .int a, .int b => some (.int (a + b))
  | .str a, .str b => if a.length + b.length ≤ 1000000 then some (.str (a ++ b)) else none
  | _, _ => none
def saug (i : Nat) (m : MM D) : SM := fun env => match env[i]? with
  | some (.im a) => (match m env with
    | some (b, e1) => (match addI a b with
      | some z => if okS e1 i then some (.nx (e1.set i (.im z))) else none
      | none => none)
    | none => none)
  | _ => none
def rAddT : V → V → Hp → VK → Prop := fun x y H Q => ∃ i j, x = .str i ∧ y = .str j ∧ i.length + j.length ≤ sizeLine ∧ Q (.str (i ++ j)) H
def tipA : TIp := fun x y H Q => rAdd x y H Q ∨ rAddT x y H Q
theorem ip_addA : PIp X .Add tipA := fun pins s σ H x y v u Q I rx ry h => h.elim (in_add pins s σ H x y v u Q I rx ry) (iop_add_str pins s σ H x y v u Q I rx ry)
theorem es_aug (i : Nat) {pos' : Pos} (hN : X.N.Nodup) (h : EM X cl e ma) (hi : X.N[i]? = some x := by rfl) (hx : Loc X.env.scope x := by first | exact Or.inl rfl | exact Or.inr rfl)
    (hf : X.fn x = true ∨ X.env.scope.names.lookup x = some .local := by first | exact .inl rfl | exact .inr rfl) : ES X cl (.AugAssign (.Name x pos') .Add e pos) (saug i ma) := by
  refine (ps_aug (i := i) hN hi hx h ip_addA hf).zi fun Dn σ H q => ?_
  obtain ⟨F, I, env, ex, out, s, hm, k⟩ := q
  unfold saug at hm
  split at hm
  · rename_i a h0
    split at hm
    · rename_i b e1 h1
      split at hm
      · rename_i z hz
        split at hm
        · rename_i ho
          cases hm
          obtain ⟨f, s'⟩ := id s
          obtain ⟨v, hv, r⟩ := s'.look h0
          refine ⟨v, hv, F, I, env, ex, b, e1, s, h1, fun u I' H' s1 q1 ru => ?_⟩
          have rv := r.ex q1
          unfold addI at hz
          split at hz
          · cases hz; cases rv; cases ru
            exact .inl ⟨_, _, rfl, rfl, k _ I' H' (s1.set ho (.int _)) q1⟩
          · split at hz
            · rename_i hl
              cases hz; cases rv; cases ru
              exact .inr ⟨_, _, rfl, rfl, Nat.le_trans hl (by decide), k _ I' H' (s1.set ho (.str _)) q1⟩
            · cases hz
          · cases hz
        · cases hm
      · cases hm
    · cases hm
  · cases hm
/-! ### isinstance of a built-in kind -/
def typeN : D → Option String
  | .non => some "NoneType"
  | .bl _ => some "bool"
  | .int _ => some "int"
  | .str _ => some "str"
  | .lst _ => some "list"
  | .tup _ => some "tuple"
  | .dct _ => some "dict"
  | _ => none
theorem Rep.tyX {K : PySem.W.Frag} {I H : Hp} {v : V} {d : D} {t : String} (e : Ex I H) (r : Rep K cl I v d) (h : typeN d = some t) : TyX K H v (.type t) := by
  cases r with
  | non => cases h; exact .base .non
  | bl b => cases h; exact .base (.bl b)
  | int b => cases h; exact .base (.int b)
  | str b => cases h; exact .base (.str b)
  | lst h1 _ => cases h; exact .base (.lst (e _ _ h1))
  | tup h1 _ =>
    cases h
    rcases ex_t e h1 with (h1 | ⟨o, h1⟩) | ⟨o, its, n, h1, h2, _⟩
    · exact .base (.tup h1)
    · exact .fTuple h1
    · exact .kTuple h1 h2
  | dct h1 _ => cases h; exact .base (.dK (e _ _ h1))
  | scr h1 => cases h
  | obj h1 _ => cases h
def kinds7 : List String := ["NoneType", "bool", "int", "str", "list", "tuple", "dict"]
theorem typeN_in {d : D} {t : String} (h : typeN d = some t) : t ∈ kinds7 := by
  unfold typeN at h
  split at h <;> cases h <;> decide
def isT (t T : String) : Bool := decide (t = T) || (decide (t = "bool") && decide (T = "int"))
theorem kit_isT {K : PySem.W.Frag} {t T : String} (h1 : t ∈ kinds7) (h2 : T ∈ ["bool", "int", "str", "list", "tuple", "dict"]) : PySem.W.kitOne K (.type t) (.type T) = some (isT t T) := by
  unfold kinds7 at h1
  simp only [List.mem_cons, List.not_mem_nil, or_false] at h1 h2
  rcases h1 with rfl | rfl | rfl | rfl | rfl | rfl | rfl <;> rcases h2 with rfl | rfl | rfl | rfl | rfl | rfl <;> rfl
def isiD (T : String) (d : D) : Option D := match typeN d with
  | some t => some (.bl (isT t T))
  | none => none
theorem em_isi (T : String) {n : Str} {p2 : Pos} (hm : X.mg "isinstance" = none) (hmT : X.mg n = none) (he : EM X cl e ma) (hT : T ∈ ["bool", "int", "str", "list", "tuple", "dict"] := by decide) (hb : bootBuiltins n = some (.type T) := by decide +kernel)
    (hg : Gl X "isinstance" := by rfl) (hgT : Gl X n := by rfl) (hnT : n ≠ "__name__" := by decide) (hdT : (n == ("__debug__" : Str)) = false := by decide)
    (hs1 : starEach [e, .Name n p2] X.env = (false, eval e X.env) :: starEach [.Name n p2] X.env := by rfl) (hs2 : starEach [.Name n p2] X.env = (false, eval (.Name n p2) X.env) :: starEach [] X.env := by rfl)
    (hpl : (backTo pos (starEach [.Name n p2] X.env)).any (·.1) = false := by rfl) :
    EM X cl (.Call (.Name "isinstance" p) [e, .Name n p2] [] pos) (MM.opt ma (isiD T)) := by
  refine (pe_callB call_isi hg hm PyProof.Rows.boot_isinstance (pa_cons he (pa_cons (pe_bltn (v := .ty T) hgT hmT hb rfl hnT hdT) pa_nil hs2) hs1) (by decide) (by decide) hs1 hpl).zi fun σ H Q q => ?_
  obtain ⟨F, I, env, ex, d, env', s, hq, k⟩ := q
  obtain ⟨a, h1, h2⟩ := opt_of hq
  refine ⟨F, I, env, ex, a, env', s, h1, fun v I1 H1 s1 q1 r1 => ?_⟩
  unfold isiD at h2
  split at h2
  · rename_i t ht
    cases h2
    exact ⟨v, .ty T, .type t, .type T, isT t T, rfl, .ty T, r1.tyX s1.ih ht, kit_isT (typeN_in ht) hT, k _ I1 H1 s1 q1 (.bl _)⟩
  · cases h2
/-! ### least and greatest -/
def minI : List Int → Option Int
  | [] => none
  | [a] => some a
  | a :: r => (minI r).map (min a)
def maxI : List Int → Option Int
  | [] => none
  | [a] => some a
  | a :: r => (maxI r).map (max a)
theorem minI_le : ∀ {ns : List Int} {m : Int}, minI ns = some m → m ∈ ns ∧ ∀ y ∈ ns, m ≤ y
  | [a], m, h => by cases h; simp
  | a :: b :: r, m, h => by
    simp only [minI, Option.map_eq_some_iff] at h
    obtain ⟨m', h1, rfl⟩ := h
    obtain ⟨i1, i2⟩ := minI_le (ns := b :: r) (m := m') h1
    by_cases q : a ≤ m'
    · rw [Int.min_eq_left q]
      refine ⟨List.mem_cons_self, fun y hy => ?_⟩
      rcases List.mem_cons.mp hy with rfl | hy
      · exact Int.le_refl _
      · exact Int.le_trans q (i2 y hy)
    · rw [Int.min_eq_right (by omega)]
      refine ⟨List.mem_cons_of_mem _ i1, fun y hy => ?_⟩
      rcases List.mem_cons.mp hy with rfl | hy
      · omega
      · exact i2 y hy
theorem maxI_le : ∀ {ns : List Int} {m : Int}, maxI ns = some m → m ∈ ns ∧ ∀ y ∈ ns, y ≤ m
  | [a], m, h => by cases h; simp
  | a :: b :: r, m, h => by
    simp only [maxI, Option.map_eq_some_iff] at h
    obtain ⟨m', h1, rfl⟩ := h
    obtain ⟨i1, i2⟩ := maxI_le (ns := b :: r) (m := m') h1
    by_cases q : m' ≤ a
    · rw [Int.max_eq_left q]
      refine ⟨List.mem_cons_self, fun y hy => ?_⟩
      rcases List.mem_cons.mp hy with rfl | hy
      · exact Int.le_refl _
      · exact Int.le_trans (i2 y hy) q
    · rw [Int.max_eq_right (by omega)]
      refine ⟨List.mem_cons_of_mem _ i1, fun y hy => ?_⟩
      rcases List.mem_cons.mp hy with rfl | hy
      · omega
      · exact i2 y hy
theorem minI_pos {ns : List Int} {m : Int} (h : minI ns = some m) : 0 < ns.length := by
  cases ns with
  | nil => cases h
  | cons => simp
theorem maxI_pos {ns : List Int} {m : Int} (h : maxI ns = some m) : 0 < ns.length := by
  cases ns with
  | nil => cases h
  | cons => simp
def minL : List D → Option D
  | [.lst ds] => (match intsD ds with
    | some ns => (minI ns).map .int
    | none => none)
  | [.int i, .int j] => some (.int (if j < i then j else i))
  | _ => none
def maxL : List D → Option D
  | [.lst ds] => (match intsD ds with
    | some ns => (maxI ns).map .int
    | none => none)
  | [.int i, .int j] => some (.int (if j > i then j else i))
  | _ => none
theorem ok_min {K : PySem.W.Frag} : OKL K cl (fun vs H Q => rMin K vs H Q ∨ ∃ i j, vs = [.int i, .int j] ∧ Q (.int (if j < i then j else i)) H) minL := fun I H vs ds d Q e r hg k => by
  unfold minL at hg
  split at hg
  · rename_i xs
    split at hg
    · rename_i ns h1
      obtain ⟨m, hm, rfl⟩ := Option.map_eq_some_iff.mp hg
      cases r with
      | cons r1 rr =>
        cases rr
        cases r1 with
        | lst h2 r2 =>
          have e2 := r2.intsV h1
          subst e2
          refine .inl ⟨_, ns, rfl, SqL.of (e _ _ h2), minI_pos hm, fun m' i1 i2 => ?_⟩
          obtain ⟨j1, j2⟩ := minI_le hm
          have : m' = m := Int.le_antisymm (i2 m j1) (j2 m' i1)
          subst this
          exact k _ _ _ (Gr.refl e) (.int _)
    · cases hg
  · cases hg
    cases r with
    | cons r1 rr =>
      cases rr with
      | cons r2 rr =>
        cases rr
        cases r1
        cases r2
        exact .inr ⟨_, _, rfl, k _ _ _ (Gr.refl e) (.int _)⟩
  · cases hg
theorem ok_max {K : PySem.W.Frag} : OKL K cl (fun vs H Q => rMax K vs H Q ∨ ∃ i j, vs = [.int i, .int j] ∧ Q (.int (if j > i then j else i)) H) maxL := fun I H vs ds d Q e r hg k => by
  unfold maxL at hg
  split at hg
  · rename_i xs
    split at hg
    · rename_i ns h1
      obtain ⟨m, hm, rfl⟩ := Option.map_eq_some_iff.mp hg
      cases r with
      | cons r1 rr =>
        cases rr
        cases r1 with
        | lst h2 r2 =>
          have e2 := r2.intsV h1
          subst e2
          refine .inl ⟨_, ns, rfl, SqL.of (e _ _ h2), maxI_pos hm, fun m' i1 i2 => ?_⟩
          obtain ⟨j1, j2⟩ := maxI_le hm
          have : m' = m := Int.le_antisymm (j2 m' i1) (i2 m j1)
          subst this
          exact k _ _ _ (Gr.refl e) (.int _)
    · cases hg
  · cases hg
    cases r with
    | cons r1 rr =>
      cases rr with
      | cons r2 rr =>
        cases rr
        cases r1
        cases r2
        exact .inr ⟨_, _, rfl, k _ _ _ (Gr.refl e) (.int _)⟩
  · cases hg
theorem call_orB {id : String} {r1 r2 : List V → Hp → VK → Prop} (h1 : CallR X (.builtin id) r1) (h2 : CallR X (.builtin id) r2) : CallR X (.builtin id) (fun vs H Q => r1 vs H Q ∨ r2 vs H Q) :=
  fun pins s σ H vs us Q I r h => h.elim (h1 pins s σ H vs us Q I r) (h2 pins s σ H vs us Q I r)
theorem cr_minA (hc : X.calm = true) : CallR X (.builtin "min") (fun vs H Q => rMin X.K vs H Q ∨ ∃ i j, vs = [.int i, .int j] ∧ Q (.int (if j < i then j else i)) H) := call_orB (cr_min hc) (call_min2 hc)
theorem cr_maxA (hc : X.calm = true) : CallR X (.builtin "max") (fun vs H Q => rMax X.K vs H Q ∨ ∃ i j, vs = [.int i, .int j] ∧ Q (.int (if j > i then j else i)) H) := call_orB (cr_max hc) (call_max2 hc)
/-! ### methods of lists as values -/
def mmethL (g : List D → List D → Option D) (mo : MM D) (ma : MM (List D)) : MM D := fun env => match mo env with
  | some (.lst z, e1) => (match ma e1 with
    | some (ds, e2) => (match g z ds with
      | some d => some (d, e2)
      | none => none)
    | none => none)
  | _ => none
/-- the place of the first that is alike -/
def placeV (v : V) : List V → Option Nat
  | [] => none
  | u :: us => if eqV u v then some 0 else (placeV v us).map (· + 1)
def indexM (z : List D) : List D → Option D
  | [d] => (match toV d, toVs z with
    | some v, some vs => (placeV v vs).map fun n => .int (n : Nat)
    | _, _ => none)
  | _ => none
theorem placeV_ok {v : V} : ∀ {vs : List V} {j : Nat}, placeV v vs = some j → (∃ z, vs[j]? = some z ∧ eqV z v = true) ∧ ∀ (m : Nat) (z' : V), m < j → vs[m]? = some z' → eqV z' v = false
  | u :: us, j, h => by
    unfold placeV at h
    split at h
    · rename_i q
      cases h
      exact ⟨⟨u, rfl, q⟩, fun m z' hm => absurd hm (Nat.not_lt_zero _)⟩
    · rename_i q
      obtain ⟨i, h1, rfl⟩ := Option.map_eq_some_iff.mp h
      obtain ⟨⟨z, h2, h3⟩, h4⟩ := placeV_ok h1
      refine ⟨⟨z, by simpa using h2, h3⟩, fun m z' hm hz => ?_⟩
      cases m with
      | zero => cases hz; simpa using q
      | succ m => exact h4 m z' (by omega) (by simpa using hz)
theorem em_index {o a : Expr} {mo : MM D} (ho : EM X cl o mo) (ha : EM X cl a ma)
    (hbase : attributeBase o "index" X.env (eval o X.env) = eval o X.env := by rfl)
    (hfew : ((backTo cpos (starEach [a] X.env)).all (fun x => !x.1) && (backToKw cpos (keywordEach [] X.env)).all (fun x => x.1.isSome)
      && decide (([a] : List Expr).length + ([] : List Keyword).length + (if ([] : List Keyword).isEmpty then 0 else 1) < 30)) = true := by rfl)
    (hline : (apos.endLine == cpos.line) = true := by rfl) (hs : starEach [a] X.env = (false, eval a X.env) :: starEach [] X.env := by rfl) (hplain : (backTo cpos (starEach [] X.env)).any (·.1) = false := by rfl) :
    EM X cl (.Call (.Attribute o "index" apos) [a] [] cpos) (mmethL indexM mo (mcons ma mnil)) := by
  refine (pe_bm PySem.F.plainAttrs_list PySem.F.slot_list_index PySem.F.type_list_index mt_index ho (pa_cons ha pa_nil hs) hbase hfew hline hs hplain).zi fun σ H Q h => ?_
  obtain ⟨F, I, env, ex, d, env', s, hq, k⟩ := h
  unfold mmethL at hq
  split at hq
  · rename_i z e1 h1
    split at hq
    · rename_i ds e2 h2
      split at hq
      · rename_i d' h3
        cases hq
        obtain ⟨b, e3, r, g1, g2, rfl⟩ := mcons_of h2
        cases g2
        refine ⟨F, I, env, ex, .lst z, e1, s, h1, fun v I1 H1 s1 q1 r1 => ?_⟩
        cases r1 with
        | lst hl rl =>
          refine ⟨.inl ⟨rfl, _, .inl (.inl (s1.ih _ _ hl))⟩, F, I1, e1, ex, b, _, s1, g1, fun w I2 H2 s2 q2 r2 => ?_⟩
          simp only [indexM] at h3
          split at h3
          · rename_i v vs hv hvs
            obtain ⟨j, hj, rfl⟩ := Option.map_eq_some_iff.mp h3
            obtain ⟨rfl, f1⟩ := r2.toV hv
            obtain ⟨rfl, f2⟩ := rl.toVs hvs
            obtain ⟨⟨z1, p1, p2⟩, p3⟩ := placeV_ok hj
            exact ⟨_, _, _, j, z1, rfl, rfl, .inl (.inl (s2.ih _ _ (q2 _ _ hl))), f1, f2, p1, p2, p3, k _ I2 H2 s2 (q1.trans q2) (.int _)⟩
          · cases h3
      · cases hq
    · cases hq
  · cases hq
end
end Zf

set_option Elab.async false
set_option linter.all false
/-! Zf, part 11: the words, applied (printed by words.py). -/
namespace Zf
open PySem PySem.Spec L2
theorem z_sseq (a b : SM) (env : En) : sseq a b env = (match a env with
  | some (.nx e1) => b e1
  | o => o) := rfl
theorem z_sset (i : Nat) (m : MM D) (env : En) : sset i m env = (match m env with
  | some (d, e1) => if okS e1 i then some (.nx (e1.set i (.im d))) else none
  | none => none) := rfl
theorem z_sret (m : MM D) (env : En) : sret m env = (match m env with
  | some (d, e1) => some (.rt d e1)
  | none => none) := rfl
theorem z_sif (t : MM Bool) (a b : SM) (env : En) : sif t a b env = (match t env with
  | some (true, e1) => a e1
  | some (false, e1) => b e1
  | none => none) := rfl
theorem z_snx (env : En) : snx  env = (some (.nx env)) := rfl
theorem z_sbk (env : En) : sbk  env = (some (.bk env)) := rfl
theorem z_sct (env : En) : sct  env = (some (.ct env)) := rfl
theorem z_sdrop (m : MM D) (env : En) : sdrop m env = (match m env with
  | some (_, e1) => some (.nx e1)
  | none => none) := rfl
theorem z_sasg (t : Tg) (m : MM D) (env : En) : sasg t m env = (match m env with
  | some (d, e1) => (match mtg t d e1 with
    | some e2 => some (.nx e2)
    | none => none)
  | none => none) := rfl
theorem z_spar (is : List Nat) (m : MM (List Pa)) (env : En) : spar is m env = (match m env with
  | some (as, e1) => (match setsE is as e1 with
    | some e2 => some (.nx e2)
    | none => none)
  | none => none) := rfl
theorem z_sown (i : Nat) (m : MM (List D)) (env : En) : sown i m env = (match m env with
  | some (ds, e1) => if okS e1 i then some (.nx (e1.set i (.mu false (.ml ds)))) else none
  | none => none) := rfl
theorem z_sfor (t : Tg) (mi : MM (List D)) (mb : SM) (env : En) : sfor t mi mb env = (match mi env with
  | some (ds, e1) => forL t mb ds e1
  | none => none) := rfl
theorem z_mop2 (g : D → D → Option D) (ma mb : MM D) (env : En) : mop2 g ma mb env = (match ma env with
  | some (a, e1) => (match mb e1 with
    | some (b, e2) => (match g a b with
      | some d => some (d, e2)
      | none => none)
    | none => none)
  | none => none) := rfl
theorem z_mc (d : D) (env : En) : mc d env = (some (d, env)) := rfl
theorem z_mvar (i : Nat) (env : En) : mvar i env = (match env[i]? with
  | some (.im d) => some (d, env)
  | some (.mu false m) => (match m.out with
    | some d => some (d, env.set i (.im d))
    | none => none)
  | _ => none) := rfl
theorem z_MM_opt {α β : Type} (m : MM α) (f : α → Option β) (env : En) : MM.opt m f env = (match m env with
  | some (a, env') => (match f a with
    | some b => some (b, env')
    | none => none)
  | none => none) := rfl
theorem z_MM_map {α β : Type} (m : MM α) (f : α → β) (env : En) : MM.map m f env = (match m env with
  | some (a, env') => some (f a, env')
  | none => none) := rfl
theorem z_mcons (ma : MM D) (mr : MM (List D)) (env : En) : mcons ma mr env = (match ma env with
  | some (a, e1) => (match mr e1 with
    | some (r, e2) => some (a :: r, e2)
    | none => none)
  | none => none) := rfl
theorem z_mnil (env : En) : mnil  env = (some ([], env)) := rfl
theorem z_pnil (env : En) : pnil  env = (some ([], env)) := rfl
theorem z_pcim (ma : MM D) (mr : MM (List Pa)) (env : En) : pcim ma mr env = (match ma env with
  | some (a, e1) => (match mr e1 with
    | some (r, e2) => some (.im a :: r, e2)
    | none => none)
  | none => none) := rfl
theorem z_pcow (ma : MM (List D)) (mr : MM (List Pa)) (env : En) : pcow ma mr env = (match ma env with
  | some (a, e1) => (match mr e1 with
    | some (r, e2) => some (.ow a :: r, e2)
    | none => none)
  | none => none) := rfl
theorem z_acim (ma : MM D) (mr : MM (List Ar)) (env : En) : acim ma mr env = (match ma env with
  | some (a, e1) => (match mr e1 with
    | some (r, e2) => some (.im a :: r, e2)
    | none => none)
  | none => none) := rfl
theorem z_acsl (i : Nat) (mr : MM (List Ar)) (env : En) : acsl i mr env = (match env[i]? with
  | some (.mu _ _) => (match mr env with
    | some (r, e2) => some (.sl i :: r, e2)
    | none => none)
  | _ => none) := rfl
theorem z_anil (env : En) : anil  env = (some ([], env)) := rfl
theorem z_mif {α : Type} (t : MM Bool) (ma mb : MM α) (env : En) : mif t ma mb env = (match t env with
  | some (true, e1) => ma e1
  | some (false, e1) => mb e1
  | none => none) := rfl
theorem z_mandB (ma mb : MM Bool) (env : En) : mandB ma mb env = (match ma env with
  | some (true, e1) => mb e1
  | some (false, e1) => some (false, e1)
  | none => none) := rfl
theorem z_morB (ma mb : MM Bool) (env : En) : morB ma mb env = (match ma env with
  | some (true, e1) => some (true, e1)
  | some (false, e1) => mb e1
  | none => none) := rfl
theorem z_mnotB (ma : MM Bool) (env : En) : mnotB ma env = (match ma env with
  | some (b, e1) => some (!b, e1)
  | none => none) := rfl
theorem z_mandV (ma mb : MM D) (env : En) : mandV ma mb env = (match ma env with
  | some (.bl true, e1) => mb e1
  | some (.bl false, e1) => some (.bl false, e1)
  | _ => none) := rfl
theorem z_morV (ma mb : MM D) (env : En) : morV ma mb env = (match ma env with
  | some (.bl true, e1) => some (.bl true, e1)
  | some (.bl false, e1) => mb e1
  | _ => none) := rfl
theorem z_mnotV (ma : MM D) (env : En) : mnotV ma env = (match ma env with
  | some (.bl b, e1) => some (.bl (!b), e1)
  | _ => none) := rfl
theorem z_mmeth (g : Str → List D → Option D) (mo : MM D) (ma : MM (List D)) (env : En) : mmeth g mo ma env = (match mo env with
  | some (.str z, e1) => (match ma e1 with
    | some (ds, e2) => (match g z ds with
      | some d => some (d, e2)
      | none => none)
    | none => none)
  | _ => none) := rfl
theorem z_fmeth (g : Str → List D → Option (List D)) (mo : MM D) (ma : MM (List D)) (env : En) : fmeth g mo ma env = (match mo env with
  | some (.str z, e1) => (match ma e1 with
    | some (ds, e2) => (match g z ds with
      | some d => some (d, e2)
      | none => none)
    | none => none)
  | _ => none) := rfl
theorem z_fop2 (g : D → D → Option (List D)) (ma mb : MM D) (env : En) : fop2 g ma mb env = (match ma env with
  | some (a, e1) => (match mb e1 with
    | some (b, e2) => (match g a b with
      | some d => some (d, e2)
      | none => none)
    | none => none)
  | none => none) := rfl
theorem z_mdr (i : Nat) (j : Int) (env : En) : mdr i j env = (match env[i]? with
  | some (.mu _ (.dr s)) => (match s.at j with
    | some n => some (.int n, env)
    | none => none)
  | _ => none) := rfl
theorem z_mdrNe (i : Nat) (j : Int) (env : En) : mdrNe i j env = (match env[i]? with
  | some (.mu _ (.dr s)) => (match s.row j with
    | some ns => some (!ns.isEmpty, env)
    | none => none)
  | _ => none) := rfl
theorem z_mdrLen (i : Nat) (j : Int) (env : En) : mdrLen i j env = (match env[i]? with
  | some (.mu _ (.dr s)) => (match s.row j with
    | some ns => some (.int ns.length, env)
    | none => none)
  | _ => none) := rfl
theorem z_mdrPop (i : Nat) (env : En) : mdrPop i env = (match env[i]? with
  | some (.mu q (.dr ⟨n :: r, c, B, t⟩)) => if r.length ≤ 1000000 then some (.int n, env.set i (.mu q (.dr ⟨r, c, B, t⟩))) else none
  | _ => none) := rfl
theorem z_sdr (i : Nat) (j : Int) (m : MM D) (env : En) : sdr i j m env = (match m env with
  | some (.int n, e1) => (match e1[i]? with
    | some (.mu q (.dr s)) => (match s.put j n with
      | some t => some (.nx (e1.set i (.mu q (.dr t))))
      | none => none)
    | _ => none)
  | _ => none) := rfl
theorem z_mappend (i : Nat) (m : MM D) (env : En) : mappend i m env = (match env[i]? with
  | some (.mu _ (.ml _)) => (match m env with
    | some (d, e1) => (match e1[i]? with
      | some (.mu q (.ml ds)) => if ds.length < 1000000 then some (.non, e1.set i (.mu q (.ml (ds ++ [d])))) else none
      | _ => none)
    | none => none)
  | _ => none) := rfl
theorem z_mextend (i : Nat) (m : MM (List D)) (env : En) : mextend i m env = (match env[i]? with
  | some (.mu _ (.ml _)) => (match m env with
    | some (d, e1) => (match e1[i]? with
      | some (.mu q (.ml ds)) => if ds.length + d.length ≤ 1000000 then some (.non, e1.set i (.mu q (.ml (ds ++ d)))) else none
      | _ => none)
    | none => none)
  | _ => none) := rfl
theorem z_mpopAt (i : Nat) (m : MM D) (env : En) : mpopAt i m env = (match env[i]? with
  | some (.mu _ (.ml _)) => (match m env with
    | some (.int j, e1) => (match e1[i]? with
      | some (.mu q (.ml ds)) => if 0 ≤ j then (match ds[j.toNat]? with
        | some d => if ds.length ≤ 1000000 then some (d, e1.set i (.mu q (.ml (ds.eraseIdx j.toNat)))) else none
        | none => none) else none
      | _ => none)
    | _ => none)
  | _ => none) := rfl
theorem z_mlenO (i : Nat) (env : En) : mlenO i env = (match env[i]? with
  | some (.mu _ (.ml ds)) => some (.int ds.length, env)
  | _ => none) := rfl
theorem z_mnilO (neg : Bool) (i : Nat) (env : En) : mnilO neg i env = (match env[i]? with
  | some (.mu _ (.ml ds)) => (match toPs ds with
    | some ps => if SeqAt.shaped (.list ps) then some (if neg then !ds.isEmpty else ds.isEmpty, env) else none
    | none => none)
  | _ => none) := rfl
theorem z_msl (ma : MM D) (ml mh : MM (Option Int)) (env : En) : msl ma ml mh env = (match ma env with
  | some (d, e1) => (match ml e1 with
    | some (lo, e2) => (match mh e2 with
      | some (hi, e3) => (match slD d lo hi with
        | some r => some (r, e3)
        | none => none)
      | none => none)
    | none => none)
  | none => none) := rfl
theorem z_mcall (F : FM) (dfl : List D) (m : MM (List Ar)) (env : En) : mcall F dfl m env = (match m env with
  | some (as, e1) => if (slots as).Nodup then (match argsE e1 as with
    | some args => (match F (args ++ dfl.map .im) with
      | some (d, news) => some (d, updE e1 as news)
      | none => none)
    | none => none) else none
  | none => none) := rfl
theorem z_saug (i : Nat) (m : MM D) (env : En) : saug i m env = (match env[i]? with
  | some (.im a) => (match m env with
    | some (b, e1) => (match addI a b with
      | some z => if okS e1 i then some (.nx (e1.set i (.im z))) else none
      | none => none)
    | none => none)
  | _ => none) := rfl
theorem z_mmethL (g : List D → List D → Option D) (mo : MM D) (ma : MM (List D)) (env : En) : mmethL g mo ma env = (match mo env with
  | some (.lst z, e1) => (match ma e1 with
    | some (ds, e2) => (match g z ds with
      | some d => some (d, e2)
      | none => none)
    | none => none)
  | _ => none) := rfl
theorem z_sdraws (fA fB : List Int → List Int) (i j : Nat) (env : En) : sdraws fA fB i j env = (match env[j]? with
  | some (.im (.scr ns)) => if okS env i = true ∧ ns.length ≤ 63 then some (.nx (env.set i (.mu false (.dr ⟨fA ns, 0, fB ns, 0⟩)))) else none
  | _ => none) := rfl
theorem z_mtrue (env : En) : mtrue env = some (true, env) := rfl
end Zf

set_option Elab.async false
set_option linter.all false
set_option maxRecDepth 100000
set_option maxHeartbeats 1000000
/-! Zf, part 12: the module's tuples and tables, defaults. -/
namespace Zf
open PySem PySem.Spec L2
theorem all_at {l : List Bool} (h : l.all id = true) (i : Nat) {b : Bool} (hb : l[i]? = some b) : b = true := List.all_eq_true.mp h b (List.mem_of_getElem? hb)
/-! ### tuples -/
def dvD : He.Dv → D
  | .non => .non
  | .bl b => .bl b
  | .int i => .int i
  | .str z => .str z
  | _ => .non
def flatDv : He.Dv → Bool
  | .non => true
  | .bl _ => true
  | .int _ => true
  | .str _ => true
  | _ => false
theorem rep_dv {K : PySem.W.Frag} {cl : Nat → Addr} {I : Hp} {v : He.Dv} (h : flatDv v = true) : Rep K cl I (v.v K) (dvD v) := by
  cases v <;> first | (cases h; done) | skip
  · exact .non
  · exact .bl _
  · exact .int _
  · exact .str _
theorem rep_dvs {K : PySem.W.Frag} {cl : Nat → Addr} {I : Hp} : ∀ {vs : List He.Dv}, vs.all flatDv = true → RepL K cl I (vs.map (He.Dv.v K)) (vs.map dvD)
  | [], _ => .nil
  | v :: vs, h => by
    rw [List.all_cons, Bool.and_eq_true] at h
    exact .cons (rep_dv h.1) (rep_dvs h.2)
theorem rep_tupB {K : PySem.W.Frag} {cl : Nat → Addr} {x : Str} {vs : List He.Dv} (h : He.tupB K x vs = true) (hf : vs.all flatDv = true) (I : Hp) : Rep K cl I (.ref (He.ga K x)) (.tup (vs.map dvD)) := .tup (He.tupB_ok h I) (rep_dvs hf)
theorem glob_ref {o : Option Value} {a : Addr} (h : o = some (.ref a)) : ∃ u, o = some u ∧ RelV (.ref a) u := ⟨_, h, rfl⟩
/-! ### a default that is an empty tuple -/
def emptB (K : PySem.W.Frag) (a : Addr) : Bool := match K.lookup a with
  | some ⟨.type c, _, .seq its _, _⟩ => decide (c = "tuple") && its.toList.isEmpty
  | _ => false
theorem rep_empt {K : PySem.W.Frag} {cl : Nat → Addr} {a : Addr} (h : emptB K a = true) (I : Hp) : Rep K cl I (.ref a) (.tup []) := by
  unfold emptB at h
  cases q : K.lookup a with
  | none => rw [q] at h; cases h
  | some o =>
    obtain ⟨oc, od, dt, osl⟩ := o
    rw [q] at h
    cases oc with
    | type c =>
      cases dt with
      | seq its n =>
        have h2 : (decide (c = "tuple") && its.toList.isEmpty) = true := h
        rw [Bool.and_eq_true] at h2
        have h3 : its.toList = [] := List.isEmpty_iff.mp h2.2
        have h4 : its = #[] := by
          cases its; simp at h3; rw [h3]
        subst h4
        exact .tup (vs := []) (.inr ⟨_, #[], n, q, congrArg Value.type (of_decide_eq_true h2.1), rfl, Nat.zero_le _, .nil⟩) .nil
      | _ => cases h
    | _ => cases dt <;> cases h
/-! ### tables of texts -/
def rowsB (K : PySem.W.Frag) : List DictEntry → List (Str × He.Dv) → Bool
  | [], [] => true
  | e :: es, q :: qs => (match e.key with
    | .str k _ => decide (k = q.1)
    | _ => false) && (He.relB (q.2.v K) e.val && rowsB K es qs)
  | _, _ => false
def tabB (K : PySem.W.Frag) (x : Str) (kvs : List (Str × He.Dv)) : Bool := match K.lookup (He.ga K x) with
  | some ⟨_, _, .dict es _, _⟩ => rowsB K es.toList kvs
  | _ => false
theorem rows_find {K : PySem.W.Frag} (z : Str) : ∀ {es : List DictEntry} {kvs : List (Str × He.Dv)}, rowsB K es kvs = true →
    (kvs.find? (fun q => q.1 == z) = none ∧ es.find? (·.key.isStr z) = none ∧ es.any (·.refKey) = false) ∨ ∃ q e, kvs.find? (fun q => q.1 == z) = some q ∧ es.find? (·.key.isStr z) = some e ∧ RelV (q.2.v K) e.val
  | [], [], _ => .inl ⟨rfl, rfl, rfl⟩
  | [], _ :: _, h => by cases h
  | _ :: _, [], h => by cases h
  | e :: es, q :: qs, h => by
    unfold rowsB at h
    rw [Bool.and_eq_true, Bool.and_eq_true] at h
    obtain ⟨h1, h2, h3⟩ := h
    split at h1
    · rename_i k t hk
      have h1 := of_decide_eq_true h1
      subst h1
      have hs : e.key.isStr z = (q.1 == z) := by rw [hk]; rfl
      have hr : e.refKey = false := by unfold DictEntry.refKey; rw [hk]
      rw [List.find?_cons, List.find?_cons, hs]
      cases c : (q.1 == z) with
      | true => exact .inr ⟨q, e, rfl, rfl, He.relB_ok h2⟩
      | false =>
        rcases rows_find z h3 with ⟨a, b, c⟩ | h
        · exact .inl ⟨a, b, by rw [List.any_cons, hr, c]; rfl⟩
        · exact .inr h
    · cases h1
theorem tab_find {K : PySem.W.Frag} {x : Str} {kvs : List (Str × He.Dv)} (h : tabB K x kvs = true) (z : Str) :
    (kvs.find? (fun q => q.1 == z) = none ∧ PySem.W.nsIn K (He.ga K x) z = some none) ∨ ∃ q u, kvs.find? (fun q => q.1 == z) = some q ∧ PySem.W.nsIn K (He.ga K x) z = some (some u) ∧ RelV (q.2.v K) u := by
  unfold tabB at h
  unfold PySem.W.nsIn
  cases q : K.lookup (He.ga K x) with
  | none => rw [q] at h; cases h
  | some o =>
    obtain ⟨oc, od, dt, osl⟩ := o
    rw [q] at h
    cases dt with
    | dict es n =>
      rcases rows_find z (show rowsB K es.toList kvs = true from h) with ⟨a, b, c⟩ | ⟨r, e, a, b, c⟩
      · refine .inl ⟨a, ?_⟩
        simp only [b, c]; rfl
      · refine .inr ⟨r, e.val, a, ?_, c⟩
        simp only [b]
    | _ => cases h
def inTab (kvs : List (Str × He.Dv)) (neg : Bool) : D → Option D
  | .str z => some (.bl (neg != (kvs.find? (fun q => q.1 == z)).isSome))
  | _ => none
def ixTab (kvs : List (Str × He.Dv)) : D → Option D
  | .str z => (kvs.find? (fun q => q.1 == z)).map fun q => dvD q.2
  | _ => none
section
variable {X : Cx} {cl : Nat → Addr} {e : Expr} {ma : MM D} {x : Str} {pos p : Pos} {kvs : List (Str × He.Dv)}
theorem em_inTab {es : Array DictEntry} {n : Nat} (D0 : KDict X.K X.w (He.ga X.K x) es n) (h : tabB X.K x kvs = true) (hm : X.mg x = some (.ref (He.ga X.K x))) (he : EM X cl e ma) (hg : Gl X x := by rfl) (hd : (x == ("__debug__" : Str)) = false := by decide) :
    EM X cl (.Compare e [.In] [.Name x p] pos) (MM.opt ma (inTab kvs false)) := by
  refine (pe_cmpR (op_in_kd D0) he (pe_glob hg hm (show RelV (.ref (He.ga X.K x)) (.ref (He.ga X.K x)) from rfl) hd) rfl).zi fun σ H Q q => ?_
  obtain ⟨F, I, env, ex, d, env', s, hq, k⟩ := q
  obtain ⟨a, h1, h2⟩ := opt_of hq
  refine ⟨F, I, env, ex, a, env', s, h1, fun v I1 H1 s1 q1 r1 => ?_⟩
  cases r1 <;> try (cases h2; done)
  rename_i z
  cases h2
  rcases tab_find h z with ⟨a, b⟩ | ⟨q, u, a, b, _⟩
  · rw [a] at k
    exact ⟨z, none, rfl, rfl, b, k _ I1 H1 s1 q1 (.bl _)⟩
  · rw [a] at k
    exact ⟨z, some u, rfl, rfl, b, k _ I1 H1 s1 q1 (.bl _)⟩
theorem em_ninTab {es : Array DictEntry} {n : Nat} (D0 : KDict X.K X.w (He.ga X.K x) es n) (h : tabB X.K x kvs = true) (hm : X.mg x = some (.ref (He.ga X.K x))) (he : EM X cl e ma) (hg : Gl X x := by rfl) (hd : (x == ("__debug__" : Str)) = false := by decide) :
    EM X cl (.Compare e [.NotIn] [.Name x p] pos) (MM.opt ma (inTab kvs true)) := by
  refine (pe_cmpR (op_notIn_kd D0) he (pe_glob hg hm (show RelV (.ref (He.ga X.K x)) (.ref (He.ga X.K x)) from rfl) hd) rfl).zi fun σ H Q q => ?_
  obtain ⟨F, I, env, ex, d, env', s, hq, k⟩ := q
  obtain ⟨a, h1, h2⟩ := opt_of hq
  refine ⟨F, I, env, ex, a, env', s, h1, fun v I1 H1 s1 q1 r1 => ?_⟩
  cases r1 <;> try (cases h2; done)
  rename_i z
  cases h2
  rcases tab_find h z with ⟨a, b⟩ | ⟨q, u, a, b, _⟩
  · rw [a] at k
    exact ⟨z, none, rfl, rfl, b, k _ I1 H1 s1 q1 (.bl _)⟩
  · rw [a] at k
    exact ⟨z, some u, rfl, rfl, b, k _ I1 H1 s1 q1 (.bl _)⟩
theorem em_ixTab {es : Array DictEntry} {n : Nat} (D0 : KDict X.K X.w (He.ga X.K x) es n) (h : tabB X.K x kvs = true) (hf : (kvs.map (·.2)).all flatDv = true) (hm : X.mg x = some (.ref (He.ga X.K x))) (he : EM X cl e ma) (hg : Gl X x := by rfl) (hd : (x == ("__debug__" : Str)) = false := by decide) (hs : PlainIx e := by exact fun _ _ => rfl) :
    EM X cl (.Subscript (.Name x p) e pos) (MM.opt ma (ixTab kvs)) := by
  refine (pe_ix ix_kdict (pe_glob hg hm (show RelV (.ref (He.ga X.K x)) (.ref (He.ga X.K x)) from rfl) hd) he hs).zi fun σ H Q q => ?_
  obtain ⟨F, I, env, ex, d, env', s, hq, k⟩ := q
  obtain ⟨a, h1, h2⟩ := opt_of hq
  refine ⟨F, I, env, ex, a, env', s, h1, fun v I1 H1 s1 q1 r1 => ?_⟩
  cases r1 <;> try (cases h2; done)
  rename_i z
  rcases tab_find h z with ⟨a, b⟩ | ⟨q, u, a, b, r⟩
  · simp only [ixTab, a] at h2
    cases h2
  · simp only [ixTab, a] at h2
    cases h2
    have hq2 : flatDv q.2 = true := by
      refine List.all_eq_true.mp hf q.2 (List.mem_map.mpr ⟨q, List.mem_of_find?_eq_some a, rfl⟩)
    refine ⟨_, z, _, rfl, rfl, ⟨es, n, u, D0.at_, D0.lit, b, r⟩, k _ I1 H1 s1 q1 (rep_dv hq2)⟩
theorem eb_inTab {es : Array DictEntry} {n : Nat} (D0 : KDict X.K X.w (He.ga X.K x) es n) (h : tabB X.K x kvs = true) (hm : X.mg x = some (.ref (He.ga X.K x))) (he : EM X cl e ma) (hg : Gl X x := by rfl) (hd : (x == ("__debug__" : Str)) = false := by decide) :
    EB X cl (.Compare e [.In] [.Name x p] pos) (MM.opt (MM.opt ma (inTab kvs false)) blD) := by
  refine eb_of (pt_cmpR (op_in_kd D0) he (pe_glob hg hm (show RelV (.ref (He.ga X.K x)) (.ref (He.ga X.K x)) from rfl) hd) rfl) fun σ H Q q => ?_
  obtain ⟨F, I, env, ex, d, env', s, hq, k⟩ := q
  obtain ⟨a, h1, h2⟩ := opt_of hq
  refine ⟨F, I, env, ex, a, env', s, h1, fun v I1 H1 s1 q1 r1 => ?_⟩
  cases r1 <;> try (cases h2; done)
  rename_i z
  cases h2
  rcases tab_find h z with ⟨a, b⟩ | ⟨q, u, a, b, _⟩
  · rw [a] at k
    exact ⟨z, none, rfl, rfl, b, k _ I1 H1 s1 q1 (.bl _)⟩
  · rw [a] at k
    exact ⟨z, some u, rfl, rfl, b, k _ I1 H1 s1 q1 (.bl _)⟩
theorem eb_ninTab {es : Array DictEntry} {n : Nat} (D0 : KDict X.K X.w (He.ga X.K x) es n) (h : tabB X.K x kvs = true) (hm : X.mg x = some (.ref (He.ga X.K x))) (he : EM X cl e ma) (hg : Gl X x := by rfl) (hd : (x == ("__debug__" : Str)) = false := by decide) :
    EB X cl (.Compare e [.NotIn] [.Name x p] pos) (MM.opt (MM.opt ma (inTab kvs true)) blD) := by
  refine eb_of (pt_cmpR (op_notIn_kd D0) he (pe_glob hg hm (show RelV (.ref (He.ga X.K x)) (.ref (He.ga X.K x)) from rfl) hd) rfl) fun σ H Q q => ?_
  obtain ⟨F, I, env, ex, d, env', s, hq, k⟩ := q
  obtain ⟨a, h1, h2⟩ := opt_of hq
  refine ⟨F, I, env, ex, a, env', s, h1, fun v I1 H1 s1 q1 r1 => ?_⟩
  cases r1 <;> try (cases h2; done)
  rename_i z
  cases h2
  rcases tab_find h z with ⟨a, b⟩ | ⟨q, u, a, b, _⟩
  · rw [a] at k
    exact ⟨z, none, rfl, rfl, b, k _ I1 H1 s1 q1 (.bl _)⟩
  · rw [a] at k
    exact ⟨z, some u, rfl, rfl, b, k _ I1 H1 s1 q1 (.bl _)⟩
end
end Zf

set_option Elab.async false
set_option linter.all false
set_option maxRecDepth 100000
set_option maxHeartbeats 1000000
/-! Zf, part 13: is of truths, pop(), insert, list(range(..)). -/
namespace Zf
open PySem PySem.Spec L2
section
variable {X : Cx} {cl : Nat → Addr} {a b e : Expr} {ma mb : MM D} {x : Str} {pos p apos cpos : Pos}
def isBD : D → D → Option D
  | .bl a, .bl b => some (.bl (decide (a = b)))
  | _, _ => none
def notBD : D → D → Option D
  | .bl a, .bl b => some (.bl (!decide (a = b)))
  | _, _ => none
theorem ok_isB {K : PySem.W.Frag} : OK2 K cl rIsB isBD := fun I H v w d1 d2 d Q e r1 r2 hg k => by
  cases r1 <;> cases r2 <;> try (cases hg; done)
  cases hg
  exact ⟨_, _, rfl, rfl, k _ _ _ (Gr.refl e) (.bl _)⟩
theorem ok_notB {K : PySem.W.Frag} : OK2 K cl rNotB notBD := fun I H v w d1 d2 d Q e r1 r2 hg k => by
  cases r1 <;> cases r2 <;> try (cases hg; done)
  cases hg
  exact ⟨_, _, rfl, rfl, k _ _ _ (Gr.refl e) (.bl _)⟩
/-! own.pop() -/
def mpop0 (i : Nat) : MM D := fun env => match env[i]? with
  | some (.mu q (.ml ds)) => (match ds[ds.length - 1]? with
    | some d => if ds.length ≤ 1000000 then some (d, env.set i (.mu q (.ml ds.dropLast))) else none
    | none => none)
  | _ => none
theorem RepL.dropLast {K : PySem.W.Frag} {I : Hp} {vs : List V} {ds : List D} (r : RepL K cl I vs ds) : RepL K cl I vs.dropLast ds.dropLast := by
  induction vs generalizing ds with
  | nil => cases r; exact .nil
  | cons v vs ih =>
    cases r with
    | cons h r =>
      cases r with
      | nil => exact .nil
      | cons h2 r2 => exact .cons h (ih (.cons h2 r2))
theorem em_pop0 (i : Nat) (hN : X.N[i]? = some x := by rfl) (hv : Vis X.env.scope x := by first | exact Or.inl rfl | exact Or.inr (Or.inl rfl) | exact Or.inr (Or.inr rfl)) (hd : (x == ("__debug__" : Str)) = false := by decide)
    (hcd : (x == ("__classdict__" : Str)) = false := by decide)
    (hbase : attributeBase (.Name x p) "pop" X.env (eval (.Name x p) X.env) = eval (.Name x p) X.env := by rfl) (hline : (apos.endLine == cpos.line) = true := by rfl) :
    EM X cl (.Call (.Attribute (.Name x p) "pop" apos) [] [] cpos) (mpop0 i) := by
  refine (pe_bm0 PySem.F.plainAttrs_list PySem.F.slot_list_pop PySem.F.type_list_pop mt_pop (pe_var hN hv hd hcd) hbase hline).zi fun σ H Q q => ?_
  obtain ⟨F, I, env, ex, d, env', s, hm, k⟩ := q
  unfold mpop0 at hm
  split at hm
  · rename_i q0 ds h0
    split at hm
    · rename_i d2 h3
      split at hm
      · rename_i hlen
        cases hm
        obtain ⟨f, s'⟩ := id s
        obtain ⟨v, hv, ⟨l, vs, rfl, hf, hl, hr⟩, hn⟩ := s'.lookM h0
        refine ⟨_, hv, .inl ⟨rfl, vs, .inl (.inl hl)⟩, ?_⟩
        obtain ⟨u, hu, ru⟩ := hr.get h3
        refine ⟨l, vs, u, rfl, rfl, hl, by rw [hr.length]; exact hu, ?_⟩
        refine k u I _ ⟨f, s'.change h0 (fun a ha => upd_ne fun z => ha (by rw [hf, z]; simp)) fun v hv => ?_⟩ (Ex.refl _) ru
        rw [show σ[i]? = some (some (V.ref l)) from by assumption] at hv
        cases hv
        exact ⟨l, _, rfl, hf, upd_same, hr.dropLast⟩
      · cases hm
    · cases hm
  · cases hm
/-! own.insert(i, e) -/
def minsert (i : Nat) (m1 m2 : MM D) : MM D := fun env => match env[i]? with
  | some (.mu _ (.ml _)) => (match m1 env with
    | some (.int j, e1) => (match m2 e1 with
      | some (d, e2) => (match e2[i]? with
        | some (.mu q (.ml ds)) => if 0 ≤ j ∧ j < 2 ^ 62 ∧ ds.length < 1000000 then some (.non, e2.set i (.mu q (.ml (ds.take j.toNat ++ [d] ++ ds.drop j.toNat)))) else none
        | _ => none)
      | none => none)
    | _ => none)
  | _ => none
theorem em_insert (i : Nat) (ha : EM X cl a ma) (hb : EM X cl b mb) (hN : X.N[i]? = some x := by rfl) (hv : Vis X.env.scope x := by first | exact Or.inl rfl | exact Or.inr (Or.inl rfl) | exact Or.inr (Or.inr rfl)) (hd : (x == ("__debug__" : Str)) = false := by decide)
    (hcd : (x == ("__classdict__" : Str)) = false := by decide)
    (hbase : attributeBase (.Name x p) "insert" X.env (eval (.Name x p) X.env) = eval (.Name x p) X.env := by rfl)
    (hfew : ((backTo cpos (starEach [a, b] X.env)).all (fun x => !x.1) && (backToKw cpos (keywordEach [] X.env)).all (fun x => x.1.isSome)
      && decide ([a, b].length + ([] : List Keyword).length + (if ([] : List Keyword).isEmpty then 0 else 1) < 30)) = true := by rfl)
    (hline : (apos.endLine == cpos.line) = true := by rfl) (hs : starEach [a, b] X.env = (false, eval a X.env) :: starEach [b] X.env := by rfl) (hs2 : starEach [b] X.env = (false, eval b X.env) :: starEach [] X.env := by rfl) (hplain : (backTo cpos (starEach [b] X.env)).any (·.1) = false := by rfl) :
    EM X cl (.Call (.Attribute (.Name x p) "insert" apos) [a, b] [] cpos) (minsert i ma mb) := by
  refine (pe_bm PySem.F.plainAttrs_list PySem.F.slot_list_insert PySem.F.type_list_insert mt_insert (pe_var hN hv hd hcd) (pa_cons ha (pa_cons hb pa_nil hs2) hs) hbase hfew hline hs hplain).zi fun σ H Q q => ?_
  obtain ⟨F, I, env, ex, d, env', s, hm, k⟩ := q
  unfold minsert at hm
  split at hm
  · rename_i p0 ds0 h0
    split at hm
    · rename_i j e1 h1
      split at hm
      · rename_i d2 e2 h2
        split at hm
        · rename_i q0 ds h3
          split at hm
          · rename_i hlen
            cases hm
            obtain ⟨f, s'⟩ := id s
            obtain ⟨v, hv, ⟨l, vs, rfl, hf, hl, hr⟩, hn⟩ := s'.lookM h0
            refine ⟨_, hv, .inl ⟨rfl, vs, .inl (.inl hl)⟩, F, I, env, ex, .int j, e1, s, h1, fun w I1 H1 s1 q1 r1 => ?_⟩
            cases r1
            refine ⟨F, I1, e1, ex, d2, e2, s1, h2, fun w2 I2 H2 s2 q2 r2 => ?_⟩
            obtain ⟨f2, s2⟩ := s2
            obtain ⟨v', hv', ⟨l', vs', e', hf', hl', hr'⟩, hn'⟩ := s2.lookM h3
            rw [hv] at hv'
            cases hv'
            cases e'
            refine ⟨l, vs', j, w2, rfl, rfl, hl', by rw [hr'.length]; exact Nat.lt_of_lt_of_le hlen.2.2 (by decide), hlen.1, by omega, ?_⟩
            refine k .non I2 _ ⟨f2, s2.change h3 (fun a ha => upd_ne fun z => ha (by rw [hf', z]; simp)) fun v hv => ?_⟩ (q1.trans q2) .non
            rw [show σ[i]? = some (some (V.ref l)) from by assumption] at hv
            cases hv
            exact ⟨l, _, rfl, hf', upd_same, ((hr'.take _).append (.cons r2 .nil)).append (hr'.drop _)⟩
          · cases hm
        · cases hm
      · cases hm
    · cases hm
  · cases hm
/-! list(range(a, b)) -/
def rngF : D → D → Option (List D)
  | .int i, .int j => if -(2 ^ 60) ≤ i ∧ i ≤ 2 ^ 60 ∧ -(2 ^ 60) ≤ j ∧ j ≤ 2 ^ 60 ∧ (j - i).toNat ≤ 1000000 then some (rngD i (j - i).toNat) else none
  | _, _ => none
theorem rep_rg {K : PySem.W.Frag} {I : Hp} (i j : Int) : RepL K cl I (rgV i j) (rngD i (j - i).toNat) := by
  unfold rgV rngD
  generalize List.range (j - i).toNat = l
  induction l with
  | nil => exact .nil
  | cons n l ih => exact .cons (.int _) ih
theorem ef_rg2 {p2 pos2 : Pos} (hml : X.mg "list" = none) (hmr : X.mg "range" = none) (ha : EM X cl a ma) (hb : EM X cl b mb) (hc : X.calm = true := by rfl) (hgl : Gl X "list" := by rfl) (hgr : Gl X "range" := by rfl)
    (na : starEach [a, b] X.env = (false, eval a X.env) :: starEach [b] X.env := by rfl) (nb : starEach [b] X.env = (false, eval b X.env) :: starEach [] X.env := by rfl) (hp : (backTo pos2 (starEach [b] X.env)).any (·.1) = false := by rfl)
    (nr : starEach [.Call (.Name "range" p2) [a, b] [] pos2] X.env = (false, eval (.Call (.Name "range" p2) [a, b] [] pos2) X.env) :: starEach [] X.env := by rfl) :
    EF X cl (.Call (.Name "list" p) [.Call (.Name "range" p2) [a, b] [] pos2] [] pos) (fop2 rngF ma mb) := by
  refine (pe_listRg hc hgl hml (prg_2 hgr hmr ha hb na nb hp) nr).zi fun σ H Q h => ?_
  obtain ⟨F, I, env, ex, d, env', s, hm, k⟩ := h
  obtain ⟨x, e1, y, h1, h2, h3⟩ := fop2_of hm
  refine ⟨F, I, env, ex, x, e1, s, h1, fun v I1 H1 s1 q1 r1 => ⟨F, I1, e1, ex, y, env', s1, h2, fun w I2 H2 s2 q2 r2 => ?_⟩⟩
  have r1 := r1.ex q2
  cases r1 <;> cases r2 <;> try (cases h3; done)
  rename_i i j
  simp only [rngF] at h3
  split at h3
  · rename_i hb
    cases h3
    refine ⟨i, j, rfl, rfl, ⟨by omega, by omega, by omega, by omega, by omega⟩, fun p hp => ?_⟩
    exact k p _ I2 _ (s2.lay hp) (q1.trans q2) (rep_rg i j)
  · cases h3
end
theorem z_mpop0 (i : Nat) (env : En) : mpop0 i env = (match env[i]? with
  | some (.mu q (.ml ds)) => (match ds[ds.length - 1]? with
    | some d => if ds.length ≤ 1000000 then some (d, env.set i (.mu q (.ml ds.dropLast))) else none
    | none => none)
  | _ => none) := rfl
theorem blD_b {b : Bool} : blD (.bl b) = some b := rfl
theorem truD_b {b : Bool} : truD (.bl b) = some b := rfl
theorem truD_i {i : Int} : truD (.int i) = some (i != 0) := rfl
theorem truD_l {xs : List D} : truD (.lst xs) = some (!xs.isEmpty) := rfl
theorem truD_t {xs : List D} : truD (.tup xs) = some (!xs.isEmpty) := rfl
theorem intL_i {i : Int} : intL [.int i] = some (.int i) := rfl
theorem intL_b {b : Bool} : intL [.bl b] = some (.int (if b then 1 else 0)) := rfl
theorem seqD_l {xs : List D} : seqD (.lst xs) = some xs := rfl
theorem seqD_t {xs : List D} : seqD (.tup xs) = some xs := rfl
theorem seqD_s {z : Str} : seqD (.str z) = some (signsD z) := rfl
theorem seqD_c {ns : List Int} : seqD (.scr ns) = some (ns.map .int) := rfl
theorem negD_i {i : Int} : negD (.int i) = some (.int (-i)) := rfl
theorem intD_i {i : Int} : intD (.int i) = some (some i) := rfl
theorem out_l {ds : List D} : Mu.out (.ml ds) = some (.lst ds) := rfl
theorem out_d {ds : List (Key × D)} : Mu.out (.md ds) = some (.dct ds) := rfl
end Zf

set_option Elab.async false
set_option linter.all false
set_option maxRecDepth 100000
set_option maxHeartbeats 1000000
/-! Zf, part 14: x in (.., ..) of data of any depth. -/
namespace Zf
open PySem PySem.Spec L2 PyProof.Rows
section
variable {X : Cx} {cl : Nat → Addr}
def rInT (K : PySem.W.Frag) : R2 := fun x y H Q => ∃ d ds, Dp K H x d ∧ Dp K H y (.tuple ds) ∧ SeqAt.shaped d = true ∧ SeqAt.shaped (.tuple ds) = true ∧ Q (.bl (ds.any fun z => PyData.eqv z d)) H
theorem op_inT {k : Nat} (hr : Room k X.A) : OpR X (compareOp .In) (rInT X.K) := by
  have hu : X.A.units + 65 < cLine := by have := hr.un; omega
  intro pins s σ H x y v u Q I rx ry h
  obtain ⟨d, ds, hd, he, sd, se, q⟩ := h
  obtain ⟨as, r1⟩ := Dp.reads I d x v hd rx
  obtain ⟨bs, r2⟩ := Dp.reads I (.tuple ds) y u he ry
  exact SeqAt.in_tuple_reads r2 r1 (SeqAt.canLay_of_shaped se) (SeqAt.canLay_of_shaped sd) (room_in_shaped sd hu) ⟨.bl _, H, I, rfl, q⟩
def inTD (a b : D) : Option D := match toP a, toP b with
  | some p, some (.tuple qs) => if (SeqAt.shaped p && SeqAt.shaped (.tuple qs)) = true then some (.bl (qs.any fun z => PyData.eqv z p)) else none
  | _, _ => none
theorem ok_inT {K : PySem.W.Frag} : OK2 K cl (rInT K) inTD := fun I H v w d1 d2 d Q e r1 r2 hg k => by
  unfold inTD at hg
  split at hg
  · rename_i p qs h1 h2
    split at hg
    · rename_i h3
      cases hg
      rw [Bool.and_eq_true] at h3
      exact ⟨p, qs, r1.dp e h1, r2.dp e h2, h3.1, h3.2, k _ _ _ (Gr.refl e) (.bl _)⟩
    · cases hg
  · cases hg
end
end Zf

set_option Elab.async false
set_option linter.all false
set_option maxRecDepth 100000
set_option maxHeartbeats 1000000
/-! Zf, part 15: xs[::-1]; isinstance of one of some kinds. -/
namespace Zf
open PySem PySem.Spec L2 PyProof.Rows
section
variable {X : Cx} {cl : Nat → Addr} {e : Expr} {ma : MM D} {p pos : Pos}
def revL : List D → Option (List D)
  | [.lst xs] => some xs.reverse
  | _ => none
theorem RepL.reverse {K : PySem.W.Frag} {I : Hp} {vs : List V} {ds : List D} (r : RepL K cl I vs ds) : RepL K cl I vs.reverse ds.reverse := by
  induction vs generalizing ds with
  | nil => cases r; exact .nil
  | cons v vs ih =>
    cases r with
    | cons h r =>
      rw [List.reverse_cons, List.reverse_cons]
      exact (ih r).append (.cons h .nil)
theorem ef_rev {k : Nat} {p1 p2 p3 : Pos} (he : EM X cl e ma) : EF X cl (.Subscript e (.Slice none none (some (.UnaryOp .USub (.Constant (.int 1) k p1) p2)) p3) pos) (MM.opt (mcons ma mnil) revL) := by
  refine (pe_revL he).zi fun σ H Q h => ?_
  obtain ⟨F, I, env, ex, d, env', s, hm, kk⟩ := h
  obtain ⟨ds, h1, h2⟩ := opt_of hm
  obtain ⟨a, e1, b, h3, h4, rfl⟩ := mcons_of h1
  cases h4
  refine ⟨F, I, env, ex, a, env', s, h3, fun v I1 H1 s1 q1 r1 => ?_⟩
  unfold revL at h2
  split at h2
  · rename_i xs hx
    cases h2
    cases hx
    cases r1 with
    | lst hs r => exact ⟨_, _, rfl, rl hs s1.ih, fun p hp => kk p _ I1 _ (s1.lay hp) q1 r.reverse⟩
  · cases h2
end
end Zf

set_option Elab.async false
set_option linter.all false
set_option maxRecDepth 100000
set_option maxHeartbeats 1000000
/-! Zf, part 16: instances of the program's own classes: made, their attributes, isinstance. -/
namespace Zf
open PySem PySem.Spec L2 PyProof.Rows
section
variable {X : Cx} {cl : Nat → Addr} {e a b : Expr} {ma : MM D} {p pos : Pos} {x : Str}
/-! ### attributes -/
def lkD (f : Str) (fs : List (Str × D)) : Option D := fs.lookup f
def attrD (cs : List Nat) (f : Str) : D → Option D
  | .obj c fs => if c ∈ cs then lkD f fs else none
  | _ => none
theorem RepF.look {K : PySem.W.Frag} {I : Hp} {f : Str} {d : D} : ∀ {vs : List (Str × V)} {ds : List (Str × D)}, RepF K cl I vs ds → ds.lookup f = some d → ∃ v, vs.lookup f = some v ∧ Rep K cl I v d
  | _, _, .nil, h => by cases h
  | _, _, .cons (k := k) (v := v) (d := d') (vs := vs) (ds := ds) r rs, h => by
    rw [List.lookup_cons] at h ⊢
    cases q : f == k with
    | true => rw [q] at h; cases h; exact ⟨v, rfl, r⟩
    | false => rw [q] at h; exact RepF.look rs h
theorem em_attr (cs : List Nat) (f : Str) (hc : ∀ c ∈ cs, Cls X.K (cl c) ∧ NoAttr X.K (cl c) f) (he : EM X cl e ma) (hb : attributeBase e f X.env (eval e X.env) = eval e X.env := by rfl) : EM X cl (.Attribute e f pos) (MM.opt ma (attrD cs f)) := by
  refine (pe_fld he hb).zi fun σ H Q h => ?_
  obtain ⟨F, I, env, ex, d, env', s, hm, k⟩ := h
  obtain ⟨a, h1, h2⟩ := opt_of hm
  refine ⟨F, I, env, ex, a, env', s, h1, fun v I1 H1 s1 q1 r1 => ?_⟩
  unfold attrD at h2
  split at h2
  · rename_i c fs
    split at h2
    · rename_i hcm
      cases r1 with
      | obj h3 r =>
        obtain ⟨u, hu, ru⟩ := RepF.look r h2
        obtain ⟨c1, c2⟩ := hc c hcm
        exact ⟨_, _, _, _, u, rfl, s1.ih _ _ h3, c1, c2, hu, k u I1 H1 s1 q1 ru⟩
    · cases h2
  · cases h2
/-- an attribute of the object that is being made -/
def mattrO (i c : Nat) (f : Str) : MM D := fun env => match env[i]? with
  | some (.mu _ (.ob c' fs)) => if c' = c then (lkD f fs).map fun d => (d, env) else none
  | _ => none
theorem em_attrO (i c : Nat) (f : Str) {np : Pos} (hc : Cls X.K (cl c) ∧ NoAttr X.K (cl c) f) (hN : X.N[i]? = some x := by rfl) (hv : Vis X.env.scope x := by first | exact Or.inl rfl | exact Or.inr (Or.inl rfl) | exact Or.inr (Or.inr rfl)) (hd : (x == ("__debug__" : Str)) = false := by decide)
    (hcd : (x == ("__classdict__" : Str)) = false := by decide) (hb : attributeBase (.Name x np) f X.env (eval (.Name x np) X.env) = eval (.Name x np) X.env := by rfl) : EM X cl (.Attribute (.Name x np) f pos) (mattrO i c f) := by
  refine (pe_fld (pe_var hN hv hd hcd) hb).zi fun σ H Q h => ?_
  obtain ⟨F, I, env, ex, d, env', s, hm, k⟩ := h
  unfold mattrO at hm
  split at hm
  · rename_i q c' fs h0
    split at hm
    · rename_i hcc
      obtain ⟨d', h1, h2⟩ := Option.map_eq_some_iff.mp hm
      cases h2
      subst hcc
      obtain ⟨f0, s'⟩ := id s
      obtain ⟨v, hv, ⟨l, dx, vs, rfl, hf, hl, hr⟩, hn⟩ := s'.lookM h0
      obtain ⟨u, hu, ru⟩ := RepF.look hr h1
      exact ⟨_, hv, _, _, _, _, u, rfl, hl, hc.1, hc.2, hu, k u I H s (Ex.refl _) ru⟩
    · cases hm
  · cases hm
/-! ### self.f = e -/
def putD (f : Str) (d : D) : List (Str × D) → List (Str × D)
  | [] => [(f, d)]
  | (g, x) :: r => if g = f then (g, d) :: r else (g, x) :: putD f d r
theorem RepF.put {K : PySem.W.Frag} {I : Hp} {f : Str} {v : V} {d : D} (r : Rep K cl I v d) : ∀ {vs : List (Str × V)} {ds : List (Str × D)}, RepF K cl I vs ds → RepF K cl I (putF f v vs) (putD f d ds)
  | _, _, .nil => .cons r .nil
  | _, _, .cons (k := k) (v := v') (d := d') (vs := vs) (ds := ds) h rs => by
    show RepF K cl I (if k = f then (k, v) :: vs else (k, v') :: putF f v vs) (if k = f then (k, d) :: ds else (k, d') :: putD f d ds)
    by_cases q : k = f
    · rw [if_pos q, if_pos q]; exact .cons r rs
    · rw [if_neg q, if_neg q]; exact .cons h (RepF.put r rs)
theorem RepF.length {K : PySem.W.Frag} {I : Hp} : ∀ {vs : List (Str × V)} {ds : List (Str × D)}, RepF K cl I vs ds → vs.length = ds.length
  | _, _, .nil => rfl
  | _, _, .cons _ rs => by simp [RepF.length rs]
def sattr (i c : Nat) (f : Str) (m : MM D) : SM := fun env => match m env with
  | some (d, e1) => (match e1[i]? with
    | some (.mu q (.ob c' fs)) => if c' = c ∧ fs.length < 900 then some (.nx (e1.set i (.mu q (.ob c' (putD f d fs))))) else none
    | _ => none)
  | none => none
theorem es_attr (i c : Nat) {f : Str} {np pos' : Pos} {mv : MM D} (hc : Cls X.K (cl c) ∧ NoAttr X.K (cl c) f) (hv : EM X cl e mv) (hN : X.N[i]? = some x := by rfl) (hvs : Vis X.env.scope x := by first | exact Or.inl rfl | exact Or.inr (Or.inl rfl) | exact Or.inr (Or.inr rfl)) (hd : (x == ("__debug__" : Str)) = false := by decide)
    (hcd : (x == ("__classdict__" : Str)) = false := by decide) (hs : swapsWith e (some (.Attribute (.Name x np) f pos')) pos.line X.env = pure false := by rfl) : ES X cl (.Assign [.Attribute (.Name x np) f pos'] e pos) (sattr i c f mv) := by
  refine (ps_fld (pe_var hN hvs hd hcd) hv hs).zi fun Dn σ H q => ?_
  obtain ⟨F, I, env, ex, out, s, hm, k⟩ := q
  unfold sattr at hm
  split at hm
  · rename_i d e1 h1
    split at hm
    · rename_i q0 c' fs h2
      split at hm
      · rename_i hcc
        cases hm
        refine ⟨F, I, env, ex, d, e1, s, h1, fun w I1 H1 s1 q1 r1 => ?_⟩
        obtain ⟨f1, s1'⟩ := id s1
        obtain ⟨v, hv, ⟨l, dx, vs, rfl, hf, hl, hr⟩, hn⟩ := s1'.lookM h2
        obtain ⟨rfl, hlen⟩ := hcc
        refine ⟨_, hv, _, _, dx, vs, rfl, hl, hc.1, hc.2, by rw [RepF.length hr]; omega, ?_⟩
        refine k σ I1 _ ⟨f1, s1'.change h2 (fun a ha => upd_ne fun z => ha (by rw [hf, z]; simp)) fun v hv' => ?_⟩ q1
        rw [hv] at hv'
        cases hv'
        exact ⟨l, dx, _, rfl, hf, upd_same, RepF.put r1 hr⟩
      · cases hm
    · cases hm
  · cases hm
/-! ### keywords -/
theorem _root_.L2.PK.zi {kws : List Keyword} {t t' : TA} (h : PK X kws t) (hi : ∀ σ H Q, t' σ H Q → t σ H Q) : PK X kws t' := ⟨fun pos pins s σ H Q I hw => h.run pos pins s σ H Q I (hi σ H Q hw)⟩
abbrev EK (X : Cx) (cl : Nat → Addr) (kws : List Keyword) (m : MM (List D)) : Prop := PK X kws (tL X.K cl m)
theorem ek_nil : EK X cl [] mnil := pk_nil.zi fun σ H Q h => by
  obtain ⟨F, I, env, ex, as, env', s, hm, k⟩ := h
  cases hm
  exact k [] I H s (Ex.refl _) .nil
theorem ek_cons {nm : Option Str} {kpos : Pos} {kws : List Keyword} {mr : MM (List D)} (ha : EM X cl e ma) (hr : EK X cl kws mr) : EK X cl (⟨nm, e, kpos⟩ :: kws) (mcons ma mr) := (pk_cons ha hr).zi fun σ H Q h => by
  obtain ⟨F, I, env, ex, as, env', s, hm, k⟩ := h
  obtain ⟨d, e1, r, h1, h2, rfl⟩ := mcons_of hm
  exact ⟨F, I, env, ex, d, e1, s, h1, fun v I1 H1 s1 q1 r1 => ⟨F, I1, e1, ex, r, env', s1, h2, fun vs I2 H2 s2 q2 r2 => k (v :: vs) I2 H2 s2 (q1.trans q2) (.cons (r1.ex q2) r2)⟩⟩
/-! ### C(e, .., k = v, ..) -/
/-- an object is made: np values, nk keywords; arr puts them as the parameters stand -/
def mmake (c np nk : Nat) (arr : List D → List D → List D) (F : FM) (ma mk : MM (List D)) : MM D := fun env => match ma env with
  | some (ds, e1) => (match mk e1 with
    | some (zs, e2) => if ds.length = np ∧ zs.length = nk then (match F (.mu true (.ob c []) :: (arr ds zs).map .im) with
      | some (.non, .mu true (.ob c' fs) :: _) => some (.obj c' fs, e2)
      | _ => none) else none
    | none => none)
  | none => none
/-- a class whose objects may be made with np values and the keywords ks -/
def Mkc (P : Program) (w : World) (K : PySem.W.Frag) (mg : Str → Option Value) (base : Heap) (cl : Nat → Addr) (x : Str) (k n c np : Nat) (ks : List Str) (arr : List D → List D → List D) (F : FM) : Prop :=
  ∃ (f : Addr) (fd : FuncData) (ps : List Str) (g : List Value → List Value → List Value) (gV : List V → List V → List V), Mk K (cl c) f ∧ FnOk P w K mg base CX0 k f fd ps (spM K cl n F) ∧ mg x = some (.ref (cl c)) ∧ KBn K fd ps (np + 1) ks g gV ∧
    ∀ (I : Hp) (u : V) (vs zs : List V) (ds es : List D), RepL K cl I vs ds → RepL K cl I zs es → ds.length = np → es.length = ks.length → ∃ ws, gV (u :: vs) zs = u :: ws ∧ RepL K cl I ws (arr ds es) ∧ ws.length + 1 = n
theorem em_make {es : List Expr} {kws : List Keyword} {k n c np : Nat} {ks : List Str} {arr : List D → List D → List D} {Fi : FM} {ma mk : MM (List D)} (M : Mkc X.prog X.w X.K X.mg X.base cl x k n c np ks arr Fi) (hr : Room (k + 1) X.A) (ha : EA X cl (e :: es) ma) (hkw : EK X cl kws mk) (hg : Gl X x := by rfl)
    (hall : (backToKw pos (keywordEach kws X.env)).all (·.1.isSome) = true := by rfl) (hks : (backToKw pos (keywordEach kws X.env)).filterMap (·.1) = ks := by rfl)
    (hdb : (x == ("__debug__" : Str)) = false := by decide) (he : starEach (e :: es) X.env = (false, eval e X.env) :: starEach es X.env := by rfl)
    (hpl : ((backTo pos (starEach (e :: es) X.env)).any (·.1) || (backToKw pos (keywordEach kws X.env)).any (·.1.isNone)) = false := by rfl) :
    EM X cl (.Call (.Name x p) (e :: es) kws pos) (mmake c np ks.length arr Fi ma mk) := by
  obtain ⟨f, fd, ps, g, gV, hM, hF, hm, hb, hgv⟩ := M
  refine (pe_makeN hM hF hr hg hm hb pass0 ha hkw hall hks hdb he hpl).zi fun σ H Q h => ?_
  obtain ⟨F, I, env, ex, d, env', s, hq, k⟩ := h
  unfold mmake at hq
  split at hq
  · rename_i ds e1 h1
    split at hq
    · rename_i zs e2 h2
      split at hq
      · rename_i hlen
        split at hq
        · rename_i c' fs rest hFi
          cases hq
          refine ⟨F, I, env, ex, ds, e1, s, h1, fun vs I1 H1 s1 q1 r1 => ⟨F, I1, e1, ex, zs, env', s1, h2, fun ws I2 H2 s2 q2 r2 => ⟨by rw [r1.length]; exact hlen.1, by rw [r2.length]; exact hlen.2, fun y dx ny ndx ne => ?_⟩⟩⟩
          obtain ⟨us, hus, hru, hlu⟩ := hgv I2 (.ref y) vs ws ds zs (r1.ex q2) r2 hlen.1 hlen.2
          rw [hus]
          have iy : I2 y = none := s2.ih.none ny
          have nyd : y ≠ dx := Ne.symm ne
          have hy0 : upd H2 dx (.own y) y = none := by rw [upd_ne nyd]; exact ny
          have sub : Ex H2 (upd (upd H2 dx (.own y)) y (.ins (cl c) dx [])) := (Ex.new ndx).trans (Ex.new hy0)
          have noMu : ∀ (i : Nat) (q : Bool) (m : Mu), ((.mu true (.ob c []) :: (arr ds zs).map Sl.im : En))[i]? = some (Sl.mu q m) → i = 0 ∧ q = true ∧ m = .ob c [] := fun i q m hi => by
            cases i with
            | zero => cases hi; exact ⟨rfl, rfl, rfl⟩
            | succ i =>
              have hi : ((arr ds zs).map Sl.im)[i]? = some (Sl.mu q m) := hi
              rw [List.getElem?_map] at hi
              cases z : (arr ds zs)[i]? with
              | none => rw [z] at hi; cases hi
              | some d => rw [z] at hi; cases hi
          refine ⟨I2, .mu true (.ob c []) :: (arr ds zs).map .im, fun i => if i = 0 then [y] else [], .non, _, by rw [List.length_cons]; exact hlu, by rw [List.length_cons, List.length_map, ← hru.length]; exact hlu, ⟨fun i d hi => ?_, fun i q m hi => ?_, fun i j q m q' m' a hij hi hj => ?_⟩, fun i q m hi => (noMu i q m hi).2.1, s2.ih.trans sub, fun i hi => ?_, hFi, fun v I' H' x1 x2 x3 x4 x5 x6 => ?_⟩
          · cases i with
            | zero => cases hi
            | succ i =>
              have hi : ((arr ds zs).map Sl.im)[i]? = some (Sl.im d) := hi
              rw [List.getElem?_map] at hi
              cases z : (arr ds zs)[i]? with
              | none => rw [z] at hi; cases hi
              | some d' =>
                rw [z] at hi
                cases hi
                obtain ⟨u, hu, ru⟩ := hru.get z
                exact ⟨u, hu, ru⟩
          · obtain ⟨rfl, rfl, rfl⟩ := noMu i q m hi
            refine ⟨⟨.ref y, rfl, y, dx, [], rfl, rfl, upd_same, .nil⟩, fun a ha => ?_⟩
            have : a = y := by simpa using ha
            rw [this]; exact iy
          · exact absurd ((noMu i q m hi).1.trans (noMu j q' m' hj).1.symm) hij
          · cases i with
            | zero => cases hi
            | succ i =>
              have hi : ((arr ds zs).map Sl.im)[i]? = some Sl.no := hi
              rw [List.getElem?_map] at hi
              cases z : (arr ds zs)[i]? with
              | none => rw [z] at hi; cases hi
              | some d' => rw [z] at hi; cases hi
          · cases x6
            refine ⟨rfl, ?_⟩
            obtain ⟨m', u, n1, n2, n3⟩ := x5 0 true (.ob c []) rfl
            cases n1
            cases n2
            obtain ⟨l, dx', vs', ey, ef, hl, hr'⟩ := n3
            cases ey
            have i'y : I' y = none := x3 y (by rw [upd_same]; simp) iy
            have gr : Gr I2 H2 (upd I' y (.ins (cl c') dx' vs')) H' := by
              refine ⟨x1.trans (Ex.new i'y), fun a o ha => ?_, fun a o ha => ?_, fun a h3 h4 => ?_⟩
              · have hay : a ≠ y := fun z => by rw [z, ny] at ha; cases ha
                refine x4 a o (sub a o ha) fun i q m hi hm => ?_
                obtain ⟨rfl, _, _⟩ := noMu i q m hi
                exact hay (by simpa using hm)
              · by_cases q : a = y
                · rw [q, upd_same] at ha
                  cases ha
                  rw [q]; exact hl
                · rw [upd_ne q] at ha
                  exact x2 a o ha
              · have hay : a ≠ y := fun z => h3 (z ▸ ny)
                have had : a ≠ dx := fun z => h3 (z ▸ ndx)
                rw [upd_ne hay]
                exact x3 a (by rw [upd_ne hay, upd_ne had]; exact h3) h4
            exact k (.ref y) _ H' (s2.gr gr) (q1.trans (q2.trans gr.i)) (.obj upd_same (RepF.ex (Ex.new i'y) hr'))
        · cases hq
      · cases hq
    · cases hq
  · cases hq
/-! ### isinstance of an own class -/
/-- what isinstance asks of the classes: the i-th of cs is no other one -/
def isiB (K : PySem.W.Frag) (cl : Nat → Addr) (c : Nat) (cs : List Nat) : Bool := kinds7.all (fun t => decide (PySem.W.kitOne K (.type t) (.ref (cl c)) = some false)) && cs.all fun c' => decide (PySem.W.kitOne K (.ref (cl c')) (.ref (cl c)) = some (decide (c' = c))) &&
  (He.eqO (PySem.W.findIn K (.ref (cl c')) "__class__") (some (some (.builtin "object.__class__"))) && (He.eqO (PySem.W.specialIn K (.builtin "object.__class__") "__get__") (some (some (.builtin "getset_descriptor.__get__"))) && (decide (PySem.W.takesIn K (.builtin "object.__class__") = some true) && decide (PySem.W.mroIn K (cl c') (.type "object") = some true))))
def isiC (c : Nat) (cs : List Nat) : D → Option D
  | .obj c' _ => if c' ∈ cs then some (.bl (decide (c' = c))) else none
  | d => (typeN d).map fun _ => .bl false
theorem em_isiC (c : Nat) (cs : List Nat) {n : Str} {p2 : Pos} (hm : X.mg "isinstance" = none) (hmC : X.mg n = some (.ref (cl c))) (hB : isiB X.K cl c cs = true) (hcl : ∀ c' ∈ cs, Cls X.K (cl c')) (he : EM X cl e ma)
    (hg : Gl X "isinstance" := by rfl) (hgT : Gl X n := by rfl) (hdT : (n == ("__debug__" : Str)) = false := by decide)
    (hs1 : starEach [e, .Name n p2] X.env = (false, eval e X.env) :: starEach [.Name n p2] X.env := by rfl) (hs2 : starEach [.Name n p2] X.env = (false, eval (.Name n p2) X.env) :: starEach [] X.env := by rfl)
    (hpl : (backTo pos (starEach [.Name n p2] X.env)).any (·.1) = false := by rfl) :
    EM X cl (.Call (.Name "isinstance" p) [e, .Name n p2] [] pos) (MM.opt ma (isiC c cs)) := by
  unfold isiB at hB
  rw [Bool.and_eq_true, List.all_eq_true, List.all_eq_true] at hB
  obtain ⟨hB1, hB2⟩ := hB
  refine (pe_callB call_isi hg hm PyProof.Rows.boot_isinstance (pa_cons he (pa_cons (pe_glob hgT hmC (show RelV (.ref (cl c)) (.ref (cl c)) from rfl) hdT) pa_nil hs2) hs1) (by decide) (by decide) hs1 hpl).zi fun σ H Q q => ?_
  obtain ⟨F, I, env, ex, d, env', s, hq, k⟩ := q
  obtain ⟨a, h1, h2⟩ := opt_of hq
  refine ⟨F, I, env, ex, a, env', s, h1, fun v I1 H1 s1 q1 r1 => ?_⟩
  unfold isiC at h2
  split at h2
  · rename_i c' fs
    split at h2
    · rename_i hcm
      cases h2
      have hb := hB2 c' hcm
      rw [Bool.and_eq_true, decide_eq_true_eq] at hb
      obtain ⟨k1, k2⟩ := hb
      rw [Bool.and_eq_true, Bool.and_eq_true, Bool.and_eq_true, decide_eq_true_eq, decide_eq_true_eq] at k2
      cases r1 with
      | obj h3 r =>
        exact ⟨_, .ref (cl c), .ref (cl c'), .ref (cl c), decide (c' = c), rfl, .own _, .base (.ins (s1.ih _ _ h3) (hcl c' hcm) (He.eqO_ok k2.1) (He.eqO_ok k2.2.1) k2.2.2.1 k2.2.2.2), k1, k _ I1 H1 s1 q1 (.bl _)⟩
    · cases h2
  · obtain ⟨t, ht, rfl⟩ := Option.map_eq_some_iff.mp h2
    exact ⟨v, .ref (cl c), .type t, .ref (cl c), false, rfl, .own _, r1.tyX s1.ih ht, of_decide_eq_true (hB1 t (typeN_in ht)), k _ I1 H1 s1 q1 (.bl _)⟩
end
end Zf

set_option Elab.async false
set_option linter.all false
set_option maxRecDepth 100000
set_option maxHeartbeats 1000000
/-! Zf, part 17: an own object != a text, by its class's own __eq__. -/
namespace PySem
namespace W
open PySem PySem.Calls PyProof.Rows Builtin
section
variable {prog : Program} {w : World} {A A₀ : Around} {E : Value → Shared → Prop} {s : Shared} {K : Frag} {x C L f : Addr} {h₀ : Heap} {m : Str → Option Value} {ox : Obj} {od : Option Obj} {name : Str} {b tb : Value}
theorem ifBound_B {M : Model} {id : String} {args : List Value} {Q : Option Value → Shared → Prop} (X : K.In s.heap) (I : InstAt s.heap x ox C od) (hs : findIn K (.ref C) name = some (some (.builtin id))) (hb : ∀ self, bindSpecial (.builtin id) self = pure (.builtin id, [self]))
    (h : wpAny M A (call (.builtin id) (.ref x :: args)) (fun v => Q (some v)) E s) : wpAny M A (callSpecialIfBound? (.ref x) name args) Q E s := by
  simp only [callSpecialIfBound?, bindSpecialIfBound?]
  refine wpAny_holding (wpAny_bind (wpAny_bind (wpAny_bind (I.type.here ((looks_findIn X hs).here ?_)))))
  refine wpAny_bind (wpAny_askSetting (wpAny_ite ?_))
  have fin : wpAny M A (call (.builtin id) ([.ref x] ++ args) >>= fun v => pure (some v)) Q E s := wpAny_bind (wpAny_mono h (fun v s' h' => wpAny_pure h') fun _ _ h' => h')
  simp only [hb]
  split
  · exact wpAny_bind (wpAny_pure (wpAny_pure (by exact fin)))
  · exact wpAny_tryCatch (wpAny_bind (wpAny_pure (wpAny_pure (by exact fin))))
theorem objNe_K {Q : Value → Shared → Prop} (hu : A.units + 1 < cLine) (X : K.In s.heap) (I : InstAt s.heap x ox C od) (hob : mroIn K C (.type "object") = some true)
    (hs : findIn K (.ref C) "__eq__" = some (some (.ref f))) (hf : isFn K (.ref f) = true)
    (h : wpAny (model prog w) A.in1 (call (.ref f) [.ref x, b]) (fun v s' => ∃ r, v = .bool r ∧ Q (.bool (!r)) s') E s) : wpAny (model prog w) A (call (.builtin "object.__ne__") [.ref x, b]) Q E s := by
  refine wpAny_call (codeAny_call_builtin PySem.F.cmp_object.ne.plain PySem.F.cmpEntry_ne (check_slot PySem.F.cmpKind_ne PySem.F.cmpSplit_ne (I.type.andThen (looks_mroIn X hob)) (PySem.F.cmpArgs_ne _ _) ?_))
  unfold Builtin.«object.__ne__»
  repeat (first
    | with_reducible refine wpAny_cRoomFor (A := A.in1) (by exact hu) ?_
    | (refine wpAny_bind (m := callSpecialIfBound? (.ref x) (Str.ofString "__eq__") [b])
        (ifBound_K X I hs hf (wpAny_mono h (fun r s' hr => by
          obtain ⟨c, rfl, hq⟩ := hr
          repeat (first | exact hq | exact wpAny_pure hq | exact wpAny_truthy_bool hq | (refine wpAny_bind (m := truthy (.bool _)) (wpAny_truthy_bool ?_)) | wp_step)) fun _ _ e => e)))
    | wp_step)
theorem neOwn_K {Q : Value → Shared → Prop} (hu : A.units + 1 < cLine) (X : K.In s.heap) (I : InstAt s.heap x ox C od) (hb : Looks (model prog w) s.heap (typeOf b) tb) (hn : notFirst K C tb = true) (hob : mroIn K C (.type "object") = some true)
    (hne : findIn K (.ref C) "__ne__" = some (some (.builtin "object.__ne__"))) (hs : findIn K (.ref C) "__eq__" = some (some (.ref f))) (hf : isFn K (.ref f) = true)
    (h : wpAny (model prog w) A.in1 (call (.ref f) [.ref x, b]) (fun v s' => ∃ r, v = .bool r ∧ Q (.bool (!r)) s') E s) : wpAny (model prog w) A (richCompare .NotEq (.ref x) b) Q E s := by
  have one : wpAny (model prog w) A (tryCompare (.ref x) "__ne__" b) (fun r s' => ∃ v, r = some v ∧ Q v s') E s := by
    unfold tryCompare
    refine wpAny_bind (ifBound_B X I hne PySem.F.cmp_object.ne.bind (objNe_K hu X I hob hs hf (wpAny_mono h (fun v s' hv => ?_) fun _ _ e => e)))
    obtain ⟨r, rfl, hq⟩ := hv
    exact ⟨r, rfl, wpAny_pure ⟨_, rfl, hq⟩⟩
  unfold richCompare
  simp only [oneThing_ref]
  refine wpAny_holding (wpAny_bind (wpAny_cRoomFor (Nat.lt_of_succ_lt hu) ?_))
  rw [cmpInfo_NotEq]
  dsimp only
  refine wpAny_bind (I.type.here (wpAny_bind (hb.here ?_)))
  split
  · rename_i q
    have e : subIn K tb (.ref C) = some false := by
      rcases Bool.or_eq_true_iff.mp hn with e | e
      · rw [beq_iff_eq.mp e] at q; simp at q
      · exact beq_iff_eq.mp e
    refine wpAny_bind ((looks_subIn X e).here ?_)
    simp only [Bool.false_eq_true, if_false]
    refine wpAny_bind (wpAny_mono one (fun r s' z => ?_) fun _ _ e => e)
    obtain ⟨v, rfl, hq⟩ := z
    exact wpAny_pure hq
  · refine wpAny_bind (wpAny_pure ?_)
    simp only [Bool.false_eq_true, if_false]
    refine wpAny_bind (wpAny_mono one (fun r s' z => ?_) fun _ _ e => e)
    obtain ⟨v, rfl, hq⟩ := z
    exact wpAny_pure hq
end
end W
end PySem
namespace Zf
open PySem PySem.Spec L2 PyProof.Rows
/-- a def called with data alone -/
theorem spM_ims {K : PySem.W.Frag} {cl : Nat → Addr} {n : Nat} {F : FM} {I H : Hp} {vs : List V} {ds : List D} {d : D} {news : En} {Q : VK} {E : XK} (e : Ex I H) (r : RepL K cl I vs ds) (hl : ds.length = n) (hF : F (ds.map .im) = some (d, news)) (k : ∀ v I' H', Gr I H I' H' → Rep K cl I' v d → Q v H') : spM K cl n F vs H Q E := by
  have noMu : ∀ (i : Nat) (q : Bool) (m : Mu), (ds.map Sl.im)[i]? = some (Sl.mu q m) → False := fun i q m hi => by
    rw [List.getElem?_map] at hi
    cases z : ds[i]? with
    | none => rw [z] at hi; cases hi
    | some d => rw [z] at hi; cases hi
  refine ⟨I, ds.map .im, fun _ => [], d, news, by rw [r.length]; exact hl, by rw [List.length_map]; exact hl, ⟨fun i d hi => ?_, fun i q m hi => absurd hi (noMu i q m), fun i j q m q' m' a hij hi hj => absurd hi (noMu i q m)⟩, fun i q m hi => absurd hi (noMu i q m), e, fun i hi => ?_, hF, fun v I' H' x1 x2 x3 x4 x5 x6 => k v I' H' ⟨x1, fun a o h => x4 a o h fun i q m hi => absurd hi (noMu i q m), x2, x3⟩ x6⟩
  · rw [List.getElem?_map] at hi
    cases z : ds[i]? with
    | none => rw [z] at hi; cases hi
    | some d' =>
      rw [z] at hi
      cases hi
      obtain ⟨u, hu, ru⟩ := r.get z
      exact ⟨u, hu, ru⟩
  · rw [List.getElem?_map] at hi
    cases z : ds[i]? with
    | none => rw [z] at hi; cases hi
    | some d' => rw [z] at hi; cases hi
/-- a class with an own __eq__ -/
def EqC (P : Program) (w : World) (K : PySem.W.Frag) (mg : Str → Option Value) (base : Heap) (cl : Nat → Addr) (k c : Nat) (F : FM) : Prop :=
  ∃ (k' : Nat) (f : Addr) (fd : FuncData) (ps : List Str), k' ≤ k ∧ FnOk P w K mg base CX0 k' f fd ps (spM K cl 2 F) ∧ PySem.W.findIn K (.ref (cl c)) "__eq__" = some (some (.ref f)) ∧ PySem.W.isFn K (.ref f) = true ∧ Binds K fd ps [] ∧
    PySem.W.findIn K (.ref (cl c)) "__ne__" = some (some (.builtin "object.__ne__")) ∧ PySem.W.mroIn K (cl c) (.type "object") = some true ∧ PySem.W.notFirst K (cl c) (.type "str") = true
def eqcB (K : PySem.W.Frag) (C f : Addr) : Bool := He.eqO (PySem.W.findIn K (.ref C) "__eq__") (some (some (.ref f))) && (PySem.W.isFn K (.ref f) && (He.eqO (PySem.W.findIn K (.ref C) "__ne__") (some (some (.builtin "object.__ne__"))) && (decide (PySem.W.mroIn K C (.type "object") = some true) && PySem.W.notFirst K C (.type "str"))))
theorem eqc_of {P : Program} {w : World} {K : PySem.W.Frag} {mg : Str → Option Value} {base : Heap} {cl : Nat → Addr} {k k' c : Nat} {F : FM} {f : Addr} {fd : FuncData} {ps : List Str} (h : FnOk P w K mg base CX0 k' f fd ps (spM K cl 2 F)) (hb : Binds K fd ps []) (e : eqcB K (cl c) f = true) (hk : k' ≤ k := by decide) : EqC P w K mg base cl k c F := by
  unfold eqcB at e
  rw [Bool.and_eq_true, Bool.and_eq_true, Bool.and_eq_true, Bool.and_eq_true, decide_eq_true_eq] at e
  exact ⟨k', f, fd, ps, hk, h, He.eqO_ok e.1, e.2.1, hb, He.eqO_ok e.2.2.1, e.2.2.2.1, e.2.2.2.2⟩
theorem allC_nil {α : Type} {P : α → Prop} : ∀ c ∈ ([] : List α), P c := fun _ h => nomatch h
theorem allC_cons {α : Type} {P : α → Prop} {a : α} {l : List α} (h : P a) (k : ∀ c ∈ l, P c) : ∀ c ∈ a :: l, P c := fun c hc => by
  rcases List.mem_cons.mp hc with rfl | hc
  · exact h
  · exact k c hc
section
variable {X : Cx} {cl : Nat → Addr}
def rNeO (K : PySem.W.Frag) (cl : Nat → Addr) (Fs : List (Nat × FM)) : R2 := fun x y H Q => ∃ a c dx fs z F, x = .ref a ∧ y = .str z ∧ H a = some (.ins (cl c) dx fs) ∧ (c, F) ∈ Fs ∧ spM K cl 2 F [x, y] H (fun v H' => ∃ r, v = .bl r ∧ Q (.bl (!r)) H') E0
theorem op_neO {k : Nat} {Fs : List (Nat × FM)} (hFs : ∀ p ∈ Fs, EqC X.prog X.w X.K X.mg X.base cl k p.1 p.2) (hr : Room (k + 1) X.A) : OpR X (compareOp .NotEq) (rNeO X.K cl Fs) := by
  intro pins s σ H x y v u Q I rx ry h
  obtain ⟨a, c, dx, fs, z, F, rfl, rfl, ha, hF, hsp⟩ := h
  cases rx
  obtain ⟨t, rfl⟩ := ry
  obtain ⟨k', f, fd, ps, hk, F1, h1, h2, h3, h4, h5, h6⟩ := hFs _ hF
  obtain ⟨mA, J, _⟩ := ins_get I.hok ha
  obtain ⟨od, J, _⟩ := J.look
  have sb : L2.Sub X k' X.A.in1 := (L2.Sub.in1 ⟨hr, rfl⟩).mono hk
  unfold compareOp
  refine PySem.W.neOwn_K (tb := .type "str") sb.room.units0 I.kIn J (PySem.W.Looks.of_pure rfl) h6 h5 h4 h1 h2 ?_
  have e0 : Env0 X.prog X.w X.K X.mg X.base X.A.in1 X.stack s H := by
    have e := I.env0
    exact ⟨by rw [sb.fr]; exact e.frames, e.mod, e.bs, e.bsz, e.funs, e.frf, e.hok, e.bare⟩
  have hl := F1.len _ _ _ _ hsp
  have r2 : Vals [V.ref a, V.str z] [Value.ref a, Value.str z t] := .cons rfl (.cons ⟨t, rfl⟩ .nil)
  refine wpAny_call (codeAny_mono (F1.run X.A.in1 X.stack s H ⟨[.ref a, .str z t], []⟩ [.ref a, .str z t] [.ref a, .str z] _ E0 sb.room e0 (by
    have := h3 s [.ref a, .str z t] I.kIn (by simpa using hl)
    simpa using this) r2 hsp) fun r s' hq => ?_)
  cases r with
  | error e => exact pass0 pins σ H s e s' I hq
  | ok fl =>
    cases fl with
    | ret w =>
      obtain ⟨zv, H', I', rz, r, ez, q⟩ := I.after hq
      subst ez
      cases rz
      exact ⟨r, rfl, .bl (!r), H', I', rfl, q⟩
    | next => exact False.elim hq
    | brk => exact False.elim hq
    | cont => exact False.elim hq
def neO (Fs : List (Nat × FM)) : D → D → Option D
  | .obj c fs, .str z => (match Fs.find? (fun p => p.1 == c) with
    | some p => (match p.2 [.im (.obj c fs), .im (.str z)] with
      | some (.bl r, _) => some (.bl (!r))
      | _ => none)
    | none => none)
  | a, b => neD a b
theorem ok_neO {Fs : List (Nat × FM)} {r : R2} {K : PySem.W.Frag} (ok : OK2 K cl r neD) : OK2 K cl (fun x y H Q => r x y H Q ∨ rNeO K cl Fs x y H Q) (neO Fs) := fun I H v w d1 d2 d Q e r1 r2 hg k => by
  unfold neO at hg
  split at hg
  · rename_i c fs z
    split at hg
    · rename_i p hp
      split at hg
      · rename_i b news hF
        cases hg
        have hc : p.1 = c := by
          have := List.find?_some hp
          exact beq_iff_eq.mp this
        cases r1 with
        | obj h1 r =>
          cases r2
          refine .inr ⟨_, c, _, _, z, p.2, rfl, rfl, e _ _ h1, by rw [← hc]; exact List.mem_of_find?_eq_some hp, ?_⟩
          refine spM_ims (ds := [.obj c fs, .str z]) e (.cons (.obj h1 r) (.cons (.str z) .nil)) rfl hF fun v I' H' gr rv => ?_
          cases rv
          exact ⟨b, rfl, k _ I' H' gr (.bl _)⟩
      · cases hg
    · cases hg
  · exact .inl (ok I H v w d1 d2 d Q e r1 r2 hg k)
end
end Zf

set_option Elab.async false
set_option linter.all false
set_option maxRecDepth 100000
set_option maxHeartbeats 1000000
/-! Zf, part 18: isinstance of one of two kinds; methods without arguments; empty dicts, copies of dicts. -/
namespace Zf
open PySem PySem.Spec L2 PyProof.Rows
section
variable {X : Cx} {cl : Nat → Addr} {e a b : Expr} {ma : MM D} {p pos : Pos} {x : Str}
def isiDs (Ts : List String) (d : D) : Option D := match typeN d with
  | some t => some (.bl (Ts.any fun T => isT t T))
  | none => none
theorem em_isiT (T1 T2 : String) {n1 n2 : Str} {p1 p2 pt : Pos} {kk : Nat} (hm : X.mg "isinstance" = none) (hm1 : X.mg n1 = none) (hm2 : X.mg n2 = none) (he : EM X cl e ma) (hT1 : T1 ∈ ["bool", "int", "str", "list", "tuple", "dict"] := by decide) (hT2 : T2 ∈ ["bool", "int", "str", "list", "tuple", "dict"] := by decide)
    (hb1 : bootBuiltins n1 = some (.type T1) := by decide +kernel) (hb2 : bootBuiltins n2 = some (.type T2) := by decide +kernel)
    (hg : Gl X "isinstance" := by rfl) (hg1 : Gl X n1 := by rfl) (hg2 : Gl X n2 := by rfl) (hn1 : n1 ≠ "__name__" := by decide) (hn2 : n2 ≠ "__name__" := by decide) (hd1 : (n1 == ("__debug__" : Str)) = false := by decide) (hd2 : (n2 == ("__debug__" : Str)) = false := by decide)
    (hs1 : starEach [e, .Tuple [.Name n1 p1, .Name n2 p2] kk pt] X.env = (false, eval e X.env) :: starEach [.Tuple [.Name n1 p1, .Name n2 p2] kk pt] X.env := by rfl)
    (hs2 : starEach [.Tuple [.Name n1 p1, .Name n2 p2] kk pt] X.env = (false, eval (.Tuple [.Name n1 p1, .Name n2 p2] kk pt) X.env) :: starEach [] X.env := by rfl)
    (ht1 : starEach [.Name n1 p1, .Name n2 p2] X.env = (false, eval (.Name n1 p1) X.env) :: starEach [.Name n2 p2] X.env := by rfl) (ht2 : starEach [.Name n2 p2] X.env = (false, eval (.Name n2 p2) X.env) :: starEach [] X.env := by rfl)
    (hpl : (backTo pos (starEach [.Tuple [.Name n1 p1, .Name n2 p2] kk pt] X.env)).any (·.1) = false := by rfl) :
    EM X cl (.Call (.Name "isinstance" p) [e, .Tuple [.Name n1 p1, .Name n2 p2] kk pt] [] pos) (MM.opt ma (isiDs [T1, T2])) := by
  refine (pe_callB call_isiT hg hm PyProof.Rows.boot_isinstance (pa_cons he (pa_cons (pe_tup (pa_cons (pe_bltn (v := .ty T1) hg1 hm1 hb1 rfl hn1 hd1) (pa_cons (pe_bltn (v := .ty T2) hg2 hm2 hb2 rfl hn2 hd2) pa_nil ht2) ht1)) pa_nil hs2) hs1) (by decide) (by decide) hs1 hpl).zi fun σ H Q q => ?_
  obtain ⟨F, I, env, ex, d, env', s, hq, k⟩ := q
  obtain ⟨a, h1, h2⟩ := opt_of hq
  refine ⟨F, I, env, ex, a, env', s, h1, fun v I1 H1 s1 q1 r1 => ?_⟩
  unfold isiDs at h2
  split at h2
  · rename_i t ht
    cases h2
    refine ⟨by show 2 ≤ sizeLine; decide, fun tp htp => ?_⟩
    have g := Gr.new (o := .tup [.ty T1, .ty T2]) s1.ih htp
    refine ⟨v, tp, [.ty T1, .ty T2], .type t, [.type T1, .type T2], isT t T1 || (isT t T2 || false), rfl, upd_same, .cons (.ty T1) (.cons (.ty T2) .nil), r1.tyX (s1.ih.trans g.h) ht, ?_, k _ _ _ (s1.gr g) (q1.trans g.i) (.bl _)⟩
    have e1 := kit_isT (K := X.K) (typeN_in ht) hT1
    have e2 := kit_isT (K := X.K) (typeN_in ht) hT2
    unfold PySem.W.kitAny
    rw [e1]
    cases isT t T1 with
    | true => rfl
    | false =>
      dsimp only
      unfold PySem.W.kitAny
      rw [e2]
      cases isT t T2 <;> rfl
  · cases h2
def alnumM (z : Str) : List D → Option D
  | [] => some (.bl (Txt.isalnum z))
  | _ => none
theorem ok_alnum {K : PySem.W.Frag} : OKM K cl (fun x xs H Q => ∃ a, x = .str a ∧ xs = [] ∧ True ∧ Q (.bl (Txt.isalnum a)) H) alnumM := fun I H z vs ds d Q e r hg k => by
  unfold alnumM at hg
  split at hg
  · cases hg
    cases r
    exact ⟨z, rfl, rfl, trivial, k _ _ _ (Gr.refl e) (.bl _)⟩
  · cases hg
/-! ### dicts -/
theorem em_dict0 : EM X cl (.Dict [] [] pos) (mc (.dct [])) := pe_dnewK.zi fun σ H Q h => by
  obtain ⟨F, I, env, ex, d, env', s, hq, k⟩ := h
  cases hq
  intro q hp
  have g := Gr.new (o := .dK []) s.ih hp
  exact k (.ref q) _ _ (s.gr g) g.i (.dct upd_same .nil)
def dictL : List D → Option D
  | [.dct kvs] => some (.dct kvs)
  | _ => none
theorem ok_dict {K : PySem.W.Frag} : OKL K cl (fun xs H Q => ∃ (a : Addr) (kvs : List (Key × V)), xs = [.ref a] ∧ Rd H a (.dK kvs) ∧ ∀ p, H p = none → Q (.ref p) (upd H p (.dK kvs))) dictL := fun I H vs ds d Q e r hg k => by
  unfold dictL at hg
  split at hg
  · cases hg
    cases r with
    | cons r rr =>
      cases rr
      cases r with
      | @dct a vs' _ h1 r =>
        refine ⟨_, _, rfl, .inl (e _ _ h1), fun q hp => ?_⟩
        have g := Gr.new (o := .dK vs') e hp
        exact k (.ref q) _ _ g (.dct upd_same (RepK.ex g.i r))
  · cases hg
/-- a walk over a name's dict that has nothing -/
def sforD (i : Nat) : SM := fun env => match env[i]? with
  | some (.im (.dct [])) => some (.nx env)
  | _ => none
theorem es_forD (i : Nat) {tg : Expr} {body : List Stmt} {np : Pos} (hN : X.N[i]? = some x := by rfl) (hv : Vis X.env.scope x := by first | exact Or.inl rfl | exact Or.inr (Or.inl rfl) | exact Or.inr (Or.inr rfl)) (hd : (x == ("__debug__" : Str)) = false := by decide)
    (hcd : (x == ("__classdict__" : Str)) = false := by decide) (hc : X.calm = true := by rfl) (hp : PassesOwn (model X.prog X.w) X.A X.env X.xe := by exact PassesOwn.never) (hs : ∀ z, foldedSetIterable (.Name x np) X.env z = pure z := by intro _; rfl) : ES X cl (.For tg (.Name x np) body [] pos) (sforD i) := by
  have pg : PG X tg (fun _ _ _ _ => False) := ⟨fun _ _ _ _ _ _ _ _ _ h => h.elim⟩
  refine (ps_lock (ps_for hp hc (pi_keys (pe_var hN hv hd hcd)) pg pss_never hs)).zi fun Dn σ H q => ?_
  obtain ⟨F, I, env, ex, out, s, hm, k⟩ := q
  unfold sforD at hm
  split at hm
  · rename_i h0
    cases hm
    obtain ⟨f, s'⟩ := id s
    obtain ⟨v, hv1, hr⟩ := s'.look h0
    cases hr with
    | @dct a0 vs0 _ h1 r =>
      cases r
      have hd1 := s.ih _ _ h1
      refine ⟨_, _, hd1, True.intro, fun od => ⟨_, hv1, _, od, rfl, .inl ⟨[], upd_same, ?_⟩⟩⟩
      refine ⟨fun i m σ' H' => i = 0 ∧ σ' = σ ∧ H' = upd H a0 (.frz od (.dK [])), ⟨0, rfl, rfl, rfl⟩, ?_⟩
      rintro i m σ' H' ⟨rfl, rfl, rfl⟩
      refine .inl ⟨⟨upd_same, Nat.le_refl _⟩, upd_same, ?_⟩
      rw [upd_upd]
      have e1 : upd H a0 (.dK []) = H := by
        funext c
        unfold upd
        split
        · rename_i hq
          rw [hq, hd1]
        · rfl
      rw [e1]
      exact k σ' I H s (Ex.refl _)
  · cases hm
end
end Zf

set_option Elab.async false
set_option linter.all false
set_option maxRecDepth 100000
set_option maxHeartbeats 1000000
/-! Zf, part 19: enumerate of a text. -/
namespace Zf
open PySem PySem.Spec L2 PyProof.Rows
/-- each sign of x with its number, in a new pair -/
def ItEs (x : Str) : It := ⟨fun i _ => i < x.cps.size, fun i H v H' => ∃ T c, v = .ref T ∧ H T = none ∧ H' = upd H T (.tup [.int (i : Nat), .str ⟨#[c]⟩]) ∧ x.cps[i]? = some c, fun i _ => x.cps.size ≤ i⟩
theorem drw {prog : Program} {w : World} {A : Around} (hh : A.handled = none) (it : Addr) (x : Str) (t : Tok) : Draws prog w A it [it] x.cps.size (fun i v => ∃ c u, x.cps[i]? = some c ∧ v = .str ⟨#[c]⟩ u) (fun i h => h.IsStrIter it (strIterType x) x t i) := by
  unfold strIterType
  split
  · exact Draws.strAscii hh it x t
  · exact Draws.strWide hh it x t
theorem turn_enumS {P : Program} {w : World} {K : PySem.W.Frag} {elts : List Expr} {kk : Nat} {tpos : Pos} (x : Str) (t : Tok) (e it : Addr) :
    Turn P w K (.Tuple elts kk tpos) (ItEs x) [e, it] e (fun i h => (∃ old, IsEnum h e it ((i : Nat) : Int) old) ∧ h.IsStrIter it (strIterType x) x t i ∧ e ≠ it ∧ i ≤ x.cps.size) where
  mem := by simp
  obj := fun i h st b hb => by
    obtain ⟨⟨old, he⟩, ⟨o, ho, hc, hd⟩, _⟩ := st
    have e' : b = e ∨ b = it := by simpa using hb
    rcases e' with z | z
    · rw [z]; exact ⟨_, he, fun v q => nomatch q⟩
    · rw [z]; exact ⟨o, ho, fun v q => by rw [hd] at q; cases q⟩
  keep := fun i h h' st k => let ⟨⟨old, he⟩, ⟨o, ho, r⟩, hne, hle⟩ := st; ⟨⟨old, k e (by simp) _ he⟩, ⟨o, k it (by simp) o ho, r⟩, hne, hle⟩
  item := by
    intro X hP hw hK hc i pins s σ H E I hf st hg
    subst hP hw hK
    obtain ⟨⟨old, he⟩, hit, hne, hle⟩ := st
    have hel : e < s.heap.objs.size := Heap.lt_size he
    have hil : it < s.heap.objs.size := by obtain ⟨_, q, _⟩ := hit; exact Heap.lt_size q
    refine wpAny_pyNext_enum_itemD (drw (A := X.A.in1) (I.ok.hd hc) it x t) he hit hg hne (by simpa using hne) fun u h' tk hu ho hit' hT hsz hk => ?_
    obtain ⟨c, u', hcx, rfl⟩ := hu
    refine ⟨_, rfl, wpAny_letOwnedTupleGo_enum (s := { s with heap := h', toks := tk + 1 }) ho fun h'' he' sb => ?_⟩
    have hT2 : h''.get? s.heap.objs.size = some { cls := .type "tuple", data := .seq #[.int i tk, .str ⟨#[c]⟩ u'] } := (sb.2 _ (Nat.ne_of_gt hel)).trans hT
    have new : ObjOk X.prog X.w (upd H s.heap.objs.size (.tup [.int (i : Nat), .str ⟨#[c]⟩])) h'' s.heap.objs.size (.tup [.int (i : Nat), .str ⟨#[c]⟩]) :=
      ⟨by show 2 ≤ sizeLine; decide, [.int i tk, .str ⟨#[c]⟩ u'], .cons ⟨_, rfl⟩ (.cons ⟨_, rfl⟩ .nil), ⟨_, hT2, rfl, _, rfl⟩⟩
    have I1 : Inv X pins σ (upd H s.heap.objs.size (.tup [.int (i : Nat), .str ⟨#[c]⟩])) { s with heap := h'', toks := tk + 1 } :=
      I.turnedNew (ch := [e, it]) (fun b ob hb q => (sb.2 b (fun z => hb (by simp [z]))).trans (hk b ob (fun z => hb (by simp [z])) (fun z => hb (by simp [z])) q)) hf (Nat.le_refl _) new
    refine ⟨.ref s.heap.objs.size, _, I1, rfl, ⟨_, c, rfl, I.hok.fresh (Nat.le_refl _), rfl, hcx⟩, ⟨⟨.str ⟨#[c]⟩ u', ?_⟩, ?_, hne, hg⟩, fun b hb => ?_⟩
    · have e1 : ((i + 1 : Nat) : Int) = (i : Int) + 1 := by omega
      rw [e1]; exact he'
    · exact let ⟨o, ho', r⟩ := hit'; ⟨o, (sb.2 it (Ne.symm hne)).trans ho', r⟩
    · have hb' : b < s.heap.objs.size := by
        have e' : b = e ∨ b = it := by simpa using hb
        rcases e' with z | z
        · rw [z]; exact hel
        · rw [z]; exact hil
      rw [upd_ne (Nat.ne_of_lt hb')]
      exact (hf b hb).1
  done := by
    intro X hP hw hK hc i pins s σ H E I hf st hg
    subst hP hw hK
    obtain ⟨⟨old, he⟩, hit, hne, hle⟩ := st
    obtain ⟨f0, f1, f2, f3, f4, f5⟩ := hf it (by simp)
    have hi : i = x.cps.size := Nat.le_antisymm hle hg
    subst hi
    exact wpAny_pyNext_enum_endD (drw (prog := X.prog) (w := X.w) (A := X.A.in1) (I.ok.hd hc) it x t) he hit fun h' eb => ⟨rfl, I.turned (t' := s.toks) (fun b o hb q => eb b o hb q) f0 f1 f3 f4 f5⟩
  self := fun A i s Q E st h => let ⟨⟨_, he⟩, _⟩ := st; wpAny_pyIter_enum he h
def iEnumS (ta : TA) : TI := fun σ H R => ta σ H fun vs H1 => ∃ x, vs = [.str x] ∧ R (ItEs x) H1
theorem pi_enumS {X : Cx} {e : Expr} {ta : TA} {p pos tpos : Pos} {elts : List Expr} {kk : Nat} (hg : Gl X "enumerate") (hm : X.mg "enumerate" = none) (ha : PA X [e] ta) (hs : starEach [e] X.env = [(false, eval e X.env)] := by rfl) :
    PI X (.Tuple elts kk tpos) (.Call (.Name "enumerate" p) [e] [] pos) (iEnumS ta) := by
  refine ⟨fun pins s σ H R I h => ?_⟩
  refine Call_ (ld_blt I hg hm boot_enumerate (PyProof.Rows.callWith_type1 (thn (ha.run pos pins s σ H _ I h) fun us s1 ⟨vs, H1, I1, r1, q1⟩ => ?_) hs rfl))
  obtain ⟨x, ex, q⟩ := q1
  subst ex
  cases r1 with
  | cons r rr =>
    cases rr
    obtain ⟨t, rfl⟩ := r
    refine call_enumerate_str fun h' he hit hsz hk => wpAny_pyIter_enum he ?_
    have I2 : Inv X pins σ H1 { s1 with heap := h' } := I1.kept (t' := s1.toks) hk
    refine ⟨s1.heap.objs.size + 1, [s1.heap.objs.size + 1, s1.heap.objs.size], _, _, H1, rfl, I2, turn_enumS x t (s1.heap.objs.size + 1) s1.heap.objs.size, ⟨⟨.none, he⟩, hit, Nat.succ_ne_self _, Nat.zero_le _⟩, fun b hb => ?_, q⟩
    have e' : b = s1.heap.objs.size + 1 ∨ b = s1.heap.objs.size := by simpa using hb
    have hle : s1.heap.objs.size ≤ b := by
      rcases e' with z | z
      · rw [z]; exact Nat.le_add_right _ _
      · rw [z]; exact Nat.le_refl _
    exact I1.fpOk hle (I1.hok.fresh hle)
section
variable {X : Cx} {cl : Nat → Addr} {e : Expr} {p pos : Pos}
theorem wd_enumS {K : PySem.W.Frag} {I : Hp} {z : Str} : WD K cl I (ItEs z) (enumD 0 (signsD z)) := by
  have hl : (signsD z).length = z.cps.size := by simp [signsD]
  refine ⟨fun i H hi e => ?_, fun H e => ?_, fun i J H y H' hi e1 e2 hy => ?_⟩
  · rw [enumD_length] at hi
    show i < z.cps.size
    omega
  · rw [enumD_length]
    show z.cps.size ≤ (signsD z).length
    omega
  · obtain ⟨T, c, rfl, hT, rfl, hc⟩ := hy
    have h1 : (signsD z)[i]? = some (.str ⟨#[c]⟩) := by
      unfold signsD
      rw [List.getElem?_map]
      have : z.cps.toList[i]? = some c := by simpa using hc
      rw [this]; rfl
    have g := Gr.new (o := .tup [.int (i : Nat), .str ⟨#[c]⟩]) e2 hT
    refine ⟨_, _, enumD_get h1, g, .tup (.inl (.inl upd_same)) (.cons ?_ (.cons (.str _) .nil))⟩
    rw [Nat.zero_add]
    exact .int _
def strE : List D → Option (List D)
  | [.str z] => some (enumD 0 (signsD z))
  | _ => none
theorem ei_enumS {elts : List Expr} {kk : Nat} {tpos : Pos} {m : MM (List D)} (hm : X.mg "enumerate" = none) (ha : EA X cl [e] m) (hg : Gl X "enumerate" := by rfl) (hs : starEach [e] X.env = [(false, eval e X.env)] := by rfl) :
    EI X cl (.Tuple elts kk tpos) (.Call (.Name "enumerate" p) [e] [] pos) (MM.opt m strE) := by
  refine ⟨fun pins s σ H R I q => (pi_enumS hg hm ha hs).run pins s σ H R I ?_⟩
  obtain ⟨F, J, env, ex, ds, env', s1, hm, k⟩ := q
  obtain ⟨as, h1, h2⟩ := opt_of hm
  refine ⟨F, J, env, ex, as, env', s1, h1, fun vs I' H' s' e' r => ?_⟩
  unfold strE at h2
  split at h2
  · cases h2
    cases r with
    | cons r rr =>
      cases rr
      cases r
      exact ⟨_, rfl, k _ I' H' s' e' wd_enumS⟩
  · cases h2
end
end Zf

set_option Elab.async false
set_option linter.all false
/-! texts as rows of signs -/
namespace Zf
open PySem PySem.Spec L2 PySem.Builtin PySem.Builtin.Str
def ml (l : List Nat) : Str := ⟨l.toArray⟩
theorem ml_ls (x : Str) : ml x.cps.toList = x := rfl
theorem ls_ml (l : List Nat) : (ml l).cps.toList = l := rfl
theorem str_ext {x y : Str} (h : x.cps.toList = y.cps.toList) : x = y := by
  rw [← ml_ls x, ← ml_ls y, h]
theorem ls_app (x y : Str) : (x ++ y).cps.toList = x.cps.toList ++ y.cps.toList := by
  show (x.cps ++ y.cps).toList = _
  simp
theorem ls_len (x : Str) : x.cps.toList.length = x.length := by simp [Str.length]
theorem ml_len (l : List Nat) : (ml l).length = l.length := by simp [ml, Str.length]
theorem ml_app (a b : List Nat) : ml a ++ ml b = ml (a ++ b) := str_ext (by rw [ls_app]; rfl)
theorem ml_inj {a b : List Nat} : ml a = ml b ↔ a = b := ⟨fun h => by have := congrArg (fun x : Str => x.cps.toList) h; exact this, fun h => h ▸ rfl⟩
def sp (c : Nat) : List Nat → List (List Nat)
  | [] => [[]]
  | d :: l => if d = c then [] :: sp c l else (match sp c l with
    | p :: r => (d :: p) :: r
    | [] => [[d]])
def jn (s : List Nat) : List (List Nat) → List Nat
  | [] => []
  | [p] => p
  | p :: q :: r => p ++ s ++ jn s (q :: r)
theorem jn_cons (s p : List Nat) {r : List (List Nat)} (h : r ≠ []) : jn s (p :: r) = p ++ s ++ jn s r := by
  cases r with
  | nil => exact absurd rfl h
  | cons => rfl
theorem jn_nil : ∀ ps : List (List Nat), jn [] ps = ps.flatten
  | [] => rfl
  | [p] => by simp [jn]
  | p :: q :: r => by simp only [jn, List.append_nil, List.flatten_cons, jn_nil (q :: r)]
theorem ls_join (y : Str) : ∀ ps : List Str, (Str.join y ps).cps.toList = jn y.cps.toList (ps.map (·.cps.toList))
  | [] => rfl
  | [p] => rfl
  | p :: q :: r => by
    show (p ++ y ++ Str.join y (q :: r)).cps.toList = _
    rw [ls_app, ls_app, ls_join y (q :: r)]
    rfl
theorem txt_join (y : Str) (ps : List Str) : Txt.join y ps = ml (jn y.cps.toList (ps.map (·.cps.toList))) := by
  show glued y ps = _
  rw [StrLaws.glued_eq_join]
  exact str_ext (ls_join y ps)
theorem sp_ne (c : Nat) (l : List Nat) : sp c l ≠ [] := by
  cases l with
  | nil => simp [sp]
  | cons d l =>
    unfold sp
    split
    · simp
    · split <;> simp
theorem sp_free {c : Nat} : ∀ {p : List Nat}, c ∉ p → sp c p = [p]
  | [], _ => rfl
  | d :: p, h => by
    rw [List.mem_cons, not_or] at h
    unfold sp
    rw [if_neg (fun e => h.1 e.symm), sp_free h.2]
theorem sp_app {c : Nat} {l : List Nat} : ∀ {p : List Nat}, c ∉ p → sp c (p ++ c :: l) = p :: sp c l
  | [], _ => by simp [sp]
  | d :: p, h => by
    rw [List.mem_cons, not_or] at h
    show sp c (d :: (p ++ c :: l)) = _
    rw [sp, if_neg (fun e => h.1 e.symm), sp_app h.2]
theorem sp_jn {c : Nat} : ∀ ps : List (List Nat), ps ≠ [] → (∀ p ∈ ps, c ∉ p) → sp c (jn [c] ps) = ps
  | [], h, _ => absurd rfl h
  | [p], _, h => sp_free (h p (List.mem_singleton.mpr rfl))
  | p :: q :: r, _, h => by
    have e : jn [c] (p :: q :: r) = p ++ c :: jn [c] (q :: r) := by simp [jn]
    rw [e, sp_app (h p List.mem_cons_self), sp_jn (q :: r) (by simp) (fun z hz => h z (List.mem_cons_of_mem _ hz))]
theorem split_eq (x : Str) (c : Nat) : Txt.split x ⟨#[c]⟩ = (sp c x.cps.toList).map ml := by
  have h1 := StrLaws.join_split x ⟨#[c]⟩
  have h2 := StrLaws.split_free x c
  have h3 := PyProof.Rows.split_pos x ⟨#[c]⟩
  obtain ⟨ps, hp⟩ : ∃ ps, ps = Txt.split x ⟨#[c]⟩ := ⟨_, rfl⟩
  rw [← hp] at h1 h2 h3 ⊢
  have h4 := ls_join ⟨#[c]⟩ ps
  rw [h1] at h4
  have h5 := sp_jn (c := c) (ps.map (·.cps.toList)) (by cases ps with
    | nil => simp at h3
    | cons => simp) (by
      intro p hp
      obtain ⟨q, hq, rfl⟩ := List.mem_map.mp hp
      exact h2 q hq)
  rw [h4]
  show ps = (sp c (jn [c] _)).map ml
  rw [h5, List.map_map]
  exact (List.map_id' ps).symm.trans (List.map_congr_left fun a _ => (ml_ls a).symm)
theorem sp_head (c : Nat) : ∀ l : List Nat, ∃ r, sp c l = l.takeWhile (fun d => !decide (d = c)) :: r
  | [] => ⟨[], rfl⟩
  | d :: l => by
    obtain ⟨r, h⟩ := sp_head c l
    unfold sp
    by_cases q : d = c
    · exact ⟨sp c l, by rw [if_pos q, List.takeWhile_cons]; simp [q]⟩
    · exact ⟨r, by rw [if_neg q, h, List.takeWhile_cons]; simp [q]⟩
/-- what stands behind the last c -/
def lastP (c : Nat) : List Nat → List Nat := List.foldl (fun a d => if d = c then [] else a ++ [d]) []
theorem sp_last_go (c : Nat) : ∀ (l a : List Nat), c ∉ a → (sp c (a ++ l)).getLast? = some (l.foldl (fun a d => if d = c then [] else a ++ [d]) a)
  | [], a, h => by rw [List.append_nil, sp_free h]; rfl
  | d :: l, a, h => by
    by_cases q : d = c
    · subst q
      have ih := sp_last_go d l [] (by simp)
      rw [sp_app h, List.foldl_cons, if_pos rfl, ← ih]
      rw [List.getLast?_cons, List.nil_append]
      cases e : (sp d l).getLast? with
      | none => exact absurd (List.getLast?_eq_none_iff.mp e) (sp_ne d l)
      | some z => simp
    · have ih := sp_last_go c l (a ++ [d]) (by simp [h]; exact fun e => q e.symm)
      rw [List.foldl_cons, if_neg q, ← ih, List.append_assoc]
      rfl
theorem sp_last (c : Nat) (l : List Nat) : (sp c l).getLast? = some (lastP c l) := sp_last_go c l [] (by simp)
theorem at_neg1 {xs : List D} {d : D} (h : xs.getLast? = some d) : atD xs (-1) = some d := by
  unfold atD ixN
  rw [List.getLast?_eq_getElem?] at h
  have hp : 0 < xs.length := by
    cases xs with
    | nil => simp at h
    | cons => simp
  have h1 : -(xs.length : Int) ≤ -1 := by omega
  have h2 : (-1 + (xs.length : Int)).toNat = xs.length - 1 := by omega
  rw [if_neg (by decide), if_pos h1, Option.bind_some, h2, h]
theorem at_0 {x : D} {xs : List D} : atD (x :: xs) 0 = some x := by
  unfold atD ixN
  rw [if_pos (by decide), if_pos (by simp)]
  rfl
theorem at_nat {xs : List D} {i : Int} (h0 : 0 ≤ i) (h1 : i < xs.length) : ∃ x, atD xs i = some x ∧ x ∈ xs ∧ xs[i.toNat]? = some x := by
  have h2 : i.toNat < xs.length := by omega
  refine ⟨xs[i.toNat], ?_, List.getElem_mem h2, List.getElem?_eq_getElem h2⟩
  unfold atD ixN
  rw [if_pos h0, if_pos h1, Option.bind_some, List.getElem?_eq_getElem h2]
/-- the words of text as the mirrors want them -/
theorem splitM_one {z : Str} {c : Nat} (h : z.length ≤ 1000000) : splitM z [.str ⟨#[c]⟩] = some ((sp c z.cps.toList).map fun l => .str (ml l)) := by
  show (if _ then _ else _) = _
  rw [if_pos ⟨Nat.one_ne_zero, h⟩, split_eq, List.map_map]
  rfl
theorem subS_one {z : Str} {c : Nat} : subS ⟨#[c]⟩ z = decide (c ∈ z.cps.toList) := rfl
theorem joinM_lst {z : Str} {ys : List Str} (h : (ys.map (·.length)).sum + ys.length * z.length ≤ 10000000) : joinM z [.lst (ys.map .str)] = some (.str (ml (jn z.cps.toList (ys.map (·.cps.toList))))) := by
  unfold joinM
  simp only [strsD_map, if_pos h, txt_join]
/-! loops -/
theorem forL_inv {t : Tg} {mb : SM} (P : Nat → En → Prop) : ∀ (xs : List D) (k : Nat) (e : En), P k e → (∀ (i : Nat) (x : D) (e : En), xs[i]? = some x → P (k + i) e → ∃ e1 e2, mtg t x e = some e1 ∧ (mb e1 = some (.nx e2) ∨ mb e1 = some (.ct e2)) ∧ P (k + i + 1) e2) → ∃ e', forL t mb xs e = some (.nx e') ∧ P (k + xs.length) e'
  | [], k, e, h, _ => ⟨e, rfl, h⟩
  | x :: xs, k, e, h, s => by
    obtain ⟨e1, e2, h1, h2, h3⟩ := s 0 x e rfl h
    obtain ⟨e', h4, h5⟩ := forL_inv P xs (k + 1) e2 h3 (fun i y e hi hp => by
      have := s (i + 1) y e hi (by rw [Nat.add_comm i 1, ← Nat.add_assoc]; exact hp)
      rw [show k + (i + 1) + 1 = k + 1 + i + 1 by omega] at this
      exact this)
    refine ⟨e', ?_, by rw [List.length_cons, show k + (xs.length + 1) = k + 1 + xs.length by omega]; exact h5⟩
    rcases h2 with h2 | h2 <;> simp only [forL, h1, h2, h4]
theorem lcL_inv {t : Tg} {own : List Nat} {mt : MM Bool} {me : MM D} (P : Nat → En → Prop) (Q : Nat → D → Prop) : ∀ (xs : List D) (k : Nat) (e : En), P k e → (∀ (i : Nat) (x : D) (e : En), xs[i]? = some x → P (k + i) e → ∃ e1 e2 e3 y, mtg t x e = some e1 ∧ mt e1 = some (true, e2) ∧ me e2 = some (y, e3) ∧ okW e3 own = true ∧ P (k + i + 1) (wipeE e3 own) ∧ Q (k + i) y) → ∃ ys e', lcL t own mt me xs e = some (ys, e') ∧ P (k + xs.length) e' ∧ ys.length = xs.length ∧ ∀ i y, ys[i]? = some y → Q (k + i) y
  | [], k, e, h, _ => ⟨[], e, rfl, h, rfl, fun i y h => by simp at h⟩
  | x :: xs, k, e, h, s => by
    obtain ⟨e1, e2, e3, y, h1, h2, h3, h4, h5, h6⟩ := s 0 x e rfl h
    obtain ⟨ys, e', h7, h8, h9, h10⟩ := lcL_inv P Q xs (k + 1) _ h5 (fun i y e hi hp => by
      have := s (i + 1) y e hi (by rw [Nat.add_comm i 1, ← Nat.add_assoc]; exact hp)
      rw [show k + (i + 1) + 1 = k + 1 + i + 1 by omega, show k + (i + 1) = k + 1 + i by omega] at this
      exact this)
    refine ⟨y :: ys, e', ?_, by rw [List.length_cons, show k + (xs.length + 1) = k + 1 + xs.length by omega]; exact h8, by simp [h9], ?_⟩
    · simp only [lcL, h1, h2, h3, if_pos h4, h7]
    · intro i z hi
      cases i with
      | zero => simp at hi; subst hi; exact h6
      | succ i =>
        have := h10 i z (by simpa using hi)
        rw [show k + (i + 1) = k + 1 + i by omega]
        exact this
/-! what may be overwritten -/
def okM : Sl → Bool
  | .mu true _ => false
  | _ => true
def okN : Sl → Bool
  | .mu _ _ => false
  | _ => true
theorem okS_s {env : En} {i : Nat} : okS env i = (match env[i]? with
  | some s => okM s
  | none => false) := by
  unfold okS
  by_cases h : i < env.length
  · rw [List.getElem?_eq_getElem h]; simp only [h, decide_true, Bool.true_and]
    cases env[i] with
    | mu p m => cases p <;> rfl
    | _ => rfl
  · rw [List.getElem?_eq_none (by omega)]; simp [h]
theorem okW_nil {e : En} : okW e [] = true := rfl
theorem okW_cons {e : En} {i : Nat} {r : List Nat} : okW e (i :: r) = ((match e[i]? with
  | some s => okN s
  | none => true) && okW e r) := by
  show ((match e[i]? with
  | some (.mu _ _) => false
  | _ => true) && _) = _
  cases e[i]? with
  | none => rfl
  | some s => cases s <;> rfl
theorem okM_no : okM .no = true := rfl
theorem okM_im {d : D} : okM (.im d) = true := rfl
theorem okM_mf {m : Mu} : okM (.mu false m) = true := rfl
theorem okM_mt {m : Mu} : okM (.mu true m) = false := rfl
theorem okN_no : okN .no = true := rfl
theorem okN_im {d : D} : okN (.im d) = true := rfl
theorem okN_mu {p : Bool} {m : Mu} : okN (.mu p m) = false := rfl
/-! more of texts -/
theorem s_assoc (a b c : Str) : a ++ b ++ c = a ++ (b ++ c) := str_ext (by simp only [ls_app, List.append_assoc])
theorem s_nil (a : Str) : a ++ ("" : Str) = a := str_ext (by rw [ls_app]; exact List.append_nil _)
theorem s_nil' (a : Str) : ("" : Str) ++ a = a := str_ext (by rw [ls_app]; rfl)
theorem s_len (a b : Str) : (a ++ b).length = a.length + b.length := Str.length_append a b
theorem s_empty {a : Str} : a = ("" : Str) ↔ a.cps.toList = [] := ⟨fun h => h ▸ rfl, fun h => str_ext h⟩
theorem ends_one (z : Str) (c : Nat) : Txt.endswith z ⟨#[c]⟩ = decide (z.cps.toList.getLast? = some c) := by
  unfold Txt.endswith
  rw [StrLaws.subAt_eq, List.getLast?_eq_getElem?, ls_len]
  have hl : (⟨#[c]⟩ : Str).length = 1 := rfl
  rw [hl]
  cases q : z.cps.toList with
  | nil =>
    have : z.length = 0 := by rw [← ls_len, q]; rfl
    simp [this]
  | cons a l =>
    have h1 : z.length = l.length + 1 := by rw [← ls_len, q]; rfl
    rw [h1]
    have h2 : (a :: l)[l.length]? = some ((a :: l).getLast (by simp)) := by
      have e := List.getLast?_eq_getElem? (l := a :: l)
      rw [List.getLast?_eq_getLast (by simp)] at e
      exact e.symm
    have h3 : ((a :: l).drop l.length).take 1 = [(a :: l).getLast (by simp)] := by
      rw [List.take_one]
      rw [List.head?_drop, h2]
      rfl
    have h4 : l.length + 1 - 1 = l.length := by omega
    rw [h4, h2, h3]
    simp
    rfl
theorem atS_neg1 {z : Str} {c : Nat} (hl : z.length ≤ 100000) (h : z.cps.toList.getLast? = some c) : ixD (.str z) (.int (-1)) = some (.str ⟨#[c]⟩) := by
  have hp : 0 < z.cps.toList.length := by
    cases q : z.cps.toList with
    | nil => rw [q] at h; cases h
    | cons => simp
  rw [List.getLast?_eq_getElem?] at h
  show (if _ then _ else _) = _
  rw [if_pos hl]
  unfold atI ixN
  rw [if_neg (by decide), if_pos (by omega), Option.bind_some, show (-1 + (z.cps.toList.length : Int)).toNat = z.cps.toList.length - 1 by omega, h]
theorem sseq_nx {a b : SM} {e e1 : En} {r : Option Out} (h : a e = some (.nx e1)) (k : b e1 = r) : sseq a b e = r := by
  unfold sseq; rw [h]; exact k
theorem sif_t {t : MM Bool} {a b : SM} {e e1 : En} (h : t e = some (true, e1)) : sif t a b e = a e1 := by unfold sif; rw [h]
theorem sif_f {t : MM Bool} {a b : SM} {e e1 : En} (h : t e = some (false, e1)) : sif t a b e = b e1 := by unfold sif; rw [h]
theorem rng1_n {n : Int} (h0 : 0 ≤ n) (h : n ≤ 1000000) : rng1D [.int n] = some (rngD 0 n.toNat) := if_pos ⟨by omega, by omega⟩
theorem rng_len {a : Int} {n : Nat} : (rngD a n).length = n := by simp [rngD]
theorem rng_at {n i : Nat} {x : D} (h : (rngD 0 n)[i]? = some x) : x = .int i ∧ i < n := by
  unfold rngD at h
  rw [List.getElem?_map] at h
  by_cases q : i < n
  · rw [List.getElem?_range q] at h
    simp at h
    exact ⟨h.symm, q⟩
  · rw [List.getElem?_eq_none (by simp; omega)] at h
    cases h
theorem signs_at {z : Str} {i : Nat} {x : D} (h : (signsD z)[i]? = some x) : ∃ c, z.cps.toList[i]? = some c ∧ x = .str ⟨#[c]⟩ ∧ i < z.length := by
  rw [signsD, List.getElem?_map] at h
  cases q : z.cps.toList[i]? with
  | none => rw [q] at h; cases h
  | some c => rw [q] at h; cases h; exact ⟨c, rfl, rfl, by rw [← ls_len]; exact (List.getElem?_eq_some_iff.mp q).1⟩
/-! comprehensions that only read -/
theorem set_no {e : En} {i : Nat} {s : Sl} (h : e[i]? = some .no) : (e.set i s).set i .no = e := by
  rw [List.set_set]
  have hl := (List.getElem?_eq_some_iff.mp h)
  obtain ⟨hl, he⟩ := hl
  have : e.set i e[i] = e := List.set_getElem_self hl
  rw [he] at this
  exact this
theorem lcL_fm {i : Nat} {mt : MM Bool} {me : MM D} {e : En} (hi : e[i]? = some .no) (p : D → Bool) (f : D → D) : ∀ ds : List D, (∀ d ∈ ds, mt (e.set i (.im d)) = some (p d, e.set i (.im d)) ∧ (p d = true → me (e.set i (.im d)) = some (f d, e.set i (.im d)))) → lcL (.one i) [i] mt me ds e = some ((ds.filter p).map f, e)
  | [], _ => rfl
  | d :: ds, h => by
    have hl := (List.getElem?_eq_some_iff.mp hi).1
    obtain ⟨h1, h2⟩ := h d List.mem_cons_self
    have ih := lcL_fm hi p f ds (fun x hx => h x (List.mem_cons_of_mem _ hx))
    have ho : okS e i = true := by rw [okS_s, hi]; rfl
    have hw : okW (e.set i (.im d)) [i] = true := by rw [okW_cons, List.getElem?_set_self hl, okW_nil]; rfl
    have hp : wipeE (e.set i (.im d)) [i] = e := set_no hi
    simp only [lcL, mtg, if_pos ho, h1]
    cases q : p d with
    | true => simp only [h2 q, if_pos hw, hp, ih, List.filter_cons, q, if_true, List.map_cons]
    | false => simp only [if_pos hw, hp, ih, List.filter_cons, q]; rfl
theorem mlc_fm {i : Nat} {mi : MM (List D)} {mt : MM Bool} {me : MM D} {e : En} {ds : List D} (p : D → Bool) (f : D → D) (hm : mi e = some (ds, e)) (hn : ds.length ≤ 100000) (hi : e[i]? = some .no) (h : ∀ d ∈ ds, mt (e.set i (.im d)) = some (p d, e.set i (.im d)) ∧ (p d = true → me (e.set i (.im d)) = some (f d, e.set i (.im d)))) :
    mlc (.one i) [i] mi mt me e = some ((ds.filter p).map f, e) := by
  have hw : okW e [i] = true := by rw [okW_cons, hi, okW_nil]; rfl
  have hp : wipeE e [i] = e := by
    have := set_no (s := .no) hi
    rw [List.set_set] at this
    exact this
  unfold mlc
  simp only [hm, if_pos (And.intro hn hw), hp, lcL_fm hi p f ds h]
theorem mlc_m {i : Nat} {mi : MM (List D)} {me : MM D} {e : En} {ds : List D} (f : D → D) (hm : mi e = some (ds, e)) (hn : ds.length ≤ 100000) (hi : e[i]? = some .no) (h : ∀ d ∈ ds, me (e.set i (.im d)) = some (f d, e.set i (.im d))) :
    mlc (.one i) [i] mi mtrue me e = some (ds.map f, e) := by
  have := mlc_fm (fun _ => true) f hm hn hi (mt := mtrue) (fun d hd => ⟨rfl, fun _ => h d hd⟩)
  have e2 : ds.filter (fun _ => true) = ds := List.filter_eq_self.mpr fun _ _ => rfl
  rw [e2] at this
  exact this
/-! times -/
theorem fold_app (x : Array Nat) : ∀ (n : Nat) (a : Array Nat), ((List.replicate n x).foldl (· ++ ·) a).toList = a.toList ++ (List.replicate n x.toList).flatten
  | 0, a => by simp
  | n + 1, a => by
    rw [List.replicate_succ, List.foldl_cons, fold_app x n, List.replicate_succ, List.flatten_cons]
    simp
theorem ls_mul (x : Str) (n : Int) : (Txt.mul x n).cps.toList = (List.replicate n.toNat x.cps.toList).flatten := by
  unfold Txt.mul
  split
  · have : n.toNat = 0 := by omega
    rw [this]; rfl
  · split
    · rename_i h1 h
      rw [Bool.or_eq_true, beq_iff_eq, beq_iff_eq] at h
      rcases h with h | h
      · subst h; simp
      · have : x.cps.toList = [] := List.eq_nil_of_length_eq_zero (by rw [ls_len]; exact h)
        rw [this]
        simp
    · exact (fold_app x.cps n.toNat #[]).trans rfl
theorem mul_one (c : Nat) (n : Int) : Txt.mul ⟨#[c]⟩ n = ml (List.replicate n.toNat c) := str_ext (by
  rw [ls_mul]
  show (List.replicate n.toNat [c]).flatten = List.replicate n.toNat c
  induction n.toNat with
  | zero => rfl
  | succ k ih => rw [List.replicate_succ, List.flatten_cons, ih, List.replicate_succ]; rfl)
/-! strips -/
theorem drop_tw (g : Nat → Bool) : ∀ l : List Nat, l.drop (l.takeWhile g).length = l.dropWhile g
  | [] => rfl
  | d :: l => by
    rw [List.takeWhile_cons, List.dropWhile_cons]
    cases q : g d with
    | true => simpa using drop_tw g l
    | false => simp
theorem tw_le (g : Nat → Bool) : ∀ l : List Nat, (l.takeWhile g).length ≤ l.length
  | [] => Nat.le_refl _
  | d :: l => by
    rw [List.takeWhile_cons]
    split
    · exact Nat.succ_le_succ (tw_le g l)
    · exact Nat.zero_le _
def trimR (g : Nat → Bool) (l : List Nat) : List Nat := (l.reverse.dropWhile g).reverse
theorem take_trim (g : Nat → Bool) (l : List Nat) : l.take (l.length - (l.reverse.takeWhile g).length) = trimR g l := by
  unfold trimR
  rw [← drop_tw g l.reverse, List.reverse_drop, List.reverse_reverse]
  simp
theorem ls_strip (g : Nat → Bool) (l r : Bool) (x : Str) : (Txt.stripBy g l r x).cps.toList = (let d := if l then x.cps.toList.dropWhile g else x.cps.toList; if r then trimR g d else d) := by
  rw [PySem.W.stripBy_eq x g l r]
  unfold W.stripped
  have hx := ls_len x
  have hn := tw_le g x.cps.toList
  cases l with
  | false =>
    cases r with
    | false =>
      simp only [StrLaws.strSub_toList, Bool.false_eq_true, if_false, List.drop_zero, Nat.sub_zero]
      exact List.take_of_length_le (by rw [hx]; exact Nat.le_refl _)
    | true =>
      simp only [StrLaws.strSub_toList, Bool.false_eq_true, if_false, if_true, List.drop_zero, Nat.sub_zero]
      rw [← hx]; exact take_trim g _
  | true =>
    cases r with
    | false =>
      simp only [StrLaws.strSub_toList, Bool.false_eq_true, if_false, if_true]
      rw [drop_tw, List.take_of_length_le]
      rw [← drop_tw, List.length_drop, hx]
      exact Nat.le_refl _
    | true =>
      simp only [StrLaws.strSub_toList, if_true]
      rw [← drop_tw g x.cps.toList, ← take_trim]
      congr 1
      rw [List.length_drop, hx]
      omega
/-! equal lists -/
theorem toPs_ints : ∀ ns : List Int, toPs (ns.map D.int) = some (ns.map PyData.int)
  | [] => rfl
  | n :: ns => by simp [toPs, toP, toPs_ints ns]
theorem toPs_strs : ∀ ns : List Str, toPs (ns.map D.str) = some (ns.map PyData.str)
  | [] => rfl
  | n :: ns => by simp [toPs, toP, toPs_strs ns]
theorem eqv_ints : ∀ xs ys : List Int, PyData.eqvAll (xs.map .int) (ys.map .int) = decide (xs = ys)
  | [], [] => rfl
  | x :: xs, [] => rfl
  | [], y :: ys => rfl
  | x :: xs, y :: ys => by
    show (PyData.eqv (.int x) (.int y) && PyData.eqvAll _ _) = _
    rw [eqv_ints xs ys]
    show ((x == y) && _) = _
    rw [Bool.eq_iff_iff]
    simp
theorem eqv_strs : ∀ xs ys : List Str, PyData.eqvAll (xs.map .str) (ys.map .str) = decide (xs = ys)
  | [], [] => rfl
  | x :: xs, [] => rfl
  | [], y :: ys => rfl
  | x :: xs, y :: ys => by
    show (PyData.eqv (.str x) (.str y) && PyData.eqvAll _ _) = _
    rw [eqv_strs xs ys]
    show ((x == y) && _) = _
    rw [Bool.eq_iff_iff]
    simp
theorem eqB_ints (xs ys : List Int) : eqB (.lst (xs.map .int)) (.lst (ys.map .int)) = some (decide (xs = ys)) := by
  show (match toP _, toP _ with
    | some p, some q => if SeqAt.shaped p && SeqAt.shaped q then some (PyData.eqv p q) else none
    | _, _ => none) = _
  simp only [toP, toPs_ints]
  rw [shaped_ints, shaped_ints]
  show some (PyData.eqvAll _ _) = _
  rw [eqv_ints]
theorem eqD_ints (xs ys : List Int) : eqD (.lst (xs.map .int)) (.lst (ys.map .int)) = some (.bl (decide (xs = ys))) := by unfold eqD; rw [eqB_ints]
theorem neD_ints (xs ys : List Int) : neD (.lst (xs.map .int)) (.lst (ys.map .int)) = some (.bl (!decide (xs = ys))) := by unfold neD; rw [eqB_ints]
theorem swhile_f {t : MM Bool} {mb : SM} {n : Nat} {e e1 : En} (h : t e = some (false, e1)) : swhile t mb (n + 1) e = some (.nx e1) := by unfold swhile; rw [h]
theorem swhile_t {t : MM Bool} {mb : SM} {n : Nat} {e e1 e2 : En} (h : t e = some (true, e1)) (h2 : mb e1 = some (.nx e2)) : swhile t mb (n + 1) e = swhile t mb n e2 := by
  conv => lhs; unfold swhile
  rw [h]; simp only [h2]
def OkS (xs : List Str) : Prop := ∀ s ∈ xs, PyData.strOk s = true
theorem shaped_strs (ns : List Str) (hn : OkS ns) : SeqAt.shaped (.list (ns.map PyData.str)) = true := by
  unfold SeqAt.shaped
  rw [Bool.and_eq_true]
  constructor
  · have : ∀ ns : List Str, OkS ns → PyData.canLayAll0 (ns.map PyData.str) = true := fun ns hn => by
      induction ns with
      | nil => rfl
      | cons n ns ih => simp [PyData.canLayAll0, PyData.canLay0, ih (fun s hs => hn s (List.mem_cons_of_mem _ hs)), hn n List.mem_cons_self]
    simp [PyData.canLay0, this ns hn]
  · have : ∀ ns : List Str, PyData.depthAll (ns.map PyData.str) ≤ 1 := fun ns => by
      induction ns with
      | nil => simp [PyData.depthAll]
      | cons n ns ih => simp [PyData.depthAll, PyData.depth]; omega
    have h := this ns
    simp [PyData.depth]
    omega
theorem eqB_strs (xs ys : List Str) (hx : OkS xs) (hy : OkS ys) : eqB (.lst (xs.map .str)) (.lst (ys.map .str)) = some (decide (xs = ys)) := by
  show (match toP _, toP _ with
    | some p, some q => if SeqAt.shaped p && SeqAt.shaped q then some (PyData.eqv p q) else none
    | _, _ => none) = _
  simp only [toP, toPs_strs]
  rw [shaped_strs xs hx, shaped_strs ys hy]
  show some (PyData.eqvAll _ _) = _
  rw [eqv_strs]
theorem eqD_strs (xs ys : List Str) (hx : OkS xs) (hy : OkS ys) : eqD (.lst (xs.map .str)) (.lst (ys.map .str)) = some (.bl (decide (xs = ys))) := by unfold eqD; rw [eqB_strs xs ys hx hy]
theorem neD_strs (xs ys : List Str) (hx : OkS xs) (hy : OkS ys) : neD (.lst (xs.map .str)) (.lst (ys.map .str)) = some (.bl (!decide (xs = ys))) := by unfold neD; rw [eqB_strs xs ys hx hy]
theorem nilO_strs {i : Nat} {e : En} {p : Bool} {xs : List Str} (neg : Bool) (hx : OkS xs) (h : e[i]? = some (.mu p (.ml (xs.map .str)))) : mnilO neg i e = some (neg != xs.isEmpty, e) := by
  unfold mnilO
  rw [h]
  simp only [toPs_strs]
  rw [shaped_strs xs hx]
  cases neg <;> cases xs <;> rfl
end Zf

set_option Elab.async false
set_option linter.all false
set_option maxRecDepth 100000
/-! more of texts as rows of signs: affixes, cuts, patterns, places -/
namespace Zf
open PySem PySem.Spec L2 PySem.Builtin PySem.Builtin.Str
def AtL (y z : List Nat) (hi i : Nat) : Prop := i + y.length ≤ hi ∧ (z.drop i).take y.length = y
instance (y z : List Nat) (hi i : Nat) : Decidable (AtL y z hi i) := by unfold AtL; infer_instance
theorem at_ml {y z : List Nat} {hi i : Nat} : StrLaws.At (ml z) (ml y) hi i ↔ AtL y z hi i := by
  unfold StrLaws.At AtL
  rw [StrLaws.subAt_eq, ml_len, ls_ml, ls_ml, beq_iff_eq]
theorem starts_ml (z y : List Nat) : Txt.startswith (ml z) (ml y) = decide (z.take y.length = y) := by
  unfold Txt.startswith
  rw [StrLaws.subAt_eq, ml_len, ml_len, ls_ml, ls_ml, List.drop_zero]
  by_cases q : z.take y.length = y
  · have : y.length ≤ z.length := by
      have := congrArg List.length q
      rw [List.length_take] at this
      omega
    rw [decide_eq_true q, decide_eq_true (by omega), Bool.true_and, beq_iff_eq]; exact q
  · rw [decide_eq_false q]
    have : (z.take y.length == y) = false := by rw [beq_eq_false_iff_ne]; exact q
    rw [this, Bool.and_false]
theorem ends_ml (z y : List Nat) : Txt.endswith (ml z) (ml y) = (decide (y.length ≤ z.length) && decide (z.drop (z.length - y.length) = y)) := by
  unfold Txt.endswith
  rw [StrLaws.subAt_eq, ml_len, ml_len, ls_ml, ls_ml]
  by_cases q : y.length ≤ z.length
  · rw [decide_eq_true q, decide_eq_true (show 0 + y.length ≤ z.length by omega), Bool.true_and, Bool.true_and, List.take_of_length_le (by rw [List.length_drop]; omega)]
    rw [Bool.eq_iff_iff, beq_iff_eq, decide_eq_true_eq]
  · rw [decide_eq_false q, decide_eq_false (show ¬ 0 + y.length ≤ z.length by omega), Bool.false_and, Bool.false_and]
theorem cutS_from (z : List Nat) (k : Nat) : cutS (ml z) (some (k : Int)) none = ml (z.drop k) := by
  unfold cutS HT.sIx
  simp only
  rw [if_neg (by omega), ml_len, ls_ml, Int.toNat_natCast]
  show ml _ = ml _
  congr 1
  rw [List.take_of_length_le (by rw [List.length_drop]; exact Nat.le_refl _)]
  by_cases q : k ≤ z.length
  · rw [Nat.min_eq_left q]
  · rw [Nat.min_eq_right (by omega), List.drop_length, List.drop_of_length_le (by omega)]
theorem cutS_to (z : List Nat) (k : Nat) : cutS (ml z) none (some (k : Int)) = ml (z.take k) := by
  unfold cutS HT.sIx
  simp only
  rw [if_neg (by omega), ml_len, ls_ml, Int.toNat_natCast, List.drop_zero, Nat.sub_zero]
  show ml _ = ml _
  congr 1
  by_cases q : k ≤ z.length
  · rw [Nat.min_eq_left q]
  · rw [Nat.min_eq_right (by omega), List.take_length, List.take_of_length_le (by omega)]
theorem cutS_ab (z : List Nat) (a b : Nat) (h : a ≤ b) : cutS (ml z) (some (a : Int)) (some (b : Int)) = ml ((z.drop a).take (b - a)) := by
  unfold cutS HT.sIx
  simp only
  rw [if_neg (by omega), if_neg (by omega), ml_len, ls_ml, Int.toNat_natCast, Int.toNat_natCast]
  show ml _ = ml _
  congr 1
  by_cases q : a ≤ z.length
  · rw [Nat.min_eq_left q]
    by_cases q2 : b ≤ z.length
    · rw [Nat.min_eq_left q2]
    · rw [Nat.min_eq_right (by omega), List.take_of_length_le (by rw [List.length_drop]; omega), List.take_of_length_le (by rw [List.length_drop]; omega)]
  · rw [Nat.min_eq_right (show z.length ≤ a by omega), List.drop_length, List.drop_of_length_le (show z.length ≤ a by omega), List.take_nil, List.take_nil]
/-- the first place of y from a on, its end no more than b -/
theorem findIn_ml (z y : List Nat) (a b : Nat) (hb : b ≤ z.length) : (Txt.findIn (ml z) (ml y) (a : Int) (b : Int) = -1 ∧ ∀ i, a ≤ i → ¬ AtL y z b i) ∨ ∃ i : Nat, Txt.findIn (ml z) (ml y) (a : Int) (b : Int) = (i : Int) ∧ a ≤ i ∧ AtL y z b i ∧ ∀ k, a ≤ k → k < i → ¬ AtL y z b k := by
  have e1 : fromIndex (ml z).length (a : Int) = a := by unfold fromIndex; rw [if_neg (by omega)]; omega
  have e2 : toIndexW (ml z).length (b : Int) = b := by unfold toIndexW; rw [if_neg (by omega), ml_len]; omega
  unfold Txt.findIn
  rw [e1, e2, StrLaws.occ_eq]
  rcases StrLaws.occ_first (ml z) (ml y) b 1 (Nat.le_refl 1) (List.range' a (b + 1 - a)) a (fun i hi => by
    rw [List.mem_range'] at hi
    obtain ⟨j, _, rfl⟩ := hi
    omega) with ⟨h0, hn⟩ | ⟨pre, c, post, e, h0, hc, hn⟩
  · refine .inl ⟨by rw [h0], fun i hi hA => ?_⟩
    exact hn i (by rw [List.mem_range']; exact ⟨i - a, by have := hA.1; omega, by omega⟩) (at_ml.mpr hA)
  · have hp : ∀ k, a ≤ k → k < c → k ∈ pre := fun k hk1 hk2 => by
      have hL : b + 1 - a = pre.length + (post.length + 1) := by
        have := congrArg List.length e
        simpa using this
      have h1 : (List.range' a (b + 1 - a))[pre.length]? = some c := by rw [e]; simp
      rw [List.getElem?_range' (by omega)] at h1
      have h1 : a + 1 * pre.length = c := by simpa using h1
      have h2 : (List.range' a (b + 1 - a))[k - a]? = pre[k - a]? := by rw [e, List.getElem?_append_left (by omega)]
      rw [List.getElem?_range' (by omega)] at h2
      have h3 : pre[k - a]? = some k := by rw [← h2]; congr 1; omega
      exact List.mem_of_getElem? h3
    have hca : a ≤ c := by
      have : c ∈ List.range' a (b + 1 - a) := by rw [e]; simp
      rw [List.mem_range'] at this
      obtain ⟨j, _, rfl⟩ := this
      omega
    refine .inr ⟨c, ?_, hca, at_ml.mp hc, fun k hk1 hk2 hA => hn k (hp k hk1 hk2) (at_ml.mpr hA)⟩
    generalize (forIn (List.range' a (b + 1 - a)) ((#[] : Array Nat), a) (StrLaws.occBody (ml z) (ml y) b 1)).run.fst = arr at h0
    have h1 : arr.toList[0]? = some c := by simpa using h0
    cases hL : arr.toList with
    | nil => rw [hL] at h1; cases h1
    | cons d t => rw [hL] at h1; simp at h1; rw [h1]
/-! split by a pattern -/
def consH (c : Nat) : List (List Nat) → List (List Nat)
  | p :: r => (c :: p) :: r
  | [] => [[c]]
def spk (y : List Nat) : Nat → List Nat → List (List Nat)
  | _, [] => [[]]
  | k + 1, _ :: l => spk y k l
  | 0, c :: l => if (c :: l).take y.length = y then [] :: spk y (y.length - 1) l else consH c (spk y 0 l)
theorem spk_nil (y : List Nat) (k : Nat) : spk y k [] = [[]] := by cases k <;> rfl
theorem spk_succ (y : List Nat) (k c : Nat) (l : List Nat) : spk y (k + 1) (c :: l) = spk y k l := rfl
theorem spk_cons (y : List Nat) (c : Nat) (l : List Nat) : spk y 0 (c :: l) = if (c :: l).take y.length = y then [] :: spk y (y.length - 1) l else consH c (spk y 0 l) := rfl
theorem spk_skip (y : List Nat) : ∀ (k : Nat) (l : List Nat), spk y k l = spk y 0 (l.drop k)
  | 0, l => rfl
  | k + 1, [] => by rw [List.drop_nil, spk_nil, spk_nil]
  | k + 1, c :: l => by
    rw [spk_succ, spk_skip y k l]; rfl
theorem spk_ne (y : List Nat) : ∀ (k : Nat) (l : List Nat), spk y k l ≠ []
  | _, [] => by rw [spk_nil]; simp
  | k + 1, c :: l => spk_ne y k l
  | 0, c :: l => by
    rw [spk_cons]
    split
    · simp
    · unfold consH; split <;> simp
theorem spk_hit (y l : List Nat) (hy : y ≠ []) : spk y 0 (y ++ l) = [] :: spk y 0 l := by
  cases y with
  | nil => exact absurd rfl hy
  | cons c y =>
    show spk (c :: y) 0 (c :: (y ++ l)) = _
    rw [spk_cons, if_pos (by
      rw [← List.cons_append]
      simp), spk_skip]
    have : (y ++ l).drop ((c :: y).length - 1) = l := by
      show List.drop (y.length + 1 - 1) (y ++ l) = l
      simp
    rw [this]
theorem spk_free (y : List Nat) : ∀ (p l : List Nat), (∀ i, i < p.length → ¬ ((p ++ l).drop i).take y.length = y) → spk y 0 (p ++ l) = (match spk y 0 l with
    | q :: r => (p ++ q) :: r
    | [] => [p])
  | [], l, _ => by
    cases q : spk y 0 l with
    | nil => exact absurd q (spk_ne y 0 l)
    | cons a r => simpa using q
  | c :: p, l, h => by
    have ih := spk_free y p l (fun i hi => by
      have := h (i + 1) (by simpa using hi)
      simpa using this)
    show spk y 0 (c :: (p ++ l)) = _
    rw [spk_cons, if_neg (by have := h 0 (by simp); simpa using this), ih]
    cases q : spk y 0 l with
    | nil => exact absurd q (spk_ne y 0 l)
    | cons a r => rfl
theorem spk_none (y l : List Nat) (hy : y ≠ []) (h : ∀ i, ¬ AtL y l l.length i) : spk y 0 l = [l] := by
  have := spk_free y l [] (fun i hi e => by
    refine h i ⟨?_, by simpa using e⟩
    have := congrArg List.length e
    simp only [List.append_nil, List.length_take, List.length_drop] at this
    omega)
  rw [List.append_nil] at this
  rw [this]
  show [l ++ []] = [l]
  rw [List.append_nil]
theorem parts_spk (z y : List Nat) (hy : y ≠ []) : ∀ (cuts : List Nat) (a f : Nat), a ≤ z.length → StrLaws.ChainG (ml z) (ml y) z.length a cuts f → (∀ k, f ≤ k → ¬ AtL y z z.length k) → StrLaws.partsFrom (ml z) y.length a cuts = (spk y 0 (z.drop a)).map ml
  | [], a, f, ha, h, hn => by
    have e : f = a := h
    subst e
    rw [spk_none y _ hy (fun i hA => hn (f + i) (Nat.le_add_right _ _) ⟨by have := hA.1; rw [List.length_drop] at this; omega, by have := hA.2; rw [List.drop_drop] at this; exact this⟩)]
    show [strSub (ml z) f (ml z).length] = [ml (z.drop f)]
    congr 1
    refine str_ext ?_
    rw [StrLaws.strSub_toList, ls_ml, ml_len, ls_ml, List.take_of_length_le (by rw [List.length_drop]; exact Nat.le_refl _)]
  | c :: r, a, f, ha, h, hn => by
    obtain ⟨h1, h2, h3, h4⟩ := h
    have hA := at_ml.mp h2
    rw [ml_len] at h4
    have ih := parts_spk z y hy r (c + y.length) f hA.1 h4 hn
    have e0 : z.drop a = (z.drop a).take (c - a) ++ (y ++ z.drop (c + y.length)) := by
      have e1 : z.drop c = y ++ z.drop (c + y.length) := by
        conv => lhs; rw [← List.take_append_drop y.length (z.drop c), hA.2, List.drop_drop]
      rw [← e1]
      conv => lhs; rw [← List.take_append_drop (c - a) (z.drop a), List.drop_drop, show a + (c - a) = c by omega]
    have hl : ((z.drop a).take (c - a)).length = c - a := by rw [List.length_take, List.length_drop]; have := hA.1; omega
    have e2 := spk_free y ((z.drop a).take (c - a)) (y ++ z.drop (c + y.length)) (fun i hi e => by
      rw [← e0, List.drop_drop] at e
      refine h3 (a + i) (Nat.le_add_right _ _) (by rw [hl] at hi; omega) (at_ml.mpr ⟨?_, e⟩)
      have := congrArg List.length e
      rw [List.length_take, List.length_drop] at this
      have hc := hA.1
      have : 0 < y.length := by
        cases y with
        | nil => exact absurd rfl hy
        | cons => simp
      omega)
    rw [← e0, spk_hit y _ hy] at e2
    have e2 : spk y 0 (z.drop a) = ((z.drop a).take (c - a) ++ []) :: spk y 0 (z.drop (c + y.length)) := e2
    rw [e2, List.append_nil]
    show strSub (ml z) a c :: StrLaws.partsFrom (ml z) y.length (c + y.length) r = _
    rw [ih]
    show _ = ml _ :: _
    congr 1
    refine str_ext ?_
    rw [StrLaws.strSub_toList, ls_ml, ls_ml]
theorem kind_sub {z y : List Nat} {i : Nat} (h : PySem.Builtin.Str.strKind (ml z) < PySem.Builtin.Str.strKind (ml y)) (hA : AtL y z z.length i) : False := by
  have hall : ∀ B : Nat, (ml z).cps.all (· < B) = true → (ml y).cps.all (· < B) = true := fun B hB => by
    rw [← Array.all_toList] at hB ⊢
    rw [List.all_eq_true] at hB ⊢
    intro c hc
    refine hB c ?_
    rw [ls_ml] at hc ⊢
    rw [← hA.2] at hc
    exact List.mem_of_mem_drop (List.mem_of_mem_take hc)
  unfold PySem.Builtin.Str.strKind at h
  by_cases a1 : (ml z).cps.all (· < 256) = true
  · rw [if_pos a1, if_pos (hall 256 a1)] at h
    omega
  · rw [if_neg a1] at h
    by_cases a2 : (ml z).cps.all (· < 65536) = true
    · rw [if_pos a2, if_pos (hall 65536 a2)] at h
      split at h <;> omega
    · rw [if_neg a2] at h
      split at h
      · omega
      · split at h <;> omega
theorem split_ml (z y : List Nat) (hy : y ≠ []) : Txt.split (ml z) (ml y) = (spk y 0 z).map ml := by
  have hp : 1 ≤ (ml y).length := by
    rw [ml_len]
    cases y with
    | nil => exact absurd rfl hy
    | cons => simp
  obtain ⟨f, hG, hn⟩ := StrLaws.occ_tight (ml z) (ml y) hp
  have hn' : ∀ k, f ≤ k → ¬ AtL y z z.length k := fun k hk hA => hn k hk (by rw [ml_len]; exact at_ml.mpr hA)
  rw [ml_len] at hG
  unfold Txt.split
  split
  · rename_i hc
    rw [Bool.or_eq_true, decide_eq_true_eq, decide_eq_true_eq] at hc
    have e := spk_none y z hy (fun i hA => by
      rcases hc with h | h
      · rw [ml_len, ml_len] at h
        have := hA.1; omega
      · exact kind_sub h hA)
    rw [e]; rfl
  · split
    · rename_i he
      have e0 : occurrences (ml z) (ml y) 0 z.length (z.length + 1) = [] := by
        have := List.isEmpty_iff.mp he
        rw [ml_len] at this
        exact this
      rw [e0] at hG
      have ef : f = 0 := hG
      subst ef
      rw [spk_none y z hy (fun i => hn' i (Nat.zero_le _))]; rfl
    · rw [StrLaws.partsBetween_eq]
      rw [ml_len, ml_len]
      exact parts_spk z y hy _ 0 f (Nat.zero_le _) hG hn'
end Zf

namespace Zz
open PySem PySem.Spec L2 Zf
def fA (ns : List Int) : List Int := ns.filter fun n => decide (10 ^ 18 ≤ n)
def fB (ns : List Int) : List Int := ns.filter fun n => decide (n < 10 ^ 18)
def m_frozen_r0 : SM :=
  sseq (sif (MM.opt (MM.opt (mvar 0) (isiD "dict")) truD) (sret (mbad)) (snx)) <|
  sret (mif (MM.opt (MM.opt (mvar 0) (isiDs ["list", "tuple"])) truD) (MM.opt (mcons (MM.map (mlc (.one 2) [2] (MM.opt (mvar 0) seqD) (mtrue) (mbad)) .lst) (mnil)) tupleL) (mvar 0))
abbrev F_frozen_r0 : FM := fnM 3 m_frozen_r0
theorem len_frozen_r0 : ∀ args d news, F_frozen_r0 args = some (d, news) → news.length = args.length := fun _ _ _ h => fnM_length h
abbrev e_frozen_r1_1 : MM D := mcall F_frozen_r0 [] (acim (mvar 2) (anil))
def m_frozen_r1 : SM :=
  sseq (sif (MM.opt (MM.opt (mvar 0) (isiD "dict")) truD) (sret (mbad)) (snx)) <|
  sret (mif (MM.opt (MM.opt (mvar 0) (isiDs ["list", "tuple"])) truD) (MM.opt (mcons (MM.map (mlc (.one 2) [2] (MM.opt (mvar 0) seqD) (mtrue) (e_frozen_r1_1)) .lst) (mnil)) tupleL) (mvar 0))
abbrev F_frozen_r1 : FM := fnM 3 m_frozen_r1
theorem len_frozen_r1 : ∀ args d news, F_frozen_r1 args = some (d, news) → news.length = args.length := fun _ _ _ h => fnM_length h
abbrev e_frozen_1 : MM D := mcall F_frozen_r1 [] (acim (mvar 2) (anil))
def m_frozen : SM :=
  sseq (sif (MM.opt (MM.opt (mvar 0) (isiD "dict")) truD) (sret (mbad)) (snx)) <|
  sret (mif (MM.opt (MM.opt (mvar 0) (isiDs ["list", "tuple"])) truD) (MM.opt (mcons (MM.map (mlc (.one 2) [2] (MM.opt (mvar 0) seqD) (mtrue) (e_frozen_1)) .lst) (mnil)) tupleL) (mvar 0))
abbrev F_frozen : FM := fnM 3 m_frozen
theorem len_frozen : ∀ args d news, F_frozen args = some (d, news) → news.length = args.length := fun _ _ _ h => fnM_length h
abbrev b_widened_1 : SM := (saug 1 (mif (MM.opt (mop2 eqD (mvar 2) (mc (.str "\t"))) blD) (mop2 mulD (mc (.str " ")) (mop2 subD (mc (.int 8)) (mop2 modD (MM.opt (mcons (mvar 1) (mnil)) lenL) (mc (.int 8))))) (mvar 2)))
def m_widened : SM :=
  sseq (sset 1 (mc (.str ""))) <|
  sseq (sfor (.one 2) (MM.opt (mvar 0) seqD) b_widened_1) <|
  sret (mvar 1)
abbrev F_widened : FM := fnM 3 m_widened
theorem len_widened : ∀ args d news, F_widened args = some (d, news) → news.length = args.length := fun _ _ _ h => fnM_length h
def m_indent_of : SM :=
  sret (mop2 subD (MM.opt (mcons (mvar 0) (mnil)) lenL) (MM.opt (mcons (mmeth (stripM Txt.lstripChars) (mvar 0) (mcons (mc (.str " ")) (mnil))) (mnil)) lenL))
abbrev F_indent_of : FM := fnM 1 m_indent_of
theorem len_indent_of : ∀ args d news, F_indent_of args = some (d, news) → news.length = args.length := fun _ _ _ h => fnM_length h
def m_is_blank : SM :=
  sret (mop2 eqD (mmeth (stripM Txt.stripChars) (mvar 0) (mcons (mc (.str " \t")) (mnil))) (mc (.str "")))
abbrev F_is_blank : FM := fnM 1 m_is_blank
theorem len_is_blank : ∀ args d news, F_is_blank args = some (d, news) → news.length = args.length := fun _ _ _ h => fnM_length h
abbrev e_levelled_1 : MM D := mcall F_widened [] (acim (mvar 4) (anil))
abbrev e_levelled_2 : MM D := mcall F_indent_of [] (acim (mvar 4) (anil))
abbrev t_levelled_3 : MM Bool := mnotB (MM.opt (mcall F_is_blank [] (acim (mvar 4) (anil))) truD)
abbrev e_levelled_4 : MM D := msl (mvar 4) (MM.opt (mvar 3) intD) (fun env => some (none, env))
def m_levelled : SM :=
  sseq (sset 1 (MM.map (mlc (.one 4) [4] (MM.opt (MM.map (fmeth splitM (mvar 0) (mcons (mc (.str "\n")) (mnil))) .lst) seqD) (mtrue) (e_levelled_1)) .lst)) <|
  sseq (sset 2 (MM.map (mlc (.one 4) [4] (MM.opt (mvar 1) seqD) (t_levelled_3) (e_levelled_2)) .lst)) <|
  sseq (sset 3 (mif (MM.opt (mop2 neD (mvar 2) (MM.map (MM.opt (mnil) few) .lst)) blD) (MM.opt (mcons (mvar 2) (mnil)) minL) (mc (.int 0)))) <|
  sret (mmeth joinM (mc (.str "\n")) (mcons (MM.map (mlc (.one 4) [4] (MM.opt (mvar 1) seqD) (mtrue) (e_levelled_4)) .lst) (mnil)))
abbrev F_levelled : FM := fnM 5 m_levelled
theorem len_levelled : ∀ args d news, F_levelled args = some (d, news) → news.length = args.length := fun _ _ _ h => fnM_length h
abbrev b_directive_place_1 : SM := (sseq (sset 3 (mmeth (stripM Txt.lstripChars) (msl (mvar 0) (MM.opt (mop2 addD (mvar 1) (mc (.int 1))) intD) (fun env => some (none, env))) (mcons (mc (.str " \t")) (mnil)))) <|
  sif (mandB (MM.opt (mop2 eqD (mvar 2) (mc (.str "#"))) blD) (mandB (MM.opt (mmeth startsM (mvar 3) (mcons (mc (.str "doctest:")) (mnil))) truD) (mandB (MM.opt (mop2 ninD (mc (.str "'")) (mvar 3)) blD) (MM.opt (mop2 ninD (mc (.str "\"")) (mvar 3)) blD)))) (sret (mvar 1)) (snx))
def m_directive_place : SM :=
  sseq (sfor (.tup [1, 2]) (MM.opt (mcons (mvar 0) (mnil)) strE) b_directive_place_1) <|
  sret (MM.opt (mc (.int 1)) negD)
abbrev F_directive_place : FM := fnM 4 m_directive_place
theorem len_directive_place : ∀ args d news, F_directive_place args = some (d, news) → news.length = args.length := fun _ _ _ h => fnM_length h
abbrev b_option_words_1 : SM := (sseq (sset 3 (mcall F_directive_place [] (acim (mvar 2) (anil)))) <|
  sif (MM.opt (mop2 geD (mvar 3) (mc (.int 0))) blD) (sseq (sset 4 (msl (mmeth (stripM Txt.lstripChars) (msl (mvar 2) (MM.opt (mop2 addD (mvar 3) (mc (.int 1))) intD) (fun env => some (none, env))) (mcons (mc (.str " \t")) (mnil))) (MM.opt (MM.opt (mcons (mc (.str "doctest:")) (mnil)) lenL) intD) (fun env => some (none, env)))) <|
  sdrop (mextend 1 (fmeth wordsM (mbad) mnil))) (snx))
def m_option_words : SM :=
  sseq (sown 1 (MM.opt (mnil) few)) <|
  sseq (sfor (.one 2) (MM.opt (MM.map (fmeth splitM (mvar 0) (mcons (mc (.str "\n")) (mnil))) .lst) seqD) b_option_words_1) <|
  sret (mvar 1)
abbrev F_option_words : FM := fnM 5 m_option_words
theorem len_option_words : ∀ args d news, F_option_words args = some (d, news) → news.length = args.length := fun _ _ _ h => fnM_length h
def m_is_option_word : SM :=
  sret (mandV (MM.opt (mvar 0) (isiD "str")) (mandV (mop2 inD (msl (mvar 0) (fun env => some (none, env)) (MM.opt (mc (.int 1)) intD)) (MM.map (MM.opt (mcons (mc (.str "+")) (mcons (mc (.str "-")) (mnil))) few) .tup)) (mop2 inD (msl (mvar 0) (MM.opt (mc (.int 1)) intD) (fun env => some (none, env))) (mc (.tup [.str "DONT_ACCEPT_TRUE_FOR_1", .str "DONT_ACCEPT_BLANKLINE", .str "NORMALIZE_WHITESPACE", .str "ELLIPSIS", .str "SKIP", .str "IGNORE_EXCEPTION_DETAIL", .str "REPORT_ONLY_FIRST_FAILURE", .str "FAIL_FAST"])))))
abbrev F_is_option_word : FM := fnM 1 m_is_option_word
theorem len_is_option_word : ∀ args d news, F_is_option_word args = some (d, news) → news.length = args.length := fun _ _ _ h => fnM_length h
abbrev b_bare_source_1 : SM := (sseq (sset 3 (mcall F_directive_place [] (acim (mvar 2) (anil)))) <|
  sdrop (mappend 1 (mmeth (stripM Txt.rstripChars) (mif (MM.opt (mop2 ltD (mvar 3) (mc (.int 0))) blD) (mvar 2) (msl (mvar 2) (fun env => some (none, env)) (MM.opt (mvar 3) intD))) (mcons (mc (.str " \t")) (mnil)))))
def m_bare_source : SM :=
  sseq (sown 1 (MM.opt (mnil) few)) <|
  sseq (sfor (.one 2) (MM.opt (MM.map (fmeth splitM (mvar 0) (mcons (mc (.str "\n")) (mnil))) .lst) seqD) b_bare_source_1) <|
  sret (mmeth joinM (mc (.str "\n")) (mcons (mvar 1) (mnil)))
abbrev F_bare_source : FM := fnM 4 m_bare_source
theorem len_bare_source : ∀ args d news, F_bare_source args = some (d, news) → news.length = args.length := fun _ _ _ h => fnM_length h
abbrev b_error_of_1 : SM := (sif (mandB (MM.opt (mop2 neD (mop2 ixD (mvar 1) (mvar 2)) (mc (.str ""))) blD) (MM.opt (mop2 inD (mop2 ixD (mop2 ixD (mvar 1) (mvar 2)) (mc (.int 0))) (mc (.str "abcdefghijklmnopqrstuvwxyzABCDEFGHIJKLMNOPQRSTUVWXYZ0123456789_"))) blD)) (sret (mmeth joinM (mc (.str "\n")) (mcons (msl (mvar 1) (MM.opt (mvar 2) intD) (fun env => some (none, env))) (mnil)))) (snx))
def m_error_of : SM :=
  sseq (sset 1 (MM.map (fmeth splitM (mvar 0) (mcons (mc (.str "\n")) (mnil))) .lst)) <|
  sseq (sif (MM.opt (mop2 ninD (mmeth (stripM Txt.rstripChars) (mop2 ixD (mvar 1) (mc (.int 0))) (mcons (mc (.str " ")) (mnil))) (mc (.tup [.str "Traceback (most recent call last):", .str "Traceback (innermost last):"]))) blD) (sret (mc .non)) (snx)) <|
  sseq (sfor (.one 2) (MM.opt (mcons (mc (.int 1)) (mcons (MM.opt (mcons (mvar 1) (mnil)) lenL) (mnil))) rng2D) b_error_of_1) <|
  sret (mc .non)
abbrev F_error_of : FM := fnM 3 m_error_of
theorem len_error_of : ∀ args d news, F_error_of args = some (d, news) → news.length = args.length := fun _ _ _ h => fnM_length h
def m_with_line_feed : SM :=
  sret (mif (MM.opt (mmeth endsM (mvar 0) (mcons (mc (.str "\n")) (mnil))) truD) (mvar 0) (mop2 addD (mvar 0) (mc (.str "\n"))))
abbrev F_with_line_feed : FM := fnM 1 m_with_line_feed
theorem len_with_line_feed : ∀ args d news, F_with_line_feed args = some (d, news) → news.length = args.length := fun _ _ _ h => fnM_length h
def m_Example___init__ : SM :=
  sseq (sset 6 (mif (MM.opt (MM.opt (mvar 6) isN) blD) (mc (.dct [])) (mvar 6))) <|
  sseq (sforD 6) <|
  sseq (sattr 0 0 "source" (mcall F_with_line_feed [] (acim (mvar 1) (anil)))) <|
  sseq (sattr 0 0 "want" (mif (MM.opt (mop2 eqD (mvar 2) (mc (.str ""))) blD) (mvar 2) (mcall F_with_line_feed [] (acim (mvar 2) (anil))))) <|
  sseq (sattr 0 0 "error" (mif (MM.opt (MM.opt (mvar 3) isN) blD) (mc .non) (mcall F_with_line_feed [] (acim (mvar 3) (anil))))) <|
  sseq (sattr 0 0 "line" (mvar 4)) <|
  sseq (sattr 0 0 "indent" (mvar 5)) <|
  sseq (sattr 0 0 "options" (MM.opt (mcons (mvar 6) (mnil)) dictL)) <|
  sattr 0 0 "bare" (mcall F_bare_source [] (acim (mattrO 0 0 "source") (anil)))
abbrev F_Example___init__ : FM := fnM 8 m_Example___init__
theorem len_Example___init__ : ∀ args d news, F_Example___init__ args = some (d, news) → news.length = args.length := fun _ _ _ h => fnM_length h
def m_Example_parts : SM :=
  sret (MM.map (MM.opt (mcons (MM.opt (mvar 0) (attrD [0, 1] "source")) (mcons (MM.opt (mvar 0) (attrD [0, 1] "want")) (mcons (MM.opt (mvar 0) (attrD [0] "error")) (mcons (MM.opt (mvar 0) (attrD [0, 1] "line")) (mcons (MM.opt (mvar 0) (attrD [0, 1] "indent")) (mcons (MM.opt (mvar 0) (attrD [0] "options")) (mnil))))))) few) .lst)
abbrev F_Example_parts : FM := fnM 1 m_Example_parts
theorem len_Example_parts : ∀ args d news, F_Example_parts args = some (d, news) → news.length = args.length := fun _ _ _ h => fnM_length h
def m_Example___eq__ : SM :=
  sret (mandV (MM.opt (mvar 1) (isiC 0 [0, 1])) (mop2 eqD (mbad) (mbad)))
abbrev F_Example___eq__ : FM := fnM 2 m_Example___eq__
theorem len_Example___eq__ : ∀ args d news, F_Example___eq__ args = some (d, news) → news.length = args.length := fun _ _ _ h => fnM_length h
def m_Comment___init__ : SM :=
  sseq (sattr 0 1 "source" (mcall F_with_line_feed [] (acim (mvar 1) (anil)))) <|
  sseq (sattr 0 1 "want" (mif (MM.opt (mop2 eqD (mvar 2) (mc (.str ""))) blD) (mvar 2) (mcall F_with_line_feed [] (acim (mvar 2) (anil))))) <|
  sseq (sattr 0 1 "line" (mvar 3)) <|
  sattr 0 1 "indent" (mvar 4)
abbrev F_Comment___init__ : FM := fnM 5 m_Comment___init__
theorem len_Comment___init__ : ∀ args d news, F_Comment___init__ args = some (d, news) → news.length = args.length := fun _ _ _ h => fnM_length h
def m_Comment_parts : SM :=
  sret (MM.map (MM.opt (mcons (MM.opt (mvar 0) (attrD [0, 1] "source")) (mcons (MM.opt (mvar 0) (attrD [0, 1] "want")) (mcons (MM.opt (mvar 0) (attrD [0, 1] "line")) (mcons (MM.opt (mvar 0) (attrD [0, 1] "indent")) (mnil))))) few) .lst)
abbrev F_Comment_parts : FM := fnM 1 m_Comment_parts
theorem len_Comment_parts : ∀ args d news, F_Comment_parts args = some (d, news) → news.length = args.length := fun _ _ _ h => fnM_length h
def m_Comment___eq__ : SM :=
  sret (mandV (MM.opt (mvar 1) (isiC 1 [0, 1])) (mop2 eqD (mbad) (mbad)))
abbrev F_Comment___eq__ : FM := fnM 2 m_Comment___eq__
theorem len_Comment___eq__ : ∀ args d news, F_Comment___eq__ args = some (d, news) → news.length = args.length := fun _ _ _ h => fnM_length h
def m_is_prompt : SM :=
  sret (mmeth startsM (mmeth (stripM Txt.lstripChars) (mvar 0) (mcons (mc (.str " ")) (mnil))) (mcons (mc (.str ">>>")) (mnil)))
abbrev F_is_prompt : FM := fnM 1 m_is_prompt
theorem len_is_prompt : ∀ args d news, F_is_prompt args = some (d, news) → news.length = args.length := fun _ _ _ h => fnM_length h
abbrev b_check_lines_1 : SM := (sif (MM.opt (mop2 ninD (msl (mop2 ixD (mvar 0) (mvar 5)) (MM.opt (mop2 addD (mvar 4) (mc (.int 3))) intD) (MM.opt (mop2 addD (mvar 4) (mc (.int 4))) intD)) (MM.map (MM.opt (mcons (mc (.str "")) (mcons (mc (.str " ")) (mnil))) few) .tup)) blD) (sbad) (snx))
abbrev b_check_lines_2 : SM := (sif (mnotB (MM.opt (mmeth startsM (mop2 ixD (mvar 0) (mvar 5)) (mcons (mop2 addD (mop2 mulD (mc (.str " ")) (mvar 4)) (mc (.str "."))) (mnil))) truD)) (sbad) (snx))
abbrev b_check_lines_3 : SM := (sif (mnotB (MM.opt (mmeth startsM (mop2 ixD (mvar 0) (mvar 5)) (mcons (mop2 mulD (mc (.str " ")) (mvar 4)) (mnil))) truD)) (sbad) (snx))
def m_check_lines : SM :=
  sseq (sset 4 (mcall F_indent_of [] (acim (mop2 ixD (mvar 0) (mvar 1)) (anil)))) <|
  sseq (sfor (.one 5) (MM.opt (mcons (mvar 1) (mcons (mvar 2) (mnil))) rng2D) b_check_lines_1) <|
  sseq (sfor (.one 5) (MM.opt (mcons (mop2 addD (mvar 1) (mc (.int 1))) (mcons (mvar 2) (mnil))) rng2D) b_check_lines_2) <|
  sfor (.one 5) (MM.opt (mcons (mvar 2) (mcons (mvar 3) (mnil))) rng2D) b_check_lines_3
abbrev F_check_lines : FM := fnM 6 m_check_lines
theorem len_check_lines : ∀ args d news, F_check_lines args = some (d, news) → news.length = args.length := fun _ _ _ h => fnM_length h
abbrev b_options_of_1 : SM := (sseq (sif (mnotB (MM.opt (mcall F_is_option_word [] (acim (mvar 3) (anil))) truD)) (sbad) (snx)) <|
  sbad)
def m_options_of : SM :=
  sseq (sset 2 (mc (.dct []))) <|
  sseq (sfor (.one 3) (MM.opt (mcall F_option_words [] (acim (mvar 0) (anil))) seqD) b_options_of_1) <|
  sret (mvar 2)
abbrev F_options_of : FM := fnM 4 m_options_of
theorem len_options_of : ∀ args d news, F_options_of args = some (d, news) → news.length = args.length := fun _ _ _ h => fnM_length h
abbrev e_piece_of_1 : MM D := msl (mvar 9) (MM.opt (mop2 addD (mvar 4) (mc (.int 4))) intD) (fun env => some (none, env))
abbrev e_piece_of_2 : MM D := mop2 addD (mvar 10) (mc (.str "\n"))
abbrev e_piece_of_3 : MM D := mop2 addD (msl (mvar 9) (MM.opt (mvar 4) intD) (fun env => some (none, env))) (mc (.str "\n"))
abbrev e_piece_of_4 : MM D := morV (mcall F_is_blank [] (acim (mvar 10) (anil))) (mmeth startsM (mmeth (stripM Txt.lstripChars) (mvar 10) (mcons (mc (.str " \t")) (mnil))) (mcons (mc (.str "#")) (mnil)))
def m_piece_of : SM :=
  sseq (sdrop (mcall F_check_lines [] (acim (mvar 0) (acim (mvar 1) (acim (mvar 2) (acim (mvar 3) (anil))))))) <|
  sseq (sset 4 (mcall F_indent_of [] (acim (mop2 ixD (mvar 0) (mvar 1)) (anil)))) <|
  sseq (sset 5 (MM.map (mlc (.one 9) [9] (MM.opt (msl (mvar 0) (MM.opt (mvar 1) intD) (MM.opt (mvar 2) intD)) seqD) (mtrue) (e_piece_of_1)) .lst)) <|
  sseq (sset 6 (mmeth joinM (mc (.str "")) (mcons (MM.map (mlc (.one 10) [10] (MM.opt (mvar 5) seqD) (mtrue) (e_piece_of_2)) .lst) (mnil)))) <|
  sseq (sset 7 (mmeth joinM (mc (.str "")) (mcons (MM.map (mlc (.one 9) [9] (MM.opt (msl (mvar 0) (MM.opt (mvar 2) intD) (MM.opt (mvar 3) intD)) seqD) (mtrue) (e_piece_of_3)) .lst) (mnil)))) <|
  sseq (sset 8 (mcall F_options_of [] (acim (mvar 6) (acim (mop2 addD (mvar 1) (mc (.int 1))) (anil))))) <|
  sseq (sif (mnotB (MM.opt (MM.opt (mcons (MM.map (mlc (.one 10) [10] (MM.opt (mvar 5) seqD) (mtrue) (e_piece_of_4)) .lst) (mnil)) allL) truD)) (sret (mmake 0 2 4 (fun ds es => ds ++ es) F_Example___init__ (mcons (mvar 6) (mcons (mvar 7) (mnil))) (mcons (mcall F_error_of [] (acim (mvar 7) (anil))) (mcons (mop2 addD (mvar 1) (mc (.int 1))) (mcons (mvar 4) (mcons (mvar 8) (mnil))))))) (snx)) <|
  sseq (sif (MM.opt (mop2 neD (mvar 8) (mc (.dct []))) blD) (sbad) (snx)) <|
  sret (mmake 1 2 2 (fun ds es => ds ++ es) F_Comment___init__ (mcons (mvar 6) (mcons (mvar 7) (mnil))) (mcons (mop2 addD (mvar 1) (mc (.int 1))) (mcons (mvar 4) (mnil))))
abbrev F_piece_of : FM := fnM 11 m_piece_of
theorem len_piece_of : ∀ args d news, F_piece_of args = some (d, news) → news.length = args.length := fun _ _ _ h => fnM_length h
abbrev e_rows_of_1 : MM D := mop2 addD (mvar 2) (mc (.str "\n"))
abbrev t_rows_of_2 : MM Bool := MM.opt (mop2 neD (mvar 2) (mc (.str ""))) blD
def m_rows_of : SM :=
  sseq (sset 1 (MM.map (fmeth splitM (mvar 0) (mcons (mc (.str "\n")) (mnil))) .lst)) <|
  sret (mop2 addD (MM.map (mlc (.one 2) [2] (MM.opt (msl (mvar 1) (fun env => some (none, env)) (MM.opt (MM.opt (mc (.int 1)) negD) intD)) seqD) (mtrue) (e_rows_of_1)) .lst) (MM.map (mlc (.one 2) [2] (MM.opt (msl (mvar 1) (MM.opt (MM.opt (mc (.int 1)) negD) intD) (fun env => some (none, env))) seqD) (t_rows_of_2) (mvar 2)) .lst))
abbrev F_rows_of : FM := fnM 3 m_rows_of
theorem len_rows_of : ∀ args d news, F_rows_of args = some (d, news) → news.length = args.length := fun _ _ _ h => fnM_length h
abbrev e_parsed_1 : MM D := mif (MM.opt (mmeth endsM (mvar 8) (mcons (mc (.str "\n")) (mnil))) truD) (msl (mvar 8) (fun env => some (none, env)) (MM.opt (MM.opt (mc (.int 1)) negD) intD)) (mvar 8)
abbrev b_parsed_2 : SM := (saug 4 (mc (.int 1)))
abbrev b_parsed_3 : SM := (saug 4 (mc (.int 1)))
abbrev b_parsed_4 : SM := (sseq (sif (mnotB (MM.opt (mcall F_is_prompt [] (acim (mop2 ixD (mvar 2) (mvar 4)) (anil))) truD)) (sseq (saug 4 (mc (.int 1))) <|
  sct) (snx)) <|
  sseq (sset 6 (mvar 4)) <|
  sseq (saug 4 (mc (.int 1))) <|
  sseq (swhile (mandB (MM.opt (mop2 ltD (mvar 4) (MM.opt (mcons (mvar 2) (mnil)) lenL)) blD) (MM.opt (mmeth startsM (mmeth (stripM Txt.lstripChars) (mop2 ixD (mvar 2) (mvar 4)) (mcons (mc (.str " ")) (mnil))) (mcons (mc (.str "...")) (mnil))) truD)) b_parsed_2 100000) <|
  sseq (sset 7 (mvar 4)) <|
  sseq (swhile (mandB (MM.opt (mop2 ltD (mvar 4) (MM.opt (mcons (mvar 2) (mnil)) lenL)) blD) (mandB (mnotB (MM.opt (mcall F_is_blank [] (acim (mop2 ixD (mvar 2) (mvar 4)) (anil))) truD)) (mnotB (MM.opt (mcall F_is_prompt [] (acim (mop2 ixD (mvar 2) (mvar 4)) (anil))) truD)))) b_parsed_3 100000) <|
  sseq (sdrop (mappend 3 (mmeth joinM (mc (.str "")) (mcons (msl (mvar 1) (MM.opt (mvar 5) intD) (MM.opt (mvar 6) intD)) (mnil))))) <|
  sseq (sdrop (mappend 3 (mcall F_piece_of [] (acim (mvar 2) (acim (mvar 6) (acim (mvar 7) (acim (mvar 4) (anil)))))))) <|
  sset 5 (mvar 4))
abbrev t_parsed_5 : MM Bool := MM.opt (mop2 (neO [(0, F_Example___eq__), (1, F_Comment___eq__)]) (mvar 9) (mc (.str ""))) blD
def m_parsed : SM :=
  sseq (sset 1 (mcall F_rows_of [] (acim (mcall F_levelled [] (acim (mvar 0) (anil))) (anil)))) <|
  sseq (sset 2 (MM.map (mlc (.one 8) [8] (MM.opt (mvar 1) seqD) (mtrue) (e_parsed_1)) .lst)) <|
  sseq (spar [3, 4, 5] (pcow (MM.opt (mnil) few) (pcim (mc (.int 0)) (pcim (mc (.int 0)) (pnil))))) <|
  sseq (swhile (MM.opt (mop2 ltD (mvar 4) (MM.opt (mcons (mvar 2) (mnil)) lenL)) blD) b_parsed_4 100000) <|
  sseq (sdrop (mappend 3 (mmeth joinM (mc (.str "")) (mcons (msl (mvar 1) (MM.opt (mvar 5) intD) (fun env => some (none, env))) (mnil))))) <|
  sret (MM.map (mlc (.one 9) [9] (MM.opt (mvar 3) seqD) (t_parsed_5) (mvar 9)) .lst)
abbrev F_parsed : FM := fnM 10 m_parsed
theorem len_parsed : ∀ args d news, F_parsed args = some (d, news) → news.length = args.length := fun _ _ _ h => fnM_length h
abbrev t_examples_of_1 : MM Bool := MM.opt (MM.opt (mvar 1) (isiC 0 [0, 1])) truD
def m_examples_of : SM :=
  sret (MM.map (mlc (.one 1) [1] (MM.opt (mcall F_parsed [] (acim (mvar 0) (anil))) seqD) (t_examples_of_1) (mvar 1)) .lst)
abbrev F_examples_of : FM := fnM 2 m_examples_of
theorem len_examples_of : ∀ args d news, F_examples_of args = some (d, news) → news.length = args.length := fun _ _ _ h => fnM_length h
def m_law_draws : MM (List Pa) := pcow (mlc (.one 1) [1] (MM.opt (mvar 0) seqD) (MM.opt (mop2 geD (mvar 1) (mop2 powD (mc (.int 10)) (mc (.int 18)))) blD) (mvar 1)) (pcim (mc (.int 0)) (pcow (mlc (.one 1) [1] (MM.opt (mvar 0) seqD) (MM.opt (mop2 ltD (mvar 1) (mop2 powD (mc (.int 10)) (mc (.int 18)))) blD) (mvar 1)) (pcim (mc (.int 0)) (pnil))))
def m_law_mixed : SM :=
  sseq (sset 2 (mop2 modD (mop2 powD (mop2 addD (mop2 addD (mop2 modD (mvar 0) (mc (.int 2147483647))) (mop2 mulD (mc (.int 7919)) (mvar 1))) (mc (.int 104729))) (mc (.int 5))) (mc (.int 2147483629)))) <|
  sret (mop2 modD (mop2 powD (mop2 addD (mop2 addD (mop2 mulD (mvar 2) (mc (.int 48271))) (mop2 mulD (mop2 mulD (mc (.int 40503)) (mvar 1)) (mvar 1))) (mc (.int 13))) (mc (.int 3))) (mc (.int 1000000007)))
abbrev F_law_mixed : FM := fnM 3 m_law_mixed
theorem len_law_mixed : ∀ args d news, F_law_mixed args = some (d, news) → news.length = args.length := fun _ _ _ h => fnM_length h
def m_law_take : SM :=
  sseq (sdr 0 3 (mop2 addD (mdr 0 3) (mc (.int 1)))) <|
  sseq (sif (mandB (MM.opt (mop2 eqD (mdr 0 1) (mc (.int 0))) blD) (mdrNe 0 0)) (sdr 0 1 (mdrPop 0)) (snx)) <|
  sseq (sif (MM.opt (mop2 gtD (mdr 0 1) (mc (.int 0))) blD) (sseq (sset 2 (mop2 modD (mdr 0 1) (mvar 1))) <|
  sseq (sdr 0 1 (mop2 fdivD (mdr 0 1) (mvar 1))) <|
  sret (mvar 2)) (snx)) <|
  sseq (sset 3 (mc (.int 17))) <|
  sseq (sif (mdrNe 0 2) (sset 3 (mdrSeed 0)) (snx)) <|
  sseq (sset 2 (mc (.int 0))) <|
  sseq (sset 4 (mc (.int 1))) <|
  sseq (swhile (MM.opt (mop2 ltD (mvar 4) (mvar 1)) blD) (sseq (sset 2 (mop2 addD (mop2 mulD (mvar 2) (mc (.int 1000000007))) (mcall F_law_mixed [] (acim (mvar 3) (acim (mop2 addD (mdr 0 3) (mop2 mulD (mc (.int 1009)) (mop2 modD (mvar 2) (mc (.int 97))))) (anil)))))) <|
  sset 4 (mop2 mulD (mvar 4) (mc (.int 1000000007)))) 3) <|
  sret (mop2 modD (mvar 2) (mvar 1))
abbrev F_law_take : FM := fnM 5 m_law_take
theorem len_law_take : ∀ args d news, F_law_take args = some (d, news) → news.length = args.length := fun _ _ _ h => fnM_length h
def m_law_same_r0 : SM :=
  sseq (sif (MM.opt (MM.opt (mvar 1) (isiDs ["list", "tuple"])) truD) (sseq (sif (morB (MM.opt (mop2 neD (MM.opt (mvar 0) (isiD "list")) (MM.opt (mvar 1) (isiD "list"))) blD) (MM.opt (mop2 neD (MM.opt (mvar 0) (isiD "tuple")) (MM.opt (mvar 1) (isiD "tuple"))) blD)) (sret (mc (.bl false))) (snx)) <|
  sret (mandV (mop2 eqD (MM.opt (mcons (mvar 0) (mnil)) lenL) (MM.opt (mcons (mvar 1) (mnil)) lenL)) (MM.opt (mcons (MM.map (mlc (.tup [2, 3]) [2, 3] (MM.opt (mcons (mvar 0) (mcons (mvar 1) (mnil))) zipL) (mtrue) (mbad)) .lst) (mnil)) allL))) (snx)) <|
  sseq (sif (MM.opt (MM.opt (mvar 1) (isiDs ["bool", "int"])) truD) (sret (mandV (MM.opt (mvar 0) (isiD "int")) (mandV (mop2 eqD (MM.opt (mvar 0) (isiD "bool")) (MM.opt (mvar 1) (isiD "bool"))) (mop2 eqD (mvar 0) (mvar 1))))) (snx)) <|
  sret (mandV (mop2 isBD (MM.opt (mvar 0) (isiD "bool")) (mc (.bl false))) (mop2 eqD (mvar 0) (mvar 1)))
abbrev F_law_same_r0 : FM := fnM 4 m_law_same_r0
theorem len_law_same_r0 : ∀ args d news, F_law_same_r0 args = some (d, news) → news.length = args.length := fun _ _ _ h => fnM_length h
abbrev e_law_same_r1_1 : MM D := mcall F_law_same_r0 [] (acim (mvar 2) (acim (mvar 3) (anil)))
def m_law_same_r1 : SM :=
  sseq (sif (MM.opt (MM.opt (mvar 1) (isiDs ["list", "tuple"])) truD) (sseq (sif (morB (MM.opt (mop2 neD (MM.opt (mvar 0) (isiD "list")) (MM.opt (mvar 1) (isiD "list"))) blD) (MM.opt (mop2 neD (MM.opt (mvar 0) (isiD "tuple")) (MM.opt (mvar 1) (isiD "tuple"))) blD)) (sret (mc (.bl false))) (snx)) <|
  sret (mandV (mop2 eqD (MM.opt (mcons (mvar 0) (mnil)) lenL) (MM.opt (mcons (mvar 1) (mnil)) lenL)) (MM.opt (mcons (MM.map (mlc (.tup [2, 3]) [2, 3] (MM.opt (mcons (mvar 0) (mcons (mvar 1) (mnil))) zipL) (mtrue) (e_law_same_r1_1)) .lst) (mnil)) allL))) (snx)) <|
  sseq (sif (MM.opt (MM.opt (mvar 1) (isiDs ["bool", "int"])) truD) (sret (mandV (MM.opt (mvar 0) (isiD "int")) (mandV (mop2 eqD (MM.opt (mvar 0) (isiD "bool")) (MM.opt (mvar 1) (isiD "bool"))) (mop2 eqD (mvar 0) (mvar 1))))) (snx)) <|
  sret (mandV (mop2 isBD (MM.opt (mvar 0) (isiD "bool")) (mc (.bl false))) (mop2 eqD (mvar 0) (mvar 1)))
abbrev F_law_same_r1 : FM := fnM 4 m_law_same_r1
theorem len_law_same_r1 : ∀ args d news, F_law_same_r1 args = some (d, news) → news.length = args.length := fun _ _ _ h => fnM_length h
abbrev e_law_same_1 : MM D := mcall F_law_same_r1 [] (acim (mvar 2) (acim (mvar 3) (anil)))
def m_law_same : SM :=
  sseq (sif (MM.opt (MM.opt (mvar 1) (isiDs ["list", "tuple"])) truD) (sseq (sif (morB (MM.opt (mop2 neD (MM.opt (mvar 0) (isiD "list")) (MM.opt (mvar 1) (isiD "list"))) blD) (MM.opt (mop2 neD (MM.opt (mvar 0) (isiD "tuple")) (MM.opt (mvar 1) (isiD "tuple"))) blD)) (sret (mc (.bl false))) (snx)) <|
  sret (mandV (mop2 eqD (MM.opt (mcons (mvar 0) (mnil)) lenL) (MM.opt (mcons (mvar 1) (mnil)) lenL)) (MM.opt (mcons (MM.map (mlc (.tup [2, 3]) [2, 3] (MM.opt (mcons (mvar 0) (mcons (mvar 1) (mnil))) zipL) (mtrue) (e_law_same_1)) .lst) (mnil)) allL))) (snx)) <|
  sseq (sif (MM.opt (MM.opt (mvar 1) (isiDs ["bool", "int"])) truD) (sret (mandV (MM.opt (mvar 0) (isiD "int")) (mandV (mop2 eqD (MM.opt (mvar 0) (isiD "bool")) (MM.opt (mvar 1) (isiD "bool"))) (mop2 eqD (mvar 0) (mvar 1))))) (snx)) <|
  sret (mandV (mop2 isBD (MM.opt (mvar 0) (isiD "bool")) (mc (.bl false))) (mop2 eqD (mvar 0) (mvar 1)))
abbrev F_law_same : FM := fnM 4 m_law_same
theorem len_law_same : ∀ args d news, F_law_same args = some (d, news) → news.length = args.length := fun _ _ _ h => fnM_length h
def m_law_pick : SM :=
  sret (mop2 ixD (mvar 1) (mcall F_law_take [] (acsl 0 (acim (MM.opt (mcons (mvar 1) (mnil)) lenL) (anil)))))
abbrev F_law_pick : FM := fnM 2 m_law_pick
theorem len_law_pick : ∀ args d news, F_law_pick args = some (d, news) → news.length = args.length := fun _ _ _ h => fnM_length h
abbrev e_law_error_1 : MM D := mop2 addD (mvar 3) (mc (.str "\n"))
abbrev b_law_error_2 : SM := (sif (morB (MM.opt (mmeth alnumM (msl (mop2 ixD (mvar 0) (mvar 2)) (fun env => some (none, env)) (MM.opt (mc (.int 1)) intD)) mnil) truD) (MM.opt (mop2 eqD (msl (mop2 ixD (mvar 0) (mvar 2)) (fun env => some (none, env)) (MM.opt (mc (.int 1)) intD)) (mc (.str "_"))) blD)) (sret (mmeth joinM (mc (.str "")) (mcons (MM.map (mlc (.one 3) [3] (MM.opt (msl (mvar 0) (MM.opt (mvar 2) intD) (fun env => some (none, env))) seqD) (mtrue) (e_law_error_1)) .lst) (mnil)))) (snx))
def m_law_error : SM :=
  sseq (sset 1 (MM.map (MM.opt (mcons (mc (.str "Traceback (most recent call last):")) (mcons (mc (.str "Traceback (innermost last):")) (mnil))) few) .tup)) <|
  sseq (sif (morB (MM.opt (mop2 eqD (mvar 0) (MM.map (MM.opt (mnil) few) .lst)) blD) (MM.opt (mop2 ninD (mmeth (stripM Txt.rstripChars) (mop2 ixD (mvar 0) (mc (.int 0))) (mcons (mc (.str " ")) (mnil))) (mvar 1)) blD)) (sret (mc .non)) (snx)) <|
  sseq (sfor (.one 2) (MM.opt (mcons (mc (.int 1)) (mcons (MM.opt (mcons (mvar 0) (mnil)) lenL) (mnil))) rng2D) b_law_error_2) <|
  sret (mc .non)
abbrev F_law_error : FM := fnM 4 m_law_error
theorem len_law_error : ∀ args d news, F_law_error args = some (d, news) → news.length = args.length := fun _ _ _ h => fnM_length h
def m_law_head : SM :=
  sseq (sset 1 (MM.map (MM.opt (mcons (mc (.str "Traceback (most recent call last):")) (mcons (mc (.str "Traceback (innermost last):")) (mnil))) few) .lst)) <|
  sseq (sset 2 (MM.map (MM.opt (mcons (mop2 addD (mop2 ixD (mvar 1) (mc (.int 0))) (mc (.str "   "))) (mcons (mop2 addD (mop2 ixD (mvar 1) (mc (.int 0))) (mc (.str " x"))) (mcons (mop2 addD (mc (.str " ")) (mop2 ixD (mvar 1) (mc (.int 1)))) (mcons (msl (mop2 ixD (mvar 1) (mc (.int 0))) (fun env => some (none, env)) (MM.opt (MM.opt (mc (.int 1)) negD) intD)) (mcons (mop2 addD (mop2 ixD (mvar 1) (mc (.int 0))) (mc (.str "\t"))) (mcons (mop2 addD (mop2 ixD (mvar 1) (mc (.int 1))) (mc (.str " "))) (mnil))))))) few) .lst)) <|
  sret (mcall F_law_pick [] (acsl 0 (acim (mop2 addD (mop2 addD (MM.map (fop2 mulF (mvar 1) (mc (.int 3))) .lst) (mvar 2)) (MM.map (MM.opt (mcons (mc (.str "traceback (most recent call last):")) (mcons (mc (.str "x")) (mcons (mop2 addD (mop2 ixD (mvar 1) (mc (.int 0))) (mc (.str "E"))) (mnil)))) few) .lst)) (anil))))
abbrev F_law_head : FM := fnM 3 m_law_head
theorem len_law_head : ∀ args d news, F_law_head args = some (d, news) → news.length = args.length := fun _ _ _ h => fnM_length h
abbrev b_law_1 : SM := (sseq (sset 7 (MM.map (MM.opt (mcons (mc (.str "    ...")) (mcons (mc (.str "  File a")) (mcons (mc (.str "E: m")) (mcons (mc (.str "9")) (mcons (mc (.str "_x")) (mcons (mc (.str "<BLANKLINE>")) (mcons (mc (.str "-a")) (mcons (mc (.str "a.b.C")) (mcons (mc (.str "")) (mcons (mc (.str " ")) (mcons (mc (.str "Z")) (mcons (mc (.str "z")) (mnil))))))))))))) few) .lst)) <|
  sdrop (mappend 3 (mcall F_law_pick [] (acsl 1 (acim (mop2 addD (mvar 7) (MM.map (MM.opt (mcons (mc (.str "0 0")) (mcons (mc (.str "...")) (mcons (mc (.str "(x)")) (mnil)))) few) .lst)) (anil))))))
abbrev b_law_2 : SM := (sseq (sset 8 (mcall F_law_error [] (acim (mvar 3) (anil)))) <|
  sseq (sif (mandB (MM.opt (MM.opt (mvar 8) notN) blD) (MM.opt (mop2 eqD (mvar 5) (mc (.str ""))) blD)) (sset 8 (msl (mvar 8) (fun env => some (none, env)) (MM.opt (MM.opt (mc (.int 1)) negD) intD))) (snx)) <|
  sif (mnotB (MM.opt (mcall F_law_same [] (acim (mcall F_error_of [] (acim (mop2 addD (mmeth joinM (mc (.str "\n")) (mcons (mvar 3) (mnil))) (mvar 5)) (anil))) (acim (mvar 8) (anil)))) truD)) (sret (mc (.bl false))) (snx))
abbrev t_law_3 : MM Bool := MM.opt (mop2 neD (mmeth (stripM Txt.stripChars) (mvar 10) (mcons (mc (.str " ")) (mnil))) (mc (.str ""))) blD
abbrev e_law_4 : MM D := MM.opt (mvar 11) (attrD [0] "error")
abbrev b_law_5 : SM := (sseq (sown 3 (MM.opt (mcons (mcall F_law_head [] (acsl 1 (anil))) (mnil)) few)) <|
  sseq (sfor (.one 4) (MM.opt (mcons (mcall F_law_take [] (acsl 1 (acim (mc (.int 7)) (anil)))) (mnil)) rng1D) b_law_1) <|
  sseq (sfor (.one 5) (MM.opt (MM.map (MM.opt (mcons (mc (.str "")) (mcons (mc (.str "\n")) (mnil))) few) .tup) seqD) b_law_2) <|
  sseq (sset 6 (MM.map (mlc (.one 10) [10] (MM.opt (mvar 3) seqD) (t_law_3) (mvar 10)) .lst)) <|
  sif (mandB (MM.opt (mop2 eqD (mvar 6) (mvar 3)) blD) (mandB (MM.opt (mop2 neD (msl (mop2 ixD (mvar 3) (mc (.int 0))) (fun env => some (none, env)) (MM.opt (mc (.int 1)) intD)) (mc (.str " "))) blD) (MM.opt (mop2 ninD (mc (.str "\t")) (mop2 ixD (mvar 3) (mc (.int 0)))) blD))) (sseq (sset 9 (mcall F_examples_of [] (acim (mop2 addD (mc (.str ">>> x\n")) (mmeth joinM (mc (.str "\n")) (mcons (mvar 3) (mnil)))) (anil)))) <|
  sif (mnotB (MM.opt (mcall F_law_same [] (acim (MM.map (mlc (.one 11) [11] (MM.opt (mvar 9) seqD) (mtrue) (e_law_4)) .lst) (acim (MM.map (MM.opt (mcons (mcall F_law_error [] (acim (mvar 3) (anil))) (mnil)) few) .lst) (anil)))) truD)) (sret (mc (.bl false))) (snx)) (snx))
def m_law : SM :=
  sseq (sdraws fA fB 1 0) <|
  sseq (sfor (.one 2) (MM.opt (mcons (mc (.int 16)) (mnil)) rng1D) b_law_5) <|
  sret (MM.opt (mcall F_error_of [] (acim (mc (.str "")) (anil))) isN)
abbrev F_law : FM := fnM 12 m_law
theorem len_law : ∀ args d news, F_law args = some (d, news) → news.length = args.length := fun _ _ _ h => fnM_length h
end Zz

set_option Elab.async false
set_option linter.all false
set_option maxRecDepth 100000
set_option maxHeartbeats 1000000
local macro_rules | `(tactic| walk_at "zs") => `(tactic| simp only [mcall, slots_nil, slots_im, slots_sl, argsE, updE, List.nodup_nil, List.nodup_cons, List.not_mem_nil, List.mem_singleton, not_false_eq_true, and_self, and_true, List.nil_append, List.append_nil, List.cons_append, sseq, sset, sret, sif, snx, sbk, sct, sdrop, sasg, spar, sown, sfor, forL, mtg, Zf.setL, setsE, mop2, mc, mvar, MM.opt, MM.map, mcons, mnil, pnil, pcim, pcow, acim, acsl, anil, mif, mandB, morB, mnotB, mandV, morV, mnotV, mmeth, fmeth, fop2, mlc, lcL, few, blD, truD, intL, seqD, negD, mdr, mdrNe, mdrLen, mdrPop, sdr, DS.at, DS.put, DS.row, mappend, mextend, mpopAt, mlenO, msl, addD_i, subD_i, eqD_i, neD_i, ltD_i, leD_i, gtD_i, geD_i, eqD_s, neD_s, Mu.out, okS_s, okW_nil, okW_cons, okM_no, okM_im, okM_mf, okM_mt, okN_no, okN_im, okN_mu, wipeE, mtrue, List.all_cons, List.all_nil, Bool.and_true, Bool.true_and, Bool.and_self, decide_true, decide_false, reduceIte, if_true, if_false, List.length_cons, List.length_nil, List.getElem?_cons_zero, List.getElem?_cons_succ, List.set_cons_zero, List.set_cons_succ, List.map_cons, List.map_nil, Bool.false_eq_true, Option.some.injEq, Bool.not_true, Bool.not_false, Nat.reduceAdd, Nat.reduceLT, Nat.reduceLeDiff])
/-! the draws -/
namespace Zz
open PySem PySem.Spec L2 Zf
theorem lc_filter {p : Int → Bool} {mt : MM Bool} {e : En} {i : Nat} (hi : okS e i = true) (hw : okW (e.set i (.im (.int 0))) [i] = true) (h : ∀ n, mt (e.set i (.im (.int n))) = some (p n, e.set i (.im (.int n)))) (hself : ∀ n : Int, wipeE (e.set i (.im (.int n))) [i] = e) :
    ∀ ns : List Int, lcL (.one i) [i] mt (mvar i) (ns.map .int) e = some ((ns.filter p).map .int, e)
  | [] => rfl
  | n :: ns => by
    have hl := (okS_of hi).1
    have hw' : okW (e.set i (.im (.int n))) [i] = true := by
      simp [okW, List.getElem?_set_self hl]
    have hv : mvar i (e.set i (.im (.int n))) = some (.int n, e.set i (.im (.int n))) := by
      unfold mvar
      rw [List.getElem?_set_self hl]
    simp only [List.map_cons, lcL, mtg, if_pos hi, h]
    cases q : p n with
    | true => simp only [hv, if_pos hw', hself, lc_filter hi hw h hself ns, List.filter_cons, q]; rfl
    | false => simp only [if_pos hw', hself, lc_filter hi hw h hself ns, List.filter_cons, q]; rfl
theorem mir_law_draws : ∀ ns : List Int, ns.length ≤ 63 → ∃ env', m_law_draws (.im (.scr ns) :: List.replicate (2 - 1) .no) = some ([.ow ((fA ns).map .int), .im (.int 0), .ow ((fB ns).map .int), .im (.int 0)], env') := fun ns hl => by
  refine ⟨[.im (.scr ns), .no], ?_⟩
  have e0 : (Sl.im (.scr ns) :: List.replicate (2 - 1) .no) = [Sl.im (.scr ns), .no] := rfl
  have hlen : (ns.map D.int).length ≤ 100000 ∧ okW [Sl.im (.scr ns), .no] [1] = true := ⟨by simp; omega, rfl⟩
  have h1 := lc_filter (e := [.im (.scr ns), .no]) (i := 1) (p := fun n => decide (10 ^ 18 ≤ n)) (mt := MM.opt (mop2 geD (mvar 1) (mop2 powD (mc (.int 10)) (mc (.int 18)))) blD) rfl rfl (fun n => rfl) (fun n => rfl) ns
  have h2 := lc_filter (e := [.im (.scr ns), .no]) (i := 1) (p := fun n => decide (n < 10 ^ 18)) (mt := MM.opt (mop2 ltD (mvar 1) (mop2 powD (mc (.int 10)) (mc (.int 18)))) blD) rfl rfl (fun n => rfl) (fun n => rfl) ns
  have m0 : MM.opt (mvar 0) seqD [Sl.im (.scr ns), .no] = some (ns.map .int, [Sl.im (.scr ns), .no]) := rfl
  have w0 : wipeE [Sl.im (.scr ns), Sl.no] [1] = [Sl.im (.scr ns), .no] := rfl
  unfold m_law_draws
  rw [e0]
  simp only [pcow, pcim, pnil, mc, mlc, m0, if_pos hlen, w0, h1, h2]
  rfl
/-! take -/
def DOk (s : DS) (c : Int) : Prop := 0 ≤ s.cnt ∧ s.cnt ≤ c ∧ s.A.length ≤ 63
end Zz
namespace Zz
open PySem PySem.Spec L2 Zf
theorem mixed_ok (seed k : Int) (h0 : 0 ≤ k) (h1 : k ≤ 4000000) : ∃ r, F_law_mixed [.im (.int seed), .im (.int k)] = some (.int r, [.im (.int seed), .im (.int k)]) ∧ 0 ≤ r ∧ r < 1000000007 := by
  have a1 : 0 ≤ seed % 2147483647 := Int.emod_nonneg _ (by decide)
  have a2 : seed % 2147483647 < 2147483647 := Int.emod_lt_of_pos _ (by decide)
  obtain ⟨x, hx⟩ : ∃ x, x = seed % 2147483647 + 7919 * k + 104729 := ⟨_, rfl⟩
  have b1 : 0 ≤ x ^ 5 % 2147483629 := Int.emod_nonneg _ (by decide)
  have b2 : x ^ 5 % 2147483629 < 2147483629 := Int.emod_lt_of_pos _ (by decide)
  obtain ⟨f, hf⟩ : ∃ f, f = x ^ 5 % 2147483629 := ⟨_, rfl⟩
  rw [← hf] at b1 b2
  have kk : k * k ≤ 4000000 * 4000000 := Int.mul_le_mul h1 h1 h0 (by decide)
  have kk0 : 0 ≤ k * k := Int.mul_nonneg h0 h0
  obtain ⟨y, hy⟩ : ∃ y, y = f * 48271 + 40503 * k * k + 13 := ⟨_, rfl⟩
  have ha : 40503 * k * k = 40503 * (k * k) := Int.mul_assoc _ _ _
  refine ⟨y ^ 3 % 1000000007, ?_, Int.emod_nonneg _ (by decide), Int.emod_lt_of_pos _ (by decide)⟩
  have px : powD (.int x) (.int 5) = some (.int (x ^ 5)) := powD_p ⟨by decide, by decide, by omega⟩
  have py : powD (.int y) (.int 3) = some (.int (y ^ 3)) := powD_p ⟨by decide, by decide, by omega⟩
  have e1 : modD (.int seed) (.int 2147483647) = some (.int (seed % 2147483647)) := modD_p (by decide)
  have e2 : mulD (.int 7919) (.int k) = some (.int (7919 * k)) := mulD_l (by decide)
  have e3 : modD (.int (x ^ 5)) (.int 2147483629) = some (.int f) := by rw [hf]; exact modD_p (by decide)
  have e4 : mulD (.int f) (.int 48271) = some (.int (f * 48271)) := mulD_r (by decide)
  have e5 : mulD (.int 40503) (.int k) = some (.int (40503 * k)) := mulD_l (by decide)
  have e6 : mulD (.int (40503 * k)) (.int k) = some (.int (40503 * k * k)) := mulD_l (by omega)
  have e7 : modD (.int (y ^ 3)) (.int 1000000007) = some (.int (y ^ 3 % 1000000007)) := modD_p (by decide)
  have body : m_law_mixed [.im (.int seed), .im (.int k), .no] = some (.rt (.int (y ^ 3 % 1000000007)) [.im (.int seed), .im (.int k), .im (.int f)]) := by
    unfold m_law_mixed
    simp only [mcall, slots_nil, slots_im, slots_sl, argsE, updE, List.nodup_nil, List.nodup_cons, List.not_mem_nil, List.mem_singleton, not_false_eq_true, and_self, and_true, List.nil_append, List.append_nil, List.cons_append, sseq, sset, sret, sif, snx, sbk, sct, sdrop, sasg, spar, sown, sfor, forL, mtg, Zf.setL, setsE, mop2, mc, mvar, MM.opt, MM.map, mcons, mnil, pnil, pcim, pcow, acim, acsl, anil, mif, mandB, morB, mnotB, mandV, morV, mnotV, mmeth, fmeth, fop2, mlc, lcL, few, blD, truD, intL, seqD, negD, mdr, mdrNe, mdrLen, mdrPop, sdr, DS.at, DS.put, DS.row, mappend, mextend, mpopAt, mlenO, msl, addD_i, subD_i, eqD_i, neD_i, ltD_i, leD_i, gtD_i, geD_i, eqD_s, neD_s, Mu.out, okS_s, okW_nil, okW_cons, okM_no, okM_im, okM_mf, okM_mt, okN_no, okN_im, okN_mu, wipeE, mtrue, List.all_cons, List.all_nil, Bool.and_true, Bool.true_and, Bool.and_self, decide_true, decide_false, reduceIte, if_true, if_false, List.length_cons, List.length_nil, List.getElem?_cons_zero, List.getElem?_cons_succ, List.set_cons_zero, List.set_cons_succ, List.map_cons, List.map_nil, Bool.false_eq_true, Option.some.injEq, Bool.not_true, Bool.not_false, Nat.reduceAdd, Nat.reduceLT, Nat.reduceLeDiff, e1, e2, ← hx, px, e3, e4, e5, e6, ← hy, py, e7]
  exact fnM_rt (n := 3) (args := [.im (.int seed), .im (.int k)]) (m := m_law_mixed) body
/-- the second statement: a new row's number -/
theorem take2 (A B : List Int) (cur cnt n : Int) (hA : A.length ≤ 63) : ∃ A' cur', A'.length ≤ 63 ∧
    sif (mandB (MM.opt (mop2 eqD (mdr 0 1) (mc (.int 0))) blD) (mdrNe 0 0)) (sdr 0 1 (mdrPop 0)) (snx) [.mu true (.dr ⟨A, cur, B, cnt⟩), .im (.int n), .no, .no, .no] = some (.nx [.mu true (.dr ⟨A', cur', B, cnt⟩), .im (.int n), .no, .no, .no]) := by
  by_cases h : cur = 0
  · cases A with
    | nil => exact ⟨[], cur, hA, by simp only [mcall, slots_nil, slots_im, slots_sl, argsE, updE, List.nodup_nil, List.nodup_cons, List.not_mem_nil, List.mem_singleton, not_false_eq_true, and_self, and_true, List.nil_append, List.append_nil, List.cons_append, sseq, sset, sret, sif, snx, sbk, sct, sdrop, sasg, spar, sown, sfor, forL, mtg, Zf.setL, setsE, mop2, mc, mvar, MM.opt, MM.map, mcons, mnil, pnil, pcim, pcow, acim, acsl, anil, mif, mandB, morB, mnotB, mandV, morV, mnotV, mmeth, fmeth, fop2, mlc, lcL, few, blD, truD, intL, seqD, negD, mdr, mdrNe, mdrLen, mdrPop, sdr, DS.at, DS.put, DS.row, mappend, mextend, mpopAt, mlenO, msl, addD_i, subD_i, eqD_i, neD_i, ltD_i, leD_i, gtD_i, geD_i, eqD_s, neD_s, Mu.out, okS_s, okW_nil, okW_cons, okM_no, okM_im, okM_mf, okM_mt, okN_no, okN_im, okN_mu, wipeE, mtrue, List.all_cons, List.all_nil, Bool.and_true, Bool.true_and, Bool.and_self, decide_true, decide_false, reduceIte, if_true, if_false, List.length_cons, List.length_nil, List.getElem?_cons_zero, List.getElem?_cons_succ, List.set_cons_zero, List.set_cons_succ, List.map_cons, List.map_nil, Bool.false_eq_true, Option.some.injEq, Bool.not_true, Bool.not_false, Nat.reduceAdd, Nat.reduceLT, Nat.reduceLeDiff, h, List.isEmpty_nil]⟩
    | cons a A =>
      have hl : A.length ≤ 1000000 := by simp at hA; omega
      exact ⟨A, a, by simp at hA; omega, by simp only [mcall, slots_nil, slots_im, slots_sl, argsE, updE, List.nodup_nil, List.nodup_cons, List.not_mem_nil, List.mem_singleton, not_false_eq_true, and_self, and_true, List.nil_append, List.append_nil, List.cons_append, sseq, sset, sret, sif, snx, sbk, sct, sdrop, sasg, spar, sown, sfor, forL, mtg, Zf.setL, setsE, mop2, mc, mvar, MM.opt, MM.map, mcons, mnil, pnil, pcim, pcow, acim, acsl, anil, mif, mandB, morB, mnotB, mandV, morV, mnotV, mmeth, fmeth, fop2, mlc, lcL, few, blD, truD, intL, seqD, negD, mdr, mdrNe, mdrLen, mdrPop, sdr, DS.at, DS.put, DS.row, mappend, mextend, mpopAt, mlenO, msl, addD_i, subD_i, eqD_i, neD_i, ltD_i, leD_i, gtD_i, geD_i, eqD_s, neD_s, Mu.out, okS_s, okW_nil, okW_cons, okM_no, okM_im, okM_mf, okM_mt, okN_no, okN_im, okN_mu, wipeE, mtrue, List.all_cons, List.all_nil, Bool.and_true, Bool.true_and, Bool.and_self, decide_true, decide_false, reduceIte, if_true, if_false, List.length_cons, List.length_nil, List.getElem?_cons_zero, List.getElem?_cons_succ, List.set_cons_zero, List.set_cons_succ, List.map_cons, List.map_nil, Bool.false_eq_true, Option.some.injEq, Bool.not_true, Bool.not_false, Nat.reduceAdd, Nat.reduceLT, Nat.reduceLeDiff, h, hl, List.isEmpty_cons]⟩
  · exact ⟨A, cur, hA, by simp only [mcall, slots_nil, slots_im, slots_sl, argsE, updE, List.nodup_nil, List.nodup_cons, List.not_mem_nil, List.mem_singleton, not_false_eq_true, and_self, and_true, List.nil_append, List.append_nil, List.cons_append, sseq, sset, sret, sif, snx, sbk, sct, sdrop, sasg, spar, sown, sfor, forL, mtg, Zf.setL, setsE, mop2, mc, mvar, MM.opt, MM.map, mcons, mnil, pnil, pcim, pcow, acim, acsl, anil, mif, mandB, morB, mnotB, mandV, morV, mnotV, mmeth, fmeth, fop2, mlc, lcL, few, blD, truD, intL, seqD, negD, mdr, mdrNe, mdrLen, mdrPop, sdr, DS.at, DS.put, DS.row, mappend, mextend, mpopAt, mlenO, msl, addD_i, subD_i, eqD_i, neD_i, ltD_i, leD_i, gtD_i, geD_i, eqD_s, neD_s, Mu.out, okS_s, okW_nil, okW_cons, okM_no, okM_im, okM_mf, okM_mt, okN_no, okN_im, okN_mu, wipeE, mtrue, List.all_cons, List.all_nil, Bool.and_true, Bool.true_and, Bool.and_self, decide_true, decide_false, reduceIte, if_true, if_false, List.length_cons, List.length_nil, List.getElem?_cons_zero, List.getElem?_cons_succ, List.set_cons_zero, List.set_cons_succ, List.map_cons, List.map_nil, Bool.false_eq_true, Option.some.injEq, Bool.not_true, Bool.not_false, Nat.reduceAdd, Nat.reduceLT, Nat.reduceLeDiff, h]⟩
/-- the seed -/
theorem take5 (A B : List Int) (cur cnt n : Int) : ∃ seed, sif (mdrNe 0 2) (sset 3 (mdrSeed 0)) (snx) [.mu true (.dr ⟨A, cur, B, cnt⟩), .im (.int n), .no, .im (.int 17), .no] = some (.nx [.mu true (.dr ⟨A, cur, B, cnt⟩), .im (.int n), .no, .im (.int seed), .no]) := by
  cases B with
  | nil => exact ⟨17, by simp only [mcall, slots_nil, slots_im, slots_sl, argsE, updE, List.nodup_nil, List.nodup_cons, List.not_mem_nil, List.mem_singleton, not_false_eq_true, and_self, and_true, List.nil_append, List.append_nil, List.cons_append, sseq, sset, sret, sif, snx, sbk, sct, sdrop, sasg, spar, sown, sfor, forL, mtg, Zf.setL, setsE, mop2, mc, mvar, MM.opt, MM.map, mcons, mnil, pnil, pcim, pcow, acim, acsl, anil, mif, mandB, morB, mnotB, mandV, morV, mnotV, mmeth, fmeth, fop2, mlc, lcL, few, blD, truD, intL, seqD, negD, mdr, mdrNe, mdrLen, mdrPop, sdr, DS.at, DS.put, DS.row, mappend, mextend, mpopAt, mlenO, msl, addD_i, subD_i, eqD_i, neD_i, ltD_i, leD_i, gtD_i, geD_i, eqD_s, neD_s, Mu.out, okS_s, okW_nil, okW_cons, okM_no, okM_im, okM_mf, okM_mt, okN_no, okN_im, okN_mu, wipeE, mtrue, List.all_cons, List.all_nil, Bool.and_true, Bool.true_and, Bool.and_self, decide_true, decide_false, reduceIte, if_true, if_false, List.length_cons, List.length_nil, List.getElem?_cons_zero, List.getElem?_cons_succ, List.set_cons_zero, List.set_cons_succ, List.map_cons, List.map_nil, Bool.false_eq_true, Option.some.injEq, Bool.not_true, Bool.not_false, Nat.reduceAdd, Nat.reduceLT, Nat.reduceLeDiff, List.isEmpty_nil]⟩
  | cons b B =>
    have hp : 0 < (b :: B).length := Nat.succ_pos _
    have h1 : 0 ≤ cnt % ((b :: B).length : Int) := Int.emod_nonneg _ (by omega)
    have h2 : cnt % ((b :: B).length : Int) < ((b :: B).length : Int) := Int.emod_lt_of_pos _ (by omega)
    have h3 : (cnt % ((b :: B).length : Int)).toNat < (b :: B).length := by omega
    have h4 : mdrSeed 0 [.mu true (.dr ⟨A, cur, b :: B, cnt⟩), .im (.int n), .no, .im (.int 17), .no] = some (.int ((b :: B)[(cnt % ((b :: B).length : Int)).toNat]), [.mu true (.dr ⟨A, cur, b :: B, cnt⟩), .im (.int n), .no, .im (.int 17), .no]) := by
      simp only [mdrSeed, List.getElem?_cons_zero, List.getElem?_eq_getElem h3, if_pos hp]
    exact ⟨_, by simp only [mcall, slots_nil, slots_im, slots_sl, argsE, updE, List.nodup_nil, List.nodup_cons, List.not_mem_nil, List.mem_singleton, not_false_eq_true, and_self, and_true, List.nil_append, List.append_nil, List.cons_append, sseq, sset, sret, sif, snx, sbk, sct, sdrop, sasg, spar, sown, sfor, forL, mtg, Zf.setL, setsE, mop2, mc, mvar, MM.opt, MM.map, mcons, mnil, pnil, pcim, pcow, acim, acsl, anil, mif, mandB, morB, mnotB, mandV, morV, mnotV, mmeth, fmeth, fop2, mlc, lcL, few, blD, truD, intL, seqD, negD, mdr, mdrNe, mdrLen, mdrPop, sdr, DS.at, DS.put, DS.row, mappend, mextend, mpopAt, mlenO, msl, addD_i, subD_i, eqD_i, neD_i, ltD_i, leD_i, gtD_i, geD_i, eqD_s, neD_s, Mu.out, okS_s, okW_nil, okW_cons, okM_no, okM_im, okM_mf, okM_mt, okN_no, okN_im, okN_mu, wipeE, mtrue, List.all_cons, List.all_nil, Bool.and_true, Bool.true_and, Bool.and_self, decide_true, decide_false, reduceIte, if_true, if_false, List.length_cons, List.length_nil, List.getElem?_cons_zero, List.getElem?_cons_succ, List.set_cons_zero, List.set_cons_succ, List.map_cons, List.map_nil, Bool.false_eq_true, Option.some.injEq, Bool.not_true, Bool.not_false, Nat.reduceAdd, Nat.reduceLT, Nat.reduceLeDiff, List.isEmpty_cons, h4]; rfl⟩
theorem take_ok (s : DS) (n c : Int) (hs : DOk s c) (hn : 1 ≤ n) (hn2 : n ≤ 1000000007) (hc : c ≤ 1000000) : ∃ r s', F_law_take [.mu true (.dr s), .im (.int n)] = some (.int r, [.mu true (.dr s'), .im (.int n)]) ∧ 0 ≤ r ∧ r < n ∧ DOk s' (c + 1) := by
  obtain ⟨A, cur, B, cnt⟩ := s
  obtain ⟨h0, h1, h2⟩ := hs
  simp only at h0 h1 h2
  obtain ⟨A', cur', h3, h4⟩ := take2 A B cur (cnt + 1) n h2
  have np : 0 < n := by omega
  have hk : 0 ≤ cnt + 1 ∧ cnt + 1 ≤ c + 1 := by omega
  by_cases hc1 : 0 < cur'
  · refine ⟨cur' % n, ⟨A', cur' / n, B, cnt + 1⟩, ?_, Int.emod_nonneg _ (by omega), Int.emod_lt_of_pos _ np, hk.1, hk.2, h3⟩
    have e1 : modD (.int cur') (.int n) = some (.int (cur' % n)) := modD_p np
    have e2 : fdivD (.int cur') (.int n) = some (.int (cur' / n)) := fdivD_p ⟨np, by omega⟩
    have body : m_law_take [.mu true (.dr ⟨A, cur, B, cnt⟩), .im (.int n), .no, .no, .no] = some (.rt (.int (cur' % n)) [.mu true (.dr ⟨A', cur' / n, B, cnt + 1⟩), .im (.int n), .im (.int (cur' % n)), .no, .no]) := by
      unfold m_law_take
      rw [show ∀ a b : SM, sseq a b = fun env => match a env with | some (.nx e1) => b e1 | o => o from fun _ _ => rfl]
      simp only [mcall, slots_nil, slots_im, slots_sl, argsE, updE, List.nodup_nil, List.nodup_cons, List.not_mem_nil, List.mem_singleton, not_false_eq_true, and_self, and_true, List.nil_append, List.append_nil, List.cons_append, sseq, sset, sret, sif, snx, sbk, sct, sdrop, sasg, spar, sown, sfor, forL, mtg, Zf.setL, setsE, mop2, mc, mvar, MM.opt, MM.map, mcons, mnil, pnil, pcim, pcow, acim, acsl, anil, mif, mandB, morB, mnotB, mandV, morV, mnotV, mmeth, fmeth, fop2, mlc, lcL, few, blD, truD, intL, seqD, negD, mdr, mdrNe, mdrLen, mdrPop, sdr, DS.at, DS.put, DS.row, mappend, mextend, mpopAt, mlenO, msl, addD_i, subD_i, eqD_i, neD_i, ltD_i, leD_i, gtD_i, geD_i, eqD_s, neD_s, Mu.out, okS_s, okW_nil, okW_cons, okM_no, okM_im, okM_mf, okM_mt, okN_no, okN_im, okN_mu, wipeE, mtrue, List.all_cons, List.all_nil, Bool.and_true, Bool.true_and, Bool.and_self, decide_true, decide_false, reduceIte, if_true, if_false, List.length_cons, List.length_nil, List.getElem?_cons_zero, List.getElem?_cons_succ, List.set_cons_zero, List.set_cons_succ, List.map_cons, List.map_nil, Bool.false_eq_true, Option.some.injEq, Bool.not_true, Bool.not_false, Nat.reduceAdd, Nat.reduceLT, Nat.reduceLeDiff] at h4
      simp only [mcall, slots_nil, slots_im, slots_sl, argsE, updE, List.nodup_nil, List.nodup_cons, List.not_mem_nil, List.mem_singleton, not_false_eq_true, and_self, and_true, List.nil_append, List.append_nil, List.cons_append, sseq, sset, sret, sif, snx, sbk, sct, sdrop, sasg, spar, sown, sfor, forL, mtg, Zf.setL, setsE, mop2, mc, mvar, MM.opt, MM.map, mcons, mnil, pnil, pcim, pcow, acim, acsl, anil, mif, mandB, morB, mnotB, mandV, morV, mnotV, mmeth, fmeth, fop2, mlc, lcL, few, blD, truD, intL, seqD, negD, mdr, mdrNe, mdrLen, mdrPop, sdr, DS.at, DS.put, DS.row, mappend, mextend, mpopAt, mlenO, msl, addD_i, subD_i, eqD_i, neD_i, ltD_i, leD_i, gtD_i, geD_i, eqD_s, neD_s, Mu.out, okS_s, okW_nil, okW_cons, okM_no, okM_im, okM_mf, okM_mt, okN_no, okN_im, okN_mu, wipeE, mtrue, List.all_cons, List.all_nil, Bool.and_true, Bool.true_and, Bool.and_self, decide_true, decide_false, reduceIte, if_true, if_false, List.length_cons, List.length_nil, List.getElem?_cons_zero, List.getElem?_cons_succ, List.set_cons_zero, List.set_cons_succ, List.map_cons, List.map_nil, Bool.false_eq_true, Option.some.injEq, Bool.not_true, Bool.not_false, Nat.reduceAdd, Nat.reduceLT, Nat.reduceLeDiff, h4, hc1, e1, e2]
    exact fnM_rt (n := 5) (args := [.mu true (.dr ⟨A, cur, B, cnt⟩), .im (.int n)]) (m := m_law_take) body
  · obtain ⟨seed, h5⟩ := take5 A' B cur' (cnt + 1) n
    by_cases hn1 : n = 1
    · refine ⟨0, ⟨A', cur', B, cnt + 1⟩, ?_, by decide, by omega, hk.1, hk.2, h3⟩
      subst hn1
      have e1 : modD (.int 0) (.int 1) = some (.int (0 % 1)) := modD_p (by decide)
      have body : m_law_take [.mu true (.dr ⟨A, cur, B, cnt⟩), .im (.int 1), .no, .no, .no] = some (.rt (.int (0 % 1)) [.mu true (.dr ⟨A', cur', B, cnt + 1⟩), .im (.int 1), .im (.int 0), .im (.int seed), .im (.int 1)]) := by
        unfold m_law_take
        simp only [mcall, slots_nil, slots_im, slots_sl, argsE, updE, List.nodup_nil, List.nodup_cons, List.not_mem_nil, List.mem_singleton, not_false_eq_true, and_self, and_true, List.nil_append, List.append_nil, List.cons_append, sseq, sset, sret, sif, snx, sbk, sct, sdrop, sasg, spar, sown, sfor, forL, mtg, Zf.setL, setsE, mop2, mc, mvar, MM.opt, MM.map, mcons, mnil, pnil, pcim, pcow, acim, acsl, anil, mif, mandB, morB, mnotB, mandV, morV, mnotV, mmeth, fmeth, fop2, mlc, lcL, few, blD, truD, intL, seqD, negD, mdr, mdrNe, mdrLen, mdrPop, sdr, DS.at, DS.put, DS.row, mappend, mextend, mpopAt, mlenO, msl, addD_i, subD_i, eqD_i, neD_i, ltD_i, leD_i, gtD_i, geD_i, eqD_s, neD_s, Mu.out, okS_s, okW_nil, okW_cons, okM_no, okM_im, okM_mf, okM_mt, okN_no, okN_im, okN_mu, wipeE, mtrue, List.all_cons, List.all_nil, Bool.and_true, Bool.true_and, Bool.and_self, decide_true, decide_false, reduceIte, if_true, if_false, List.length_cons, List.length_nil, List.getElem?_cons_zero, List.getElem?_cons_succ, List.set_cons_zero, List.set_cons_succ, List.map_cons, List.map_nil, Bool.false_eq_true, Option.some.injEq, Bool.not_true, Bool.not_false, Nat.reduceAdd, Nat.reduceLT, Nat.reduceLeDiff] at h4 h5
        simp only [mcall, slots_nil, slots_im, slots_sl, argsE, updE, List.nodup_nil, List.nodup_cons, List.not_mem_nil, List.mem_singleton, not_false_eq_true, and_self, and_true, List.nil_append, List.append_nil, List.cons_append, sseq, sset, sret, sif, snx, sbk, sct, sdrop, sasg, spar, sown, sfor, forL, mtg, Zf.setL, setsE, mop2, mc, mvar, MM.opt, MM.map, mcons, mnil, pnil, pcim, pcow, acim, acsl, anil, mif, mandB, morB, mnotB, mandV, morV, mnotV, mmeth, fmeth, fop2, mlc, lcL, few, blD, truD, intL, seqD, negD, mdr, mdrNe, mdrLen, mdrPop, sdr, DS.at, DS.put, DS.row, mappend, mextend, mpopAt, mlenO, msl, addD_i, subD_i, eqD_i, neD_i, ltD_i, leD_i, gtD_i, geD_i, eqD_s, neD_s, Mu.out, okS_s, okW_nil, okW_cons, okM_no, okM_im, okM_mf, okM_mt, okN_no, okN_im, okN_mu, wipeE, mtrue, List.all_cons, List.all_nil, Bool.and_true, Bool.true_and, Bool.and_self, decide_true, decide_false, reduceIte, if_true, if_false, List.length_cons, List.length_nil, List.getElem?_cons_zero, List.getElem?_cons_succ, List.set_cons_zero, List.set_cons_succ, List.map_cons, List.map_nil, Bool.false_eq_true, Option.some.injEq, Bool.not_true, Bool.not_false, Nat.reduceAdd, Nat.reduceLT, Nat.reduceLeDiff, swhile, h4, h5, hc1, e1, Int.lt_irrefl]
      exact fnM_rt (n := 5) (args := [.mu true (.dr ⟨A, cur, B, cnt⟩), .im (.int 1)]) (m := m_law_take) body
    · obtain ⟨r, hr, hr0, hr1⟩ := mixed_ok seed (cnt + 1 + 1009 * (0 % 97)) (by omega) (by omega)
      refine ⟨(0 * 1000000007 + r) % n, ⟨A', cur', B, cnt + 1⟩, ?_, Int.emod_nonneg _ (by omega), Int.emod_lt_of_pos _ np, hk.1, hk.2, h3⟩
      have e1 : modD (.int 0) (.int 97) = some (.int (0 % 97)) := modD_p (by decide)
      have e2 : mulD (.int 1009) (.int (0 % 97)) = some (.int (1009 * (0 % 97))) := mulD_l (by decide)
      have e3 : mulD (.int 0) (.int 1000000007) = some (.int (0 * 1000000007)) := mulD_r (by decide)
      have e4 : mulD (.int 1) (.int 1000000007) = some (.int (1 * 1000000007)) := mulD_r (by decide)
      have e5 : modD (.int (0 * 1000000007 + r)) (.int n) = some (.int ((0 * 1000000007 + r) % n)) := modD_p np
      have c1 : (1 : Int) < n := by omega
      have c2 : ¬ (1 * 1000000007 : Int) < n := by omega
      have body : m_law_take [.mu true (.dr ⟨A, cur, B, cnt⟩), .im (.int n), .no, .no, .no] = some (.rt (.int ((0 * 1000000007 + r) % n)) [.mu true (.dr ⟨A', cur', B, cnt + 1⟩), .im (.int n), .im (.int (0 * 1000000007 + r)), .im (.int seed), .im (.int (1 * 1000000007))]) := by
        unfold m_law_take
        simp only [mcall, slots_nil, slots_im, slots_sl, argsE, updE, List.nodup_nil, List.nodup_cons, List.not_mem_nil, List.mem_singleton, not_false_eq_true, and_self, and_true, List.nil_append, List.append_nil, List.cons_append, sseq, sset, sret, sif, snx, sbk, sct, sdrop, sasg, spar, sown, sfor, forL, mtg, Zf.setL, setsE, mop2, mc, mvar, MM.opt, MM.map, mcons, mnil, pnil, pcim, pcow, acim, acsl, anil, mif, mandB, morB, mnotB, mandV, morV, mnotV, mmeth, fmeth, fop2, mlc, lcL, few, blD, truD, intL, seqD, negD, mdr, mdrNe, mdrLen, mdrPop, sdr, DS.at, DS.put, DS.row, mappend, mextend, mpopAt, mlenO, msl, addD_i, subD_i, eqD_i, neD_i, ltD_i, leD_i, gtD_i, geD_i, eqD_s, neD_s, Mu.out, okS_s, okW_nil, okW_cons, okM_no, okM_im, okM_mf, okM_mt, okN_no, okN_im, okN_mu, wipeE, mtrue, List.all_cons, List.all_nil, Bool.and_true, Bool.true_and, Bool.and_self, decide_true, decide_false, reduceIte, if_true, if_false, List.length_cons, List.length_nil, List.getElem?_cons_zero, List.getElem?_cons_succ, List.set_cons_zero, List.set_cons_succ, List.map_cons, List.map_nil, Bool.false_eq_true, Option.some.injEq, Bool.not_true, Bool.not_false, Nat.reduceAdd, Nat.reduceLT, Nat.reduceLeDiff] at h4 h5
        simp only [mcall, slots_nil, slots_im, slots_sl, argsE, updE, List.nodup_nil, List.nodup_cons, List.not_mem_nil, List.mem_singleton, not_false_eq_true, and_self, and_true, List.nil_append, List.append_nil, List.cons_append, sseq, sset, sret, sif, snx, sbk, sct, sdrop, sasg, spar, sown, sfor, forL, mtg, Zf.setL, setsE, mop2, mc, mvar, MM.opt, MM.map, mcons, mnil, pnil, pcim, pcow, acim, acsl, anil, mif, mandB, morB, mnotB, mandV, morV, mnotV, mmeth, fmeth, fop2, mlc, lcL, few, blD, truD, intL, seqD, negD, mdr, mdrNe, mdrLen, mdrPop, sdr, DS.at, DS.put, DS.row, mappend, mextend, mpopAt, mlenO, msl, addD_i, subD_i, eqD_i, neD_i, ltD_i, leD_i, gtD_i, geD_i, eqD_s, neD_s, Mu.out, okS_s, okW_nil, okW_cons, okM_no, okM_im, okM_mf, okM_mt, okN_no, okN_im, okN_mu, wipeE, mtrue, List.all_cons, List.all_nil, Bool.and_true, Bool.true_and, Bool.and_self, decide_true, decide_false, reduceIte, if_true, if_false, List.length_cons, List.length_nil, List.getElem?_cons_zero, List.getElem?_cons_succ, List.set_cons_zero, List.set_cons_succ, List.map_cons, List.map_nil, Bool.false_eq_true, Option.some.injEq, Bool.not_true, Bool.not_false, Nat.reduceAdd, Nat.reduceLT, Nat.reduceLeDiff, swhile, h4, h5, hc1, c1, c2, e1, e2, e3, e4, hr, e5]
      exact fnM_rt (n := 5) (args := [.mu true (.dr ⟨A, cur, B, cnt⟩), .im (.int n)]) (m := m_law_take) body
theorem pick_ok (s : DS) (xs : List D) (c : Int) (hs : DOk s c) (h1 : 1 ≤ xs.length) (h2 : xs.length ≤ 1000000007) (hc : c ≤ 1000000) : ∃ d s', F_law_pick [.mu true (.dr s), .im (.lst xs)] = some (d, [.mu true (.dr s'), .im (.lst xs)]) ∧ d ∈ xs ∧ DOk s' (c + 1) := by
  obtain ⟨r, s', e, r0, r1, hs'⟩ := take_ok s xs.length c hs (by omega) (by omega) hc
  obtain ⟨d, hd, hm, _⟩ := at_nat (xs := xs) r0 r1
  have e1 : lenL [.lst xs] = some (.int xs.length) := rfl
  have e2 : ixD (.lst xs) (.int r) = some d := hd
  refine ⟨d, s', ?_, hm, hs'⟩
  have body : m_law_pick [.mu true (.dr s), .im (.lst xs)] = some (.rt d [.mu true (.dr s'), .im (.lst xs)]) := by
    unfold m_law_pick
    simp only [mcall, slots_nil, slots_im, slots_sl, argsE, updE, List.nodup_nil, List.nodup_cons, List.not_mem_nil, List.mem_singleton, not_false_eq_true, and_self, and_true, List.nil_append, List.append_nil, List.cons_append, sseq, sset, sret, sif, snx, sbk, sct, sdrop, sasg, spar, sown, sfor, forL, mtg, Zf.setL, setsE, mop2, mc, mvar, MM.opt, MM.map, mcons, mnil, pnil, pcim, pcow, acim, acsl, anil, mif, mandB, morB, mnotB, mandV, morV, mnotV, mmeth, fmeth, fop2, mlc, lcL, few, blD, truD, intL, seqD, negD, mdr, mdrNe, mdrLen, mdrPop, sdr, DS.at, DS.put, DS.row, mappend, mextend, mpopAt, mlenO, msl, addD_i, subD_i, eqD_i, neD_i, ltD_i, leD_i, gtD_i, geD_i, eqD_s, neD_s, Mu.out, okS_s, okW_nil, okW_cons, okM_no, okM_im, okM_mf, okM_mt, okN_no, okN_im, okN_mu, wipeE, mtrue, List.all_cons, List.all_nil, Bool.and_true, Bool.true_and, Bool.and_self, decide_true, decide_false, reduceIte, if_true, if_false, List.length_cons, List.length_nil, List.getElem?_cons_zero, List.getElem?_cons_succ, List.set_cons_zero, List.set_cons_succ, List.map_cons, List.map_nil, Bool.false_eq_true, Option.some.injEq, Bool.not_true, Bool.not_false, Nat.reduceAdd, Nat.reduceLT, Nat.reduceLeDiff, e, e1, e2]
  exact fnM_rt (n := 2) (args := [.mu true (.dr s), .im (.lst xs)]) (m := m_law_pick) body
end Zz

set_option Elab.async false
set_option linter.all false
set_option maxRecDepth 100000
set_option maxHeartbeats 1000000
/-! texts levelled: the plain law, and what the mirrors of texts.py say -/
namespace Zz
open PySem PySem.Spec L2 Zf
def W8 (a : List Nat) (c : Nat) : List Nat := if c = 9 then a ++ List.replicate (8 - a.length % 8) 32 else a ++ [c]
def wd (l : List Nat) : List Nat := l.foldl W8 []
theorem W8_no9 {a : List Nat} (c : Nat) (h : 9 ∉ a) : 9 ∉ W8 a c := by
  unfold W8
  split
  · rw [List.mem_append, not_or]
    exact ⟨h, fun q => by have := List.eq_of_mem_replicate q; omega⟩
  · rw [List.mem_append, not_or, List.mem_singleton]
    exact ⟨h, fun q => by omega⟩
theorem wd_go9 : ∀ (l a : List Nat), 9 ∉ a → 9 ∉ l.foldl W8 a
  | [], a, h => h
  | c :: l, a, h => wd_go9 l (W8 a c) (W8_no9 c h)
theorem wd_no9 (l : List Nat) : 9 ∉ wd l := wd_go9 l [] (by simp)
theorem wd_go10 : ∀ (l a : List Nat), 10 ∉ a → 10 ∉ l → 10 ∉ l.foldl W8 a
  | [], a, h, _ => h
  | c :: l, a, h, h2 => by
    rw [List.mem_cons, not_or] at h2
    refine wd_go10 l (W8 a c) ?_ h2.2
    unfold W8
    split
    · rw [List.mem_append, not_or]
      exact ⟨h, fun q => by have := List.eq_of_mem_replicate q; omega⟩
    · rw [List.mem_append, not_or, List.mem_singleton]
      exact ⟨h, h2.1⟩
theorem wd_no10 {l : List Nat} (h : 10 ∉ l) : 10 ∉ wd l := wd_go10 l [] (by simp) h
theorem wd_goid : ∀ (l a : List Nat), 9 ∉ l → l.foldl W8 a = a ++ l
  | [], a, _ => by simp
  | c :: l, a, h => by
    rw [List.mem_cons, not_or] at h
    rw [List.foldl_cons, wd_goid l _ h.2]
    unfold W8
    rw [if_neg (fun q => h.1 q.symm), List.append_assoc]; rfl
theorem wd_id {l : List Nat} (h : 9 ∉ l) : wd l = l := wd_goid l [] h
theorem W8_len (a : List Nat) (c : Nat) : (W8 a c).length ≤ a.length + 8 := by
  unfold W8
  split
  · rw [List.length_append, List.length_replicate]; omega
  · rw [List.length_append]; simp
theorem wd_golen : ∀ (l a : List Nat), (l.foldl W8 a).length ≤ a.length + 8 * l.length
  | [], a => by simp
  | c :: l, a => by
    have := wd_golen l (W8 a c)
    have := W8_len a c
    rw [List.foldl_cons, List.length_cons]
    omega
theorem wd_len (l : List Nat) : (wd l).length ≤ 8 * l.length := by
  have := wd_golen l []
  unfold wd
  simpa using this
/-- not blank -/
def nb (l : List Nat) : Bool := !(l.all fun c => decide (c = 32))
def ind (l : List Nat) : Nat := (l.takeWhile fun c => decide (c = 32)).length
def inds (ls : List (List Nat)) : List Int := (ls.filter nb).map fun l => ((ind l : Nat) : Int)
def lst (ls : List (List Nat)) : Nat := ((minI (inds ls)).getD 0).toNat
def lvl (ls : List (List Nat)) : List (List Nat) := ls.map (List.drop (lst ls))
def lines (x : List Nat) : List (List Nat) := (sp 10 x).map wd
def lv (x : List Nat) : List Nat := jn [10] (lvl (lines x))
theorem ind_le (l : List Nat) : ind l ≤ l.length := tw_le _ l
theorem sp_no {c : Nat} : ∀ (l p : List Nat), p ∈ sp c l → c ∉ p
  | [], p, h => by rw [sp, List.mem_singleton] at h; subst h; simp
  | d :: l, p, h => by
    unfold sp at h
    split at h
    · rcases List.mem_cons.mp h with rfl | h
      · simp
      · exact sp_no l p h
    · rename_i q
      split at h
      · rename_i p0 r e
        rcases List.mem_cons.mp h with rfl | h
        · have := sp_no l p0 (e ▸ List.mem_cons_self)
          rw [List.mem_cons, not_or]
          exact ⟨fun z => q z.symm, this⟩
        · exact sp_no l p (e ▸ List.mem_cons_of_mem _ h)
      · rename_i e
        exact absurd e (sp_ne c l)
theorem lines_no10 (x : List Nat) : ∀ p ∈ lines x, 10 ∉ p := fun p h => by
  obtain ⟨q, hq, rfl⟩ := List.mem_map.mp h
  exact wd_no10 (sp_no x q hq)
theorem lines_no9 (x : List Nat) : ∀ p ∈ lines x, 9 ∉ p := fun p h => by
  obtain ⟨q, hq, rfl⟩ := List.mem_map.mp h
  exact wd_no9 q
theorem lines_ne (x : List Nat) : lines x ≠ [] := by
  unfold lines
  intro h
  exact sp_ne 10 x (List.map_eq_nil_iff.mp h)
theorem lvl_sub {ls : List (List Nat)} {c : Nat} (h : ∀ p ∈ ls, c ∉ p) : ∀ p ∈ lvl ls, c ∉ p := fun p hp => by
  obtain ⟨q, hq, rfl⟩ := List.mem_map.mp hp
  exact fun z => h q hq (List.mem_of_mem_drop z)
theorem map_id_of {ls : List (List Nat)} {f : List Nat → List Nat} (h : ∀ p ∈ ls, f p = p) : ls.map f = ls := (List.map_congr_left h).trans (List.map_id' ls)
/-- lines of the levelled text are its lines -/
theorem lines_lv (x : List Nat) : lines (lv x) = lvl (lines x) := by
  show (sp 10 (jn [10] (lvl (lines x)))).map wd = _
  rw [sp_jn (lvl (lines x)) (by unfold lvl; intro h; exact lines_ne x (List.map_eq_nil_iff.mp h)) (lvl_sub (lines_no10 x))]
  exact map_id_of fun p hp => wd_id (lvl_sub (lines_no9 x) p hp)
theorem minI_some {ns : List Int} (h : ns ≠ []) : ∃ m, minI ns = some m := by
  induction ns with
  | nil => exact absurd rfl h
  | cons a r ih =>
    cases r with
    | nil => exact ⟨a, rfl⟩
    | cons b r =>
      obtain ⟨m, hm⟩ := ih (by simp)
      exact ⟨min a m, by simp only [minI]; rw [hm]; rfl⟩
theorem drop_ind {l : List Nat} (h : nb l = true) : ind (l.drop (ind l)) = 0 ∧ nb (l.drop (ind l)) = true := by
  unfold ind
  rw [drop_tw]
  induction l with
  | nil => cases h
  | cons c l ih =>
    rw [List.dropWhile_cons]
    by_cases q : c = 32
    · rw [if_pos (decide_eq_true q)]
      refine ih ?_
      unfold nb at h ⊢
      rw [List.all_cons, decide_eq_true q, Bool.true_and] at h
      exact h
    · have q' : decide (c = 32) = false := decide_eq_false q
      rw [if_neg (by rw [q']; decide)]
      refine ⟨?_, ?_⟩
      · rw [List.takeWhile_cons, q']; rfl
      · unfold nb
        rw [List.all_cons, q']; rfl
theorem inds_nil {ls : List (List Nat)} (h : inds ls = []) : lst ls = 0 := by unfold lst; rw [h]; rfl
theorem lst_lvl (ls : List (List Nat)) : lst (lvl ls) = 0 := by
  by_cases h : inds ls = []
  · have e : lvl ls = ls := by
      unfold lvl
      rw [inds_nil h]
      exact map_id_of fun p _ => rfl
    rw [e, inds_nil h]
  · obtain ⟨m, hm⟩ := minI_some h
    obtain ⟨i1, i2⟩ := minI_le hm
    obtain ⟨l, hl, hlm⟩ := List.mem_map.mp i1
    obtain ⟨hl1, hl2⟩ := List.mem_filter.mp hl
    have e : lst ls = ind l := by
      unfold lst
      rw [hm, ← hlm]
      rfl
    obtain ⟨d1, d2⟩ := drop_ind hl2
    have mem : (0 : Int) ∈ inds (lvl ls) := by
      refine List.mem_map.mpr ⟨l.drop (ind l), List.mem_filter.mpr ⟨List.mem_map.mpr ⟨l, hl1, by rw [e]⟩, d2⟩, by rw [d1]; rfl⟩
    obtain ⟨m2, hm2⟩ := minI_some (List.ne_nil_of_mem mem)
    obtain ⟨j1, j2⟩ := minI_le hm2
    have := j2 0 mem
    unfold lst
    rw [hm2]
    show m2.toNat = 0
    omega
theorem lv_lv (x : List Nat) : lv (lv x) = lv x := by
  have h := lines_lv x
  have h2 := lst_lvl (lines x)
  show jn [10] (lvl (lines (lv x))) = _
  rw [h]
  show jn [10] ((lvl (lines x)).map (List.drop (lst (lvl (lines x))))) = jn [10] (lvl (lines x))
  rw [h2, show (lvl (lines x)).map (List.drop 0) = lvl (lines x) from map_id_of fun p _ => rfl]
/-! lengths -/
theorem jn_len (s : List Nat) : ∀ ps : List (List Nat), (jn s ps).length ≤ (ps.map List.length).sum + ps.length * s.length
  | [] => by simp [jn]
  | [p] => by simp [jn]
  | p :: q :: r => by
    have := jn_len s (q :: r)
    simp only [jn, List.length_append, List.map_cons, List.sum_cons, List.length_cons] at this ⊢
    rw [Nat.succ_mul]
    omega
theorem sp_sum (c : Nat) : ∀ l : List Nat, ((sp c l).map List.length).sum + (sp c l).length = l.length + 1
  | [] => rfl
  | d :: l => by
    have ih := sp_sum c l
    unfold sp
    split
    · simp only [List.map_cons, List.sum_cons, List.length_cons, List.length_nil]; omega
    · split
      · rename_i p r e
        rw [e] at ih
        simp only [List.map_cons, List.sum_cons, List.length_cons] at ih ⊢
        omega
      · rename_i e
        exact absurd e (sp_ne c l)
theorem sum_le_of {f g : List Nat → Nat} (h : ∀ p, f p ≤ g p) : ∀ ps : List (List Nat), (ps.map f).sum ≤ (ps.map g).sum
  | [] => Nat.le_refl _
  | p :: ps => by
    have := sum_le_of h ps
    have := h p
    simp only [List.map_cons, List.sum_cons]
    omega
theorem sum_mul8 : ∀ ps : List (List Nat), (ps.map fun p => 8 * p.length).sum = 8 * (ps.map List.length).sum
  | [] => rfl
  | p :: ps => by
    have := sum_mul8 ps
    simp only [List.map_cons, List.sum_cons] at this ⊢
    omega
theorem lvl_sum (ls : List (List Nat)) : ((lvl ls).map List.length).sum ≤ (ls.map List.length).sum := by
  unfold lvl
  rw [List.map_map]
  exact sum_le_of (fun p => by simp) ls
theorem lines_sum (x : List Nat) : ((lines x).map List.length).sum ≤ 8 * (x.length + 1) := by
  have h := sp_sum 10 x
  have h2 : ((lines x).map List.length).sum ≤ ((sp 10 x).map fun p => 8 * p.length).sum := by
    unfold lines
    rw [List.map_map]
    exact sum_le_of (fun p => wd_len p) _
  rw [sum_mul8] at h2
  omega
theorem lines_len (x : List Nat) : (lines x).length ≤ x.length + 1 := by
  have h := sp_sum 10 x
  unfold lines
  rw [List.length_map]
  omega
theorem line_len {x p : List Nat} (h : p ∈ lines x) : p.length ≤ 8 * (x.length + 1) := by
  have h2 : p.length ≤ ((lines x).map List.length).sum := by
    have : ∀ ls : List (List Nat), p ∈ ls → p.length ≤ (ls.map List.length).sum := fun ls => by
      induction ls with
      | nil => intro h; cases h
      | cons q ls ih =>
        intro h
        simp only [List.map_cons, List.sum_cons]
        rcases List.mem_cons.mp h with rfl | h
        · omega
        · have := ih h; omega
    exact this _ h
  exact Nat.le_trans h2 (lines_sum x)
theorem lv_len (x : List Nat) : (lv x).length ≤ 9 * (x.length + 1) := by
  have h1 := jn_len [10] (lvl (lines x))
  have h2 := lvl_sum (lines x)
  have h3 := lines_sum x
  have h4 := lines_len x
  have h5 : (lvl (lines x)).length = (lines x).length := by unfold lvl; simp
  unfold lv
  simp only [List.length_cons, List.length_nil] at h1
  omega
/-! the mirrors -/
def stL : D → List Nat
  | .str z => z.cps.toList
  | _ => []
theorem tab_eq {c : Nat} : decide ((⟨#[c]⟩ : Str) = ("\t" : Str)) = decide (c = 9) := decide_eq_decide.mpr ⟨fun h => by
  have h2 : (⟨#[c]⟩ : Str).cps.toList = ("\t" : Str).cps.toList := h ▸ rfl
  have h3 : [c] = [9] := h2
  simpa using h3, fun h => h ▸ rfl⟩
theorem sp_eq {c : Nat} : decide ((⟨#[c]⟩ : Str) = (" " : Str)) = decide (c = 32) := decide_eq_decide.mpr ⟨fun h => by
  have h2 : (⟨#[c]⟩ : Str).cps.toList = (" " : Str).cps.toList := h ▸ rfl
  have h3 : [c] = [32] := h2
  simpa using h3, fun h => h ▸ rfl⟩
theorem ml_str {z : Str} : ml z.cps.toList = z := rfl
theorem W8_mod (a : List Nat) : ((8 : Int) - (a.length : Int) % 8).toNat = 8 - a.length % 8 := by omega
theorem take_succ {l : List Nat} {i c : Nat} (h : l[i]? = some c) : l.take (i + 1) = l.take i ++ [c] := by rw [List.take_add_one, h]; rfl
theorem widened_ok (z : Str) (hz : z.length ≤ 10000) : F_widened [.im (.str z)] = some (.str (ml (wd z.cps.toList)), [.im (.str z)]) := by
  obtain ⟨e', h1, t, h2, h3⟩ := forL_inv (t := .one 2) (mb := b_widened_1) (fun k e => ∃ t, okM t = true ∧ e = [.im (.str z), .im (.str (ml (wd (z.cps.toList.take k)))), t]) (signsD z) 0 [.im (.str z), .im (.str ("" : Str)), .no] ⟨.no, rfl, rfl⟩ (by
    intro i x e hi hp
    obtain ⟨t, ht, rfl⟩ := hp
    rw [Nat.zero_add]
    obtain ⟨c, hc, rfl, hil⟩ := signs_at hi
    have hn : wd (z.cps.toList.take (i + 1)) = W8 (wd (z.cps.toList.take i)) c := by
      unfold wd
      rw [take_succ hc, List.foldl_append]; rfl
    have hlen := wd_len (z.cps.toList.take i)
    rw [List.length_take] at hlen
    obtain ⟨a, ha⟩ : ∃ a, a = wd (z.cps.toList.take i) := ⟨_, rfl⟩
    rw [hn]
    rw [← ha] at hlen ⊢
    have e1 : lenL [.str (ml a)] = some (.int (a.length : Int)) := by
      unfold lenL
      simp only [ml_len]
      exact if_pos (by omega)
    have e2 : modD (.int (a.length : Int)) (.int 8) = some (.int ((a.length : Int) % 8)) := modD_p (by decide)
    have e3 : mulD (.str (" " : Str)) (.int (8 - (a.length : Int) % 8)) = some (.str (ml (List.replicate (8 - a.length % 8) 32))) := by
      have : (" " : Str).length * (8 - (a.length : Int) % 8).toNat ≤ 1000000 ∧ (8 - (a.length : Int) % 8).natAbs ≤ 2 ^ 60 := by
        rw [show (" " : Str).length = 1 from rfl]
        omega
      simp only [mulD, if_pos this]
      rw [show (" " : Str) = ⟨#[32]⟩ by decide, mul_one, W8_mod]
    have e4 : addI (.str (ml a)) (.str (ml (List.replicate (8 - a.length % 8) 32))) = some (.str (ml (a ++ List.replicate (8 - a.length % 8) 32))) := by
      have : (ml a).length + (ml (List.replicate (8 - a.length % 8) 32)).length ≤ 1000000 := by rw [ml_len, ml_len, List.length_replicate]; omega
      simp only [addI, if_pos this, ml_app]
    have e5 : addI (.str (ml a)) (.str ⟨#[c]⟩) = some (.str (ml (a ++ [c]))) := by
      have : (ml a).length + (⟨#[c]⟩ : Str).length ≤ 1000000 := by rw [ml_len]; show a.length + 1 ≤ _; omega
      simp only [addI, if_pos this]
      rw [show (⟨#[c]⟩ : Str) = ml [c] from rfl, ml_app]
    have e6 := tab_eq (c := c)
    refine ⟨_, [.im (.str z), .im (.str (ml (W8 a c))), .im (.str ⟨#[c]⟩)], (by simp only [z_sseq, z_sset, z_sret, z_sif, z_snx, z_sbk, z_sct, z_sdrop, z_sasg, z_spar, z_sown, z_sfor, z_mop2, z_mc, z_mvar, z_MM_opt, z_MM_map, z_mcons, z_mnil, z_pnil, z_pcim, z_pcow, z_acim, z_acsl, z_anil, z_mif, z_mandB, z_morB, z_mnotB, z_mandV, z_morV, z_mnotV, z_mmeth, z_fmeth, z_fop2, z_mdr, z_mdrNe, z_mdrLen, z_mdrPop, z_sdr, z_mappend, z_mextend, z_mpopAt, z_mlenO, z_mnilO, z_msl, z_mcall, z_saug, z_mmethL, z_sdraws, z_mtrue, slots_nil, slots_im, slots_sl, argsE, updE, List.nodup_nil, List.nodup_cons, List.not_mem_nil, List.mem_singleton, not_false_eq_true, and_self, and_true, List.nil_append, List.append_nil, List.cons_append, mtg, Zf.setL, setsE, few, blD_b, truD_b, truD_i, truD_l, truD_t, intL_i, intL_b, seqD_l, seqD_t, seqD_s, seqD_c, negD_i, DS.at, DS.put, DS.row, addD_i, subD_i, eqD_i, neD_i, ltD_i, leD_i, gtD_i, geD_i, eqD_s, neD_s, out_l, out_d, okS_s, okW_nil, okW_cons, okM_no, okM_im, okM_mf, okM_mt, okN_no, okN_im, okN_mu, wipeE, List.all_cons, List.all_nil, Bool.and_true, Bool.true_and, Bool.and_self, decide_true, decide_false, reduceIte, if_true, if_false, List.length_cons, List.length_nil, List.getElem?_cons_zero, List.getElem?_cons_succ, List.set_cons_zero, List.set_cons_succ, List.map_cons, List.map_nil, Bool.false_eq_true, Option.some.injEq, Bool.not_true, Bool.not_false, Nat.reduceAdd, Nat.reduceLT, Nat.reduceLeDiff, z_mpop0, intD_i, ht] <;> rfl), .inl ?_, .im (.str ⟨#[c]⟩), rfl, rfl⟩
    unfold b_widened_1 W8
    by_cases q : c = 9
    · rw [decide_eq_true q] at e6
      simp only [z_sseq, z_sset, z_sret, z_sif, z_snx, z_sbk, z_sct, z_sdrop, z_sasg, z_spar, z_sown, z_sfor, z_mop2, z_mc, z_mvar, z_MM_opt, z_MM_map, z_mcons, z_mnil, z_pnil, z_pcim, z_pcow, z_acim, z_acsl, z_anil, z_mif, z_mandB, z_morB, z_mnotB, z_mandV, z_morV, z_mnotV, z_mmeth, z_fmeth, z_fop2, z_mdr, z_mdrNe, z_mdrLen, z_mdrPop, z_sdr, z_mappend, z_mextend, z_mpopAt, z_mlenO, z_mnilO, z_msl, z_mcall, z_saug, z_mmethL, z_sdraws, z_mtrue, slots_nil, slots_im, slots_sl, argsE, updE, List.nodup_nil, List.nodup_cons, List.not_mem_nil, List.mem_singleton, not_false_eq_true, and_self, and_true, List.nil_append, List.append_nil, List.cons_append, mtg, Zf.setL, setsE, few, blD_b, truD_b, truD_i, truD_l, truD_t, intL_i, intL_b, seqD_l, seqD_t, seqD_s, seqD_c, negD_i, DS.at, DS.put, DS.row, addD_i, subD_i, eqD_i, neD_i, ltD_i, leD_i, gtD_i, geD_i, eqD_s, neD_s, out_l, out_d, okS_s, okW_nil, okW_cons, okM_no, okM_im, okM_mf, okM_mt, okN_no, okN_im, okN_mu, wipeE, List.all_cons, List.all_nil, Bool.and_true, Bool.true_and, Bool.and_self, decide_true, decide_false, reduceIte, if_true, if_false, List.length_cons, List.length_nil, List.getElem?_cons_zero, List.getElem?_cons_succ, List.set_cons_zero, List.set_cons_succ, List.map_cons, List.map_nil, Bool.false_eq_true, Option.some.injEq, Bool.not_true, Bool.not_false, Nat.reduceAdd, Nat.reduceLT, Nat.reduceLeDiff, z_mpop0, intD_i, e6, e1, e2, e3, e4, if_pos q]
    · rw [decide_eq_false q] at e6
      simp only [z_sseq, z_sset, z_sret, z_sif, z_snx, z_sbk, z_sct, z_sdrop, z_sasg, z_spar, z_sown, z_sfor, z_mop2, z_mc, z_mvar, z_MM_opt, z_MM_map, z_mcons, z_mnil, z_pnil, z_pcim, z_pcow, z_acim, z_acsl, z_anil, z_mif, z_mandB, z_morB, z_mnotB, z_mandV, z_morV, z_mnotV, z_mmeth, z_fmeth, z_fop2, z_mdr, z_mdrNe, z_mdrLen, z_mdrPop, z_sdr, z_mappend, z_mextend, z_mpopAt, z_mlenO, z_mnilO, z_msl, z_mcall, z_saug, z_mmethL, z_sdraws, z_mtrue, slots_nil, slots_im, slots_sl, argsE, updE, List.nodup_nil, List.nodup_cons, List.not_mem_nil, List.mem_singleton, not_false_eq_true, and_self, and_true, List.nil_append, List.append_nil, List.cons_append, mtg, Zf.setL, setsE, few, blD_b, truD_b, truD_i, truD_l, truD_t, intL_i, intL_b, seqD_l, seqD_t, seqD_s, seqD_c, negD_i, DS.at, DS.put, DS.row, addD_i, subD_i, eqD_i, neD_i, ltD_i, leD_i, gtD_i, geD_i, eqD_s, neD_s, out_l, out_d, okS_s, okW_nil, okW_cons, okM_no, okM_im, okM_mf, okM_mt, okN_no, okN_im, okN_mu, wipeE, List.all_cons, List.all_nil, Bool.and_true, Bool.true_and, Bool.and_self, decide_true, decide_false, reduceIte, if_true, if_false, List.length_cons, List.length_nil, List.getElem?_cons_zero, List.getElem?_cons_succ, List.set_cons_zero, List.set_cons_succ, List.map_cons, List.map_nil, Bool.false_eq_true, Option.some.injEq, Bool.not_true, Bool.not_false, Nat.reduceAdd, Nat.reduceLT, Nat.reduceLeDiff, z_mpop0, intD_i, e6, e5, if_neg q])
  rw [Nat.zero_add, signsD, List.length_map, List.take_length] at h3
  have body : m_widened [.im (.str z), .no, .no] = some (.rt (.str (ml (wd z.cps.toList))) [.im (.str z), .im (.str (ml (wd z.cps.toList))), t]) := by
    rw [h3] at h1
    unfold m_widened
    simp only [z_sseq, z_sset, z_sret, z_sif, z_snx, z_sbk, z_sct, z_sdrop, z_sasg, z_spar, z_sown, z_sfor, z_mop2, z_mc, z_mvar, z_MM_opt, z_MM_map, z_mcons, z_mnil, z_pnil, z_pcim, z_pcow, z_acim, z_acsl, z_anil, z_mif, z_mandB, z_morB, z_mnotB, z_mandV, z_morV, z_mnotV, z_mmeth, z_fmeth, z_fop2, z_mdr, z_mdrNe, z_mdrLen, z_mdrPop, z_sdr, z_mappend, z_mextend, z_mpopAt, z_mlenO, z_mnilO, z_msl, z_mcall, z_saug, z_mmethL, z_sdraws, z_mtrue, slots_nil, slots_im, slots_sl, argsE, updE, List.nodup_nil, List.nodup_cons, List.not_mem_nil, List.mem_singleton, not_false_eq_true, and_self, and_true, List.nil_append, List.append_nil, List.cons_append, mtg, Zf.setL, setsE, few, blD_b, truD_b, truD_i, truD_l, truD_t, intL_i, intL_b, seqD_l, seqD_t, seqD_s, seqD_c, negD_i, DS.at, DS.put, DS.row, addD_i, subD_i, eqD_i, neD_i, ltD_i, leD_i, gtD_i, geD_i, eqD_s, neD_s, out_l, out_d, okS_s, okW_nil, okW_cons, okM_no, okM_im, okM_mf, okM_mt, okN_no, okN_im, okN_mu, wipeE, List.all_cons, List.all_nil, Bool.and_true, Bool.true_and, Bool.and_self, decide_true, decide_false, reduceIte, if_true, if_false, List.length_cons, List.length_nil, List.getElem?_cons_zero, List.getElem?_cons_succ, List.set_cons_zero, List.set_cons_succ, List.map_cons, List.map_nil, Bool.false_eq_true, Option.some.injEq, Bool.not_true, Bool.not_false, Nat.reduceAdd, Nat.reduceLT, Nat.reduceLeDiff, z_mpop0, intD_i, seqD, h1]
  exact fnM_rt (n := 3) (args := [.im (.str z)]) (m := m_widened) body
theorem indent_ok (l : List Nat) (h : l.length ≤ 100000) : F_indent_of [.im (.str (ml l))] = some (.int (ind l : Nat), [.im (.str (ml l))]) := by
  have e1 : lenL [.str (ml l)] = some (.int (l.length : Int)) := by
    unfold lenL
    simp only [ml_len]
    exact if_pos (by omega)
  have e2 : stripM Txt.lstripChars (ml l) [.str (" " : Str)] = some (.str (Txt.lstripChars (ml l) (" " : Str))) := by
    simp only [stripM]
    exact if_pos (by rw [ml_len]; omega)
  have e3 : Txt.lstripChars (ml l) (" " : Str) = ml (l.dropWhile fun c => decide (c = 32)) := by
    refine str_ext ?_
    unfold Txt.lstripChars
    rw [ls_strip]
    have : (fun c => (" " : Str).cps.contains c) = fun c : Nat => decide (c = 32) := by
      funext c
      rw [show (" " : Str).cps = #[32] by decide]
      simp
    rw [show (" " : Str).cps.contains = fun c : Nat => decide (c = 32) from this]
    rfl
  have hd := drop_tw (fun c => decide (c = 32)) l
  have hl : (l.dropWhile fun c => decide (c = 32)).length = l.length - ind l := by rw [← hd, List.length_drop]; rfl
  have e4 : lenL [.str (ml (l.dropWhile fun c => decide (c = 32)))] = some (.int ((l.length - ind l : Nat) : Int)) := by
    unfold lenL
    simp only [ml_len, hl]
    exact if_pos (by omega)
  have hle := ind_le l
  have e5 : subD (.int (l.length : Int)) (.int ((l.length - ind l : Nat) : Int)) = some (.int (ind l : Nat)) := by
    show some (D.int _) = _
    rw [show (l.length : Int) - ((l.length - ind l : Nat) : Int) = (ind l : Nat) by omega]
  rw [e3] at e2
  have body : m_indent_of [.im (.str (ml l))] = some (.rt (.int (ind l : Nat)) [.im (.str (ml l))]) := by
    unfold m_indent_of
    simp only [z_sseq, z_sset, z_sret, z_sif, z_snx, z_sbk, z_sct, z_sdrop, z_sasg, z_spar, z_sown, z_sfor, z_mop2, z_mc, z_mvar, z_MM_opt, z_MM_map, z_mcons, z_mnil, z_pnil, z_pcim, z_pcow, z_acim, z_acsl, z_anil, z_mif, z_mandB, z_morB, z_mnotB, z_mandV, z_morV, z_mnotV, z_mmeth, z_fmeth, z_fop2, z_mdr, z_mdrNe, z_mdrLen, z_mdrPop, z_sdr, z_mappend, z_mextend, z_mpopAt, z_mlenO, z_mnilO, z_msl, z_mcall, z_saug, z_mmethL, z_sdraws, z_mtrue, slots_nil, slots_im, slots_sl, argsE, updE, List.nodup_nil, List.nodup_cons, List.not_mem_nil, List.mem_singleton, not_false_eq_true, and_self, and_true, List.nil_append, List.append_nil, List.cons_append, mtg, Zf.setL, setsE, few, blD_b, truD_b, truD_i, truD_l, truD_t, intL_i, intL_b, seqD_l, seqD_t, seqD_s, seqD_c, negD_i, DS.at, DS.put, DS.row, addD_i, subD_i, eqD_i, neD_i, ltD_i, leD_i, gtD_i, geD_i, eqD_s, neD_s, out_l, out_d, okS_s, okW_nil, okW_cons, okM_no, okM_im, okM_mf, okM_mt, okN_no, okN_im, okN_mu, wipeE, List.all_cons, List.all_nil, Bool.and_true, Bool.true_and, Bool.and_self, decide_true, decide_false, reduceIte, if_true, if_false, List.length_cons, List.length_nil, List.getElem?_cons_zero, List.getElem?_cons_succ, List.set_cons_zero, List.set_cons_succ, List.map_cons, List.map_nil, Bool.false_eq_true, Option.some.injEq, Bool.not_true, Bool.not_false, Nat.reduceAdd, Nat.reduceLT, Nat.reduceLeDiff, z_mpop0, intD_i, e1, e2, e4, e5]
  exact fnM_rt (n := 1) (args := [.im (.str (ml l))]) (m := m_indent_of) body
theorem trim_nil (g : Nat → Bool) : ∀ l : List Nat, trimR g (l.dropWhile g) = [] ↔ l.all g = true := fun l => by
  have h1 : ∀ l : List Nat, l.dropWhile g = [] ↔ l.all g = true := fun l => by
    induction l with
    | nil => simp
    | cons c l ih =>
      rw [List.dropWhile_cons, List.all_cons]
      cases q : g c with
      | true => simpa using ih
      | false => simp
  unfold trimR
  rw [List.reverse_eq_nil_iff, h1, List.all_reverse]
  constructor
  · intro h
    rw [← h1]
    cases q : l.dropWhile g with
    | nil => rfl
    | cons c r =>
      rw [q, List.all_cons, Bool.and_eq_true] at h
      have := List.head?_dropWhile_not g l
      rw [q] at this
      simp at this
      rw [this] at h
      cases h.1
  · intro h
    rw [(h1 l).mpr h]; rfl
theorem blank_ok (l : List Nat) (h9 : 9 ∉ l) (h : l.length ≤ 100000) : F_is_blank [.im (.str (ml l))] = some (.bl (!nb l), [.im (.str (ml l))]) := by
  have e2 : stripM Txt.stripChars (ml l) [.str (" \t" : Str)] = some (.str (Txt.stripChars (ml l) (" \t" : Str))) := by
    simp only [stripM]
    exact if_pos (by rw [ml_len]; omega)
  have e3 : decide (Txt.stripChars (ml l) (" \t" : Str) = ("" : Str)) = !nb l := by
    unfold nb
    rw [Bool.not_not]
    have : Txt.stripChars (ml l) (" \t" : Str) = ("" : Str) ↔ (l.all fun c => decide (c = 32)) = true := by
      rw [s_empty]
      unfold Txt.stripChars
      rw [ls_strip]
      show trimR _ (List.dropWhile _ (ml l).cps.toList) = [] ↔ _
      rw [trim_nil, ls_ml, show (" \t" : Str).cps = #[32, 9] by decide]
      rw [List.all_eq_true, List.all_eq_true]
      constructor
      · intro h c hc
        have := h c hc
        have h9c : c ≠ 9 := fun q => h9 (q ▸ hc)
        simp at this
        rcases this with this | this
        · exact decide_eq_true this
        · exact absurd this h9c
      · intro h c hc
        have := of_decide_eq_true (h c hc)
        subst this
        simp
    cases q : (l.all fun c => decide (c = 32)) with
    | true => exact decide_eq_true (this.mpr q)
    | false => exact decide_eq_false fun z => by rw [this.mp z] at q; cases q
  have body : m_is_blank [.im (.str (ml l))] = some (.rt (.bl (!nb l)) [.im (.str (ml l))]) := by
    unfold m_is_blank
    simp only [z_sseq, z_sset, z_sret, z_sif, z_snx, z_sbk, z_sct, z_sdrop, z_sasg, z_spar, z_sown, z_sfor, z_mop2, z_mc, z_mvar, z_MM_opt, z_MM_map, z_mcons, z_mnil, z_pnil, z_pcim, z_pcow, z_acim, z_acsl, z_anil, z_mif, z_mandB, z_morB, z_mnotB, z_mandV, z_morV, z_mnotV, z_mmeth, z_fmeth, z_fop2, z_mdr, z_mdrNe, z_mdrLen, z_mdrPop, z_sdr, z_mappend, z_mextend, z_mpopAt, z_mlenO, z_mnilO, z_msl, z_mcall, z_saug, z_mmethL, z_sdraws, z_mtrue, slots_nil, slots_im, slots_sl, argsE, updE, List.nodup_nil, List.nodup_cons, List.not_mem_nil, List.mem_singleton, not_false_eq_true, and_self, and_true, List.nil_append, List.append_nil, List.cons_append, mtg, Zf.setL, setsE, few, blD_b, truD_b, truD_i, truD_l, truD_t, intL_i, intL_b, seqD_l, seqD_t, seqD_s, seqD_c, negD_i, DS.at, DS.put, DS.row, addD_i, subD_i, eqD_i, neD_i, ltD_i, leD_i, gtD_i, geD_i, eqD_s, neD_s, out_l, out_d, okS_s, okW_nil, okW_cons, okM_no, okM_im, okM_mf, okM_mt, okN_no, okN_im, okN_mu, wipeE, List.all_cons, List.all_nil, Bool.and_true, Bool.true_and, Bool.and_self, decide_true, decide_false, reduceIte, if_true, if_false, List.length_cons, List.length_nil, List.getElem?_cons_zero, List.getElem?_cons_succ, List.set_cons_zero, List.set_cons_succ, List.map_cons, List.map_nil, Bool.false_eq_true, Option.some.injEq, Bool.not_true, Bool.not_false, Nat.reduceAdd, Nat.reduceLT, Nat.reduceLeDiff, z_mpop0, intD_i, e2, e3]
  exact fnM_rt (n := 1) (args := [.im (.str (ml l))]) (m := m_is_blank) body
theorem stL_ml (l : List Nat) : stL (.str (ml l)) = l := rfl
theorem filt_ml (p : List Nat → Bool) (f : List Nat → D) (ls : List (List Nat)) : ((ls.map fun l => D.str (ml l)).filter fun d => p (stL d)).map (fun d => f (stL d)) = (ls.filter p).map f := by
  rw [List.filter_map, List.map_map]; rfl
theorem intsD_ints (ns : List Int) : intsD (ns.map D.int) = some ns := intsD_map ns
theorem cut_drop (l : List Nat) (m : Nat) (h : l.length ≤ 100000) : slD (.str (ml l)) (some (m : Int)) none = some (.str (ml (l.drop m))) := by
  have : (ml l).length ≤ 100000 := by rw [ml_len]; exact h
  simp only [slD, if_pos this]
  unfold cutS
  rw [ml_len, HT.sIx_nat, HT.sIx_none, ls_ml]
  congr 2
  show ml _ = ml _
  congr 1
  by_cases q : m ≤ l.length
  · rw [Nat.min_eq_left q, List.take_of_length_le (by rw [List.length_drop]; exact Nat.le_refl _)]
  · rw [Nat.min_eq_right (by omega), List.drop_eq_nil_of_le (by omega : l.length ≤ m), Nat.sub_self]
    rfl
/-- the least of the indents, as the programs write it -/
def leastM (i : Nat) : MM D := mif (MM.opt (mop2 neD (mvar i) (MM.map (MM.opt (mnil) few) .lst)) blD) (MM.opt (mcons (mvar i) (mnil)) minL) (mc (.int 0))
theorem leastM_ok (i : Nat) (ns : List Int) (e : En) (h : e[i]? = some (.im (.lst (ns.map .int)))) : leastM i e = some (.int ((minI ns).getD 0), e) := by
  have hv : mvar i e = some (.lst (ns.map .int), e) := by unfold mvar; rw [h]
  have h1 := neD_ints ns []
  have hf : few [] = some [] := rfl
  unfold leastM
  by_cases q : ns = []
  · subst q
    have h1 : neD (.lst []) (.lst []) = some (.bl false) := h1
    have hv : mvar i e = some (.lst [], e) := hv
    rw [z_mif, z_MM_opt, z_mop2]
    rw [hv]
    simp only [z_MM_map, z_MM_opt, z_mnil, hf, h1, blD, z_mc]
    rfl
  · rw [decide_eq_false q] at h1
    have h1 : neD (.lst (ns.map .int)) (.lst []) = some (.bl true) := h1
    obtain ⟨m, hm⟩ := minI_some q
    have h2 : minL [.lst (ns.map .int)] = some (.int m) := by unfold minL; simp only [intsD_map, hm]; rfl
    rw [z_mif, z_MM_opt, z_mop2]
    rw [hv]
    simp only [z_MM_map, z_MM_opt, z_mnil, z_mcons, hv, hf, h1, blD, h2, hm]
    rfl
theorem inds_lst (ls : List (List Nat)) : (minI (inds ls)).getD 0 = ((lst ls : Nat) : Int) := by
  unfold lst
  cases q : minI (inds ls) with
  | none => rfl
  | some m =>
    obtain ⟨i1, _⟩ := minI_le q
    obtain ⟨l, _, hl⟩ := List.mem_map.mp i1
    show m = (m.toNat : Int)
    omega
def dl (ls : List (List Nat)) : List D := ls.map fun l => .str (ml l)
theorem dl_strs (ls : List (List Nat)) : dl ls = (ls.map ml).map D.str := by unfold dl; rw [List.map_map]; rfl
theorem join_nl (ls : List (List Nat)) (h : (ls.map List.length).sum + ls.length ≤ 1000000) : joinM ("\n" : Str) [.lst (dl ls)] = some (.str (ml (jn [10] ls))) := by
  rw [dl_strs, joinM_lst]
  · rw [show ("\n" : Str).cps.toList = [10] by decide, List.map_map]
    rw [show (ls.map ((fun x : Str => x.cps.toList) ∘ ml)) = ls from (List.map_congr_left fun a _ => ls_ml a).trans (List.map_id' ls)]
  · rw [List.map_map, List.length_map, show ("\n" : Str).length = 1 from rfl]
    rw [show (ls.map ((fun x : Str => x.length) ∘ ml)) = ls.map List.length from List.map_congr_left fun a _ => ml_len a]
    omega
theorem drop_ok (ls : List (List Nat)) (i j : Nat) (e : En) (m : Nat) (hij : i ≠ j) (hi : e[i]? = some .no) (hj : e[j]? = some (.im (.int (m : Int)))) (hl : ∀ l ∈ ls, l.length ≤ 100000) : ∀ d ∈ dl ls, msl (mvar i) (MM.opt (mvar j) intD) (fun env => some (none, env)) (e.set i (.im d)) = some (.str (ml ((stL d).drop m)), e.set i (.im d)) := fun d hd => by
  obtain ⟨l, hl2, rfl⟩ := List.mem_map.mp hd
  have hlt := (List.getElem?_eq_some_iff.mp hi).1
  have h1 : (e.set i (.im (.str (ml l))))[i]? = some (.im (.str (ml l))) := List.getElem?_set_self hlt
  have h2 : (e.set i (.im (.str (ml l))))[j]? = some (.im (.int (m : Int))) := by rw [List.getElem?_set_ne hij, hj]
  have h3 := cut_drop l m (hl l hl2)
  rw [z_msl, z_mvar, h1]
  simp only [z_MM_opt, z_mvar, h2, intD, h3, stL_ml]
theorem map_dl (f : List Nat → List Nat) (ls : List (List Nat)) : (dl ls).map (fun d => D.str (ml (f (stL d)))) = dl (ls.map f) := by
  unfold dl
  rw [List.map_map, List.map_map]; rfl
theorem levelled_ok (z : Str) (hz : z.length ≤ 9000) : F_levelled [.im (.str z)] = some (.str (ml (lv z.cps.toList)), [.im (.str z)]) := by
  have hx := ls_len z
  obtain ⟨x, hxx⟩ : ∃ x, x = z.cps.toList := ⟨_, rfl⟩
  rw [← hxx] at hx ⊢
  have s0 : splitM z [.str ("\n" : Str)] = some (dl (sp 10 x)) := by
    rw [show ("\n" : Str) = ⟨#[10]⟩ by decide, splitM_one (by omega), ← hxx]; rfl
  have hsum := sp_sum 10 x
  have hlines := lines_sum x
  have hln := lines_len x
  have hline : ∀ l ∈ lines x, l.length ≤ 100000 := fun l hl => by have := line_len hl; omega
  have hsp : ∀ l ∈ sp 10 x, l.length ≤ 10000 := fun l hl => by
    have : ∀ ls : List (List Nat), l ∈ ls → l.length ≤ (ls.map List.length).sum := fun ls => by
      induction ls with
      | nil => intro h; cases h
      | cons q ls ih =>
        intro h
        simp only [List.map_cons, List.sum_cons]
        rcases List.mem_cons.mp h with rfl | h
        · omega
        · have := ih h; omega
    have := this _ hl
    omega
  -- lines
  have c1 : mlc (.one 4) [4] (MM.opt (MM.map (fmeth splitM (mvar 0) (mcons (mc (.str "\n")) (mnil))) .lst) seqD) (mtrue) (e_levelled_1) [.im (.str z), .no, .no, .no, .no] = some (dl (lines x), [.im (.str z), .no, .no, .no, .no]) := by
    rw [mlc_m (ds := dl (sp 10 x)) (fun d => .str (ml (wd (stL d)))) (by simp only [z_sseq, z_sset, z_sret, z_sif, z_snx, z_sbk, z_sct, z_sdrop, z_sasg, z_spar, z_sown, z_sfor, z_mop2, z_mc, z_mvar, z_MM_opt, z_MM_map, z_mcons, z_mnil, z_pnil, z_pcim, z_pcow, z_acim, z_acsl, z_anil, z_mif, z_mandB, z_morB, z_mnotB, z_mandV, z_morV, z_mnotV, z_mmeth, z_fmeth, z_fop2, z_mdr, z_mdrNe, z_mdrLen, z_mdrPop, z_sdr, z_mappend, z_mextend, z_mpopAt, z_mlenO, z_mnilO, z_msl, z_mcall, z_saug, z_mmethL, z_sdraws, z_mtrue, slots_nil, slots_im, slots_sl, argsE, updE, List.nodup_nil, List.nodup_cons, List.not_mem_nil, List.mem_singleton, not_false_eq_true, and_self, and_true, List.nil_append, List.append_nil, List.cons_append, mtg, Zf.setL, setsE, few, blD_b, truD_b, truD_i, truD_l, truD_t, intL_i, intL_b, seqD_l, seqD_t, seqD_s, seqD_c, negD_i, DS.at, DS.put, DS.row, addD_i, subD_i, eqD_i, neD_i, ltD_i, leD_i, gtD_i, geD_i, eqD_s, neD_s, out_l, out_d, okS_s, okW_nil, okW_cons, okM_no, okM_im, okM_mf, okM_mt, okN_no, okN_im, okN_mu, wipeE, List.all_cons, List.all_nil, Bool.and_true, Bool.true_and, Bool.and_self, decide_true, decide_false, reduceIte, if_true, if_false, List.length_cons, List.length_nil, List.getElem?_cons_zero, List.getElem?_cons_succ, List.set_cons_zero, List.set_cons_succ, List.map_cons, List.map_nil, Bool.false_eq_true, Option.some.injEq, Bool.not_true, Bool.not_false, Nat.reduceAdd, Nat.reduceLT, Nat.reduceLeDiff, z_mpop0, intD_i, s0, seqD]) (by unfold dl; rw [List.length_map]; omega) rfl (fun d hd => by
      obtain ⟨l, hl, rfl⟩ := List.mem_map.mp hd
      have hw := widened_ok (ml l) (by rw [ml_len]; exact hsp l hl)
      rw [ls_ml] at hw
      unfold e_levelled_1
      simp only [z_sseq, z_sset, z_sret, z_sif, z_snx, z_sbk, z_sct, z_sdrop, z_sasg, z_spar, z_sown, z_sfor, z_mop2, z_mc, z_mvar, z_MM_opt, z_MM_map, z_mcons, z_mnil, z_pnil, z_pcim, z_pcow, z_acim, z_acsl, z_anil, z_mif, z_mandB, z_morB, z_mnotB, z_mandV, z_morV, z_mnotV, z_mmeth, z_fmeth, z_fop2, z_mdr, z_mdrNe, z_mdrLen, z_mdrPop, z_sdr, z_mappend, z_mextend, z_mpopAt, z_mlenO, z_mnilO, z_msl, z_mcall, z_saug, z_mmethL, z_sdraws, z_mtrue, slots_nil, slots_im, slots_sl, argsE, updE, List.nodup_nil, List.nodup_cons, List.not_mem_nil, List.mem_singleton, not_false_eq_true, and_self, and_true, List.nil_append, List.append_nil, List.cons_append, mtg, Zf.setL, setsE, few, blD_b, truD_b, truD_i, truD_l, truD_t, intL_i, intL_b, seqD_l, seqD_t, seqD_s, seqD_c, negD_i, DS.at, DS.put, DS.row, addD_i, subD_i, eqD_i, neD_i, ltD_i, leD_i, gtD_i, geD_i, eqD_s, neD_s, out_l, out_d, okS_s, okW_nil, okW_cons, okM_no, okM_im, okM_mf, okM_mt, okN_no, okN_im, okN_mu, wipeE, List.all_cons, List.all_nil, Bool.and_true, Bool.true_and, Bool.and_self, decide_true, decide_false, reduceIte, if_true, if_false, List.length_cons, List.length_nil, List.getElem?_cons_zero, List.getElem?_cons_succ, List.set_cons_zero, List.set_cons_succ, List.map_cons, List.map_nil, Bool.false_eq_true, Option.some.injEq, Bool.not_true, Bool.not_false, Nat.reduceAdd, Nat.reduceLT, Nat.reduceLeDiff, z_mpop0, intD_i, hw, stL_ml]), map_dl]
    rfl
  have c2 : mlc (.one 4) [4] (MM.opt (mvar 1) seqD) (t_levelled_3) (e_levelled_2) [.im (.str z), .im (.lst (dl (lines x))), .no, .no, .no] = some ((inds (lines x)).map .int, [.im (.str z), .im (.lst (dl (lines x))), .no, .no, .no]) := by
    rw [mlc_fm (ds := dl (lines x)) (fun d => nb (stL d)) (fun d => .int (ind (stL d) : Nat)) (by simp only [z_sseq, z_sset, z_sret, z_sif, z_snx, z_sbk, z_sct, z_sdrop, z_sasg, z_spar, z_sown, z_sfor, z_mop2, z_mc, z_mvar, z_MM_opt, z_MM_map, z_mcons, z_mnil, z_pnil, z_pcim, z_pcow, z_acim, z_acsl, z_anil, z_mif, z_mandB, z_morB, z_mnotB, z_mandV, z_morV, z_mnotV, z_mmeth, z_fmeth, z_fop2, z_mdr, z_mdrNe, z_mdrLen, z_mdrPop, z_sdr, z_mappend, z_mextend, z_mpopAt, z_mlenO, z_mnilO, z_msl, z_mcall, z_saug, z_mmethL, z_sdraws, z_mtrue, slots_nil, slots_im, slots_sl, argsE, updE, List.nodup_nil, List.nodup_cons, List.not_mem_nil, List.mem_singleton, not_false_eq_true, and_self, and_true, List.nil_append, List.append_nil, List.cons_append, mtg, Zf.setL, setsE, few, blD_b, truD_b, truD_i, truD_l, truD_t, intL_i, intL_b, seqD_l, seqD_t, seqD_s, seqD_c, negD_i, DS.at, DS.put, DS.row, addD_i, subD_i, eqD_i, neD_i, ltD_i, leD_i, gtD_i, geD_i, eqD_s, neD_s, out_l, out_d, okS_s, okW_nil, okW_cons, okM_no, okM_im, okM_mf, okM_mt, okN_no, okN_im, okN_mu, wipeE, List.all_cons, List.all_nil, Bool.and_true, Bool.true_and, Bool.and_self, decide_true, decide_false, reduceIte, if_true, if_false, List.length_cons, List.length_nil, List.getElem?_cons_zero, List.getElem?_cons_succ, List.set_cons_zero, List.set_cons_succ, List.map_cons, List.map_nil, Bool.false_eq_true, Option.some.injEq, Bool.not_true, Bool.not_false, Nat.reduceAdd, Nat.reduceLT, Nat.reduceLeDiff, z_mpop0, intD_i, seqD]) (by unfold dl; rw [List.length_map]; omega) rfl (fun d hd => by
      obtain ⟨l, hl, rfl⟩ := List.mem_map.mp hd
      have hw := blank_ok l (lines_no9 x l hl) (hline l hl)
      have hw2 := indent_ok l (hline l hl)
      unfold t_levelled_3 e_levelled_2
      refine ⟨?_, fun _ => ?_⟩
      · simp only [z_sseq, z_sset, z_sret, z_sif, z_snx, z_sbk, z_sct, z_sdrop, z_sasg, z_spar, z_sown, z_sfor, z_mop2, z_mc, z_mvar, z_MM_opt, z_MM_map, z_mcons, z_mnil, z_pnil, z_pcim, z_pcow, z_acim, z_acsl, z_anil, z_mif, z_mandB, z_morB, z_mnotB, z_mandV, z_morV, z_mnotV, z_mmeth, z_fmeth, z_fop2, z_mdr, z_mdrNe, z_mdrLen, z_mdrPop, z_sdr, z_mappend, z_mextend, z_mpopAt, z_mlenO, z_mnilO, z_msl, z_mcall, z_saug, z_mmethL, z_sdraws, z_mtrue, slots_nil, slots_im, slots_sl, argsE, updE, List.nodup_nil, List.nodup_cons, List.not_mem_nil, List.mem_singleton, not_false_eq_true, and_self, and_true, List.nil_append, List.append_nil, List.cons_append, mtg, Zf.setL, setsE, few, blD_b, truD_b, truD_i, truD_l, truD_t, intL_i, intL_b, seqD_l, seqD_t, seqD_s, seqD_c, negD_i, DS.at, DS.put, DS.row, addD_i, subD_i, eqD_i, neD_i, ltD_i, leD_i, gtD_i, geD_i, eqD_s, neD_s, out_l, out_d, okS_s, okW_nil, okW_cons, okM_no, okM_im, okM_mf, okM_mt, okN_no, okN_im, okN_mu, wipeE, List.all_cons, List.all_nil, Bool.and_true, Bool.true_and, Bool.and_self, decide_true, decide_false, reduceIte, if_true, if_false, List.length_cons, List.length_nil, List.getElem?_cons_zero, List.getElem?_cons_succ, List.set_cons_zero, List.set_cons_succ, List.map_cons, List.map_nil, Bool.false_eq_true, Option.some.injEq, Bool.not_true, Bool.not_false, Nat.reduceAdd, Nat.reduceLT, Nat.reduceLeDiff, z_mpop0, intD_i, hw, stL_ml, Bool.not_not]
      · simp only [z_sseq, z_sset, z_sret, z_sif, z_snx, z_sbk, z_sct, z_sdrop, z_sasg, z_spar, z_sown, z_sfor, z_mop2, z_mc, z_mvar, z_MM_opt, z_MM_map, z_mcons, z_mnil, z_pnil, z_pcim, z_pcow, z_acim, z_acsl, z_anil, z_mif, z_mandB, z_morB, z_mnotB, z_mandV, z_morV, z_mnotV, z_mmeth, z_fmeth, z_fop2, z_mdr, z_mdrNe, z_mdrLen, z_mdrPop, z_sdr, z_mappend, z_mextend, z_mpopAt, z_mlenO, z_mnilO, z_msl, z_mcall, z_saug, z_mmethL, z_sdraws, z_mtrue, slots_nil, slots_im, slots_sl, argsE, updE, List.nodup_nil, List.nodup_cons, List.not_mem_nil, List.mem_singleton, not_false_eq_true, and_self, and_true, List.nil_append, List.append_nil, List.cons_append, mtg, Zf.setL, setsE, few, blD_b, truD_b, truD_i, truD_l, truD_t, intL_i, intL_b, seqD_l, seqD_t, seqD_s, seqD_c, negD_i, DS.at, DS.put, DS.row, addD_i, subD_i, eqD_i, neD_i, ltD_i, leD_i, gtD_i, geD_i, eqD_s, neD_s, out_l, out_d, okS_s, okW_nil, okW_cons, okM_no, okM_im, okM_mf, okM_mt, okN_no, okN_im, okN_mu, wipeE, List.all_cons, List.all_nil, Bool.and_true, Bool.true_and, Bool.and_self, decide_true, decide_false, reduceIte, if_true, if_false, List.length_cons, List.length_nil, List.getElem?_cons_zero, List.getElem?_cons_succ, List.set_cons_zero, List.set_cons_succ, List.map_cons, List.map_nil, Bool.false_eq_true, Option.some.injEq, Bool.not_true, Bool.not_false, Nat.reduceAdd, Nat.reduceLT, Nat.reduceLeDiff, z_mpop0, intD_i, hw2, stL_ml])]
    congr 2
    have := filt_ml nb (fun l => D.int (ind l : Nat)) (lines x)
    refine Eq.trans this ?_
    unfold inds
    rw [List.map_map]; rfl
  have c3 : mlc (.one 4) [4] (MM.opt (mvar 1) seqD) (mtrue) (e_levelled_4) [.im (.str z), .im (.lst (dl (lines x))), .im (.lst ((inds (lines x)).map .int)), .im (.int (lst (lines x) : Nat)), .no] = some (dl (lvl (lines x)), [.im (.str z), .im (.lst (dl (lines x))), .im (.lst ((inds (lines x)).map .int)), .im (.int (lst (lines x) : Nat)), .no]) := by
    rw [mlc_m (ds := dl (lines x)) (fun d => .str (ml ((stL d).drop (lst (lines x))))) (by simp only [z_sseq, z_sset, z_sret, z_sif, z_snx, z_sbk, z_sct, z_sdrop, z_sasg, z_spar, z_sown, z_sfor, z_mop2, z_mc, z_mvar, z_MM_opt, z_MM_map, z_mcons, z_mnil, z_pnil, z_pcim, z_pcow, z_acim, z_acsl, z_anil, z_mif, z_mandB, z_morB, z_mnotB, z_mandV, z_morV, z_mnotV, z_mmeth, z_fmeth, z_fop2, z_mdr, z_mdrNe, z_mdrLen, z_mdrPop, z_sdr, z_mappend, z_mextend, z_mpopAt, z_mlenO, z_mnilO, z_msl, z_mcall, z_saug, z_mmethL, z_sdraws, z_mtrue, slots_nil, slots_im, slots_sl, argsE, updE, List.nodup_nil, List.nodup_cons, List.not_mem_nil, List.mem_singleton, not_false_eq_true, and_self, and_true, List.nil_append, List.append_nil, List.cons_append, mtg, Zf.setL, setsE, few, blD_b, truD_b, truD_i, truD_l, truD_t, intL_i, intL_b, seqD_l, seqD_t, seqD_s, seqD_c, negD_i, DS.at, DS.put, DS.row, addD_i, subD_i, eqD_i, neD_i, ltD_i, leD_i, gtD_i, geD_i, eqD_s, neD_s, out_l, out_d, okS_s, okW_nil, okW_cons, okM_no, okM_im, okM_mf, okM_mt, okN_no, okN_im, okN_mu, wipeE, List.all_cons, List.all_nil, Bool.and_true, Bool.true_and, Bool.and_self, decide_true, decide_false, reduceIte, if_true, if_false, List.length_cons, List.length_nil, List.getElem?_cons_zero, List.getElem?_cons_succ, List.set_cons_zero, List.set_cons_succ, List.map_cons, List.map_nil, Bool.false_eq_true, Option.some.injEq, Bool.not_true, Bool.not_false, Nat.reduceAdd, Nat.reduceLT, Nat.reduceLeDiff, z_mpop0, intD_i, seqD]) (by unfold dl; rw [List.length_map]; omega) rfl (drop_ok (lines x) 4 3 _ _ (by decide) rfl rfl hline), map_dl]
    rfl
  have c4 := leastM_ok 2 (inds (lines x)) [.im (.str z), .im (.lst (dl (lines x))), .im (.lst ((inds (lines x)).map .int)), .no, .no] rfl
  rw [inds_lst] at c4
  unfold leastM at c4
  have c5 := join_nl (lvl (lines x)) (by
    have := lvl_sum (lines x)
    have : (lvl (lines x)).length = (lines x).length := by unfold lvl; simp
    omega)
  have body : m_levelled [.im (.str z), .no, .no, .no, .no] = some (.rt (.str (ml (lv x))) [.im (.str z), .im (.lst (dl (lines x))), .im (.lst ((inds (lines x)).map .int)), .im (.int (lst (lines x) : Nat)), .no]) := by
    unfold m_levelled
    refine sseq_nx (e1 := [.im (.str z), .im (.lst (dl (lines x))), .no, .no, .no]) (by simp only [z_sseq, z_sset, z_sret, z_sif, z_snx, z_sbk, z_sct, z_sdrop, z_sasg, z_spar, z_sown, z_sfor, z_mop2, z_mc, z_mvar, z_MM_opt, z_MM_map, z_mcons, z_mnil, z_pnil, z_pcim, z_pcow, z_acim, z_acsl, z_anil, z_mif, z_mandB, z_morB, z_mnotB, z_mandV, z_morV, z_mnotV, z_mmeth, z_fmeth, z_fop2, z_mdr, z_mdrNe, z_mdrLen, z_mdrPop, z_sdr, z_mappend, z_mextend, z_mpopAt, z_mlenO, z_mnilO, z_msl, z_mcall, z_saug, z_mmethL, z_sdraws, z_mtrue, slots_nil, slots_im, slots_sl, argsE, updE, List.nodup_nil, List.nodup_cons, List.not_mem_nil, List.mem_singleton, not_false_eq_true, and_self, and_true, List.nil_append, List.append_nil, List.cons_append, mtg, Zf.setL, setsE, few, blD_b, truD_b, truD_i, truD_l, truD_t, intL_i, intL_b, seqD_l, seqD_t, seqD_s, seqD_c, negD_i, DS.at, DS.put, DS.row, addD_i, subD_i, eqD_i, neD_i, ltD_i, leD_i, gtD_i, geD_i, eqD_s, neD_s, out_l, out_d, okS_s, okW_nil, okW_cons, okM_no, okM_im, okM_mf, okM_mt, okN_no, okN_im, okN_mu, wipeE, List.all_cons, List.all_nil, Bool.and_true, Bool.true_and, Bool.and_self, decide_true, decide_false, reduceIte, if_true, if_false, List.length_cons, List.length_nil, List.getElem?_cons_zero, List.getElem?_cons_succ, List.set_cons_zero, List.set_cons_succ, List.map_cons, List.map_nil, Bool.false_eq_true, Option.some.injEq, Bool.not_true, Bool.not_false, Nat.reduceAdd, Nat.reduceLT, Nat.reduceLeDiff, z_mpop0, intD_i, c1]) (sseq_nx (e1 := [.im (.str z), .im (.lst (dl (lines x))), .im (.lst ((inds (lines x)).map .int)), .no, .no]) (by simp only [z_sseq, z_sset, z_sret, z_sif, z_snx, z_sbk, z_sct, z_sdrop, z_sasg, z_spar, z_sown, z_sfor, z_mop2, z_mc, z_mvar, z_MM_opt, z_MM_map, z_mcons, z_mnil, z_pnil, z_pcim, z_pcow, z_acim, z_acsl, z_anil, z_mif, z_mandB, z_morB, z_mnotB, z_mandV, z_morV, z_mnotV, z_mmeth, z_fmeth, z_fop2, z_mdr, z_mdrNe, z_mdrLen, z_mdrPop, z_sdr, z_mappend, z_mextend, z_mpopAt, z_mlenO, z_mnilO, z_msl, z_mcall, z_saug, z_mmethL, z_sdraws, z_mtrue, slots_nil, slots_im, slots_sl, argsE, updE, List.nodup_nil, List.nodup_cons, List.not_mem_nil, List.mem_singleton, not_false_eq_true, and_self, and_true, List.nil_append, List.append_nil, List.cons_append, mtg, Zf.setL, setsE, few, blD_b, truD_b, truD_i, truD_l, truD_t, intL_i, intL_b, seqD_l, seqD_t, seqD_s, seqD_c, negD_i, DS.at, DS.put, DS.row, addD_i, subD_i, eqD_i, neD_i, ltD_i, leD_i, gtD_i, geD_i, eqD_s, neD_s, out_l, out_d, okS_s, okW_nil, okW_cons, okM_no, okM_im, okM_mf, okM_mt, okN_no, okN_im, okN_mu, wipeE, List.all_cons, List.all_nil, Bool.and_true, Bool.true_and, Bool.and_self, decide_true, decide_false, reduceIte, if_true, if_false, List.length_cons, List.length_nil, List.getElem?_cons_zero, List.getElem?_cons_succ, List.set_cons_zero, List.set_cons_succ, List.map_cons, List.map_nil, Bool.false_eq_true, Option.some.injEq, Bool.not_true, Bool.not_false, Nat.reduceAdd, Nat.reduceLT, Nat.reduceLeDiff, z_mpop0, intD_i, c2]) (sseq_nx (e1 := [.im (.str z), .im (.lst (dl (lines x))), .im (.lst ((inds (lines x)).map .int)), .im (.int (lst (lines x) : Nat)), .no]) ?_ ?_))
    · rw [z_sset, c4]; simp only [z_sseq, z_sset, z_sret, z_sif, z_snx, z_sbk, z_sct, z_sdrop, z_sasg, z_spar, z_sown, z_sfor, z_mop2, z_mc, z_mvar, z_MM_opt, z_MM_map, z_mcons, z_mnil, z_pnil, z_pcim, z_pcow, z_acim, z_acsl, z_anil, z_mif, z_mandB, z_morB, z_mnotB, z_mandV, z_morV, z_mnotV, z_mmeth, z_fmeth, z_fop2, z_mdr, z_mdrNe, z_mdrLen, z_mdrPop, z_sdr, z_mappend, z_mextend, z_mpopAt, z_mlenO, z_mnilO, z_msl, z_mcall, z_saug, z_mmethL, z_sdraws, z_mtrue, slots_nil, slots_im, slots_sl, argsE, updE, List.nodup_nil, List.nodup_cons, List.not_mem_nil, List.mem_singleton, not_false_eq_true, and_self, and_true, List.nil_append, List.append_nil, List.cons_append, mtg, Zf.setL, setsE, few, blD_b, truD_b, truD_i, truD_l, truD_t, intL_i, intL_b, seqD_l, seqD_t, seqD_s, seqD_c, negD_i, DS.at, DS.put, DS.row, addD_i, subD_i, eqD_i, neD_i, ltD_i, leD_i, gtD_i, geD_i, eqD_s, neD_s, out_l, out_d, okS_s, okW_nil, okW_cons, okM_no, okM_im, okM_mf, okM_mt, okN_no, okN_im, okN_mu, wipeE, List.all_cons, List.all_nil, Bool.and_true, Bool.true_and, Bool.and_self, decide_true, decide_false, reduceIte, if_true, if_false, List.length_cons, List.length_nil, List.getElem?_cons_zero, List.getElem?_cons_succ, List.set_cons_zero, List.set_cons_succ, List.map_cons, List.map_nil, Bool.false_eq_true, Option.some.injEq, Bool.not_true, Bool.not_false, Nat.reduceAdd, Nat.reduceLT, Nat.reduceLeDiff, z_mpop0, intD_i]
    · simp only [z_sseq, z_sset, z_sret, z_sif, z_snx, z_sbk, z_sct, z_sdrop, z_sasg, z_spar, z_sown, z_sfor, z_mop2, z_mc, z_mvar, z_MM_opt, z_MM_map, z_mcons, z_mnil, z_pnil, z_pcim, z_pcow, z_acim, z_acsl, z_anil, z_mif, z_mandB, z_morB, z_mnotB, z_mandV, z_morV, z_mnotV, z_mmeth, z_fmeth, z_fop2, z_mdr, z_mdrNe, z_mdrLen, z_mdrPop, z_sdr, z_mappend, z_mextend, z_mpopAt, z_mlenO, z_mnilO, z_msl, z_mcall, z_saug, z_mmethL, z_sdraws, z_mtrue, slots_nil, slots_im, slots_sl, argsE, updE, List.nodup_nil, List.nodup_cons, List.not_mem_nil, List.mem_singleton, not_false_eq_true, and_self, and_true, List.nil_append, List.append_nil, List.cons_append, mtg, Zf.setL, setsE, few, blD_b, truD_b, truD_i, truD_l, truD_t, intL_i, intL_b, seqD_l, seqD_t, seqD_s, seqD_c, negD_i, DS.at, DS.put, DS.row, addD_i, subD_i, eqD_i, neD_i, ltD_i, leD_i, gtD_i, geD_i, eqD_s, neD_s, out_l, out_d, okS_s, okW_nil, okW_cons, okM_no, okM_im, okM_mf, okM_mt, okN_no, okN_im, okN_mu, wipeE, List.all_cons, List.all_nil, Bool.and_true, Bool.true_and, Bool.and_self, decide_true, decide_false, reduceIte, if_true, if_false, List.length_cons, List.length_nil, List.getElem?_cons_zero, List.getElem?_cons_succ, List.set_cons_zero, List.set_cons_succ, List.map_cons, List.map_nil, Bool.false_eq_true, Option.some.injEq, Bool.not_true, Bool.not_false, Nat.reduceAdd, Nat.reduceLT, Nat.reduceLeDiff, z_mpop0, intD_i, c3, c5]; rfl
  exact fnM_rt (n := 5) (args := [.im (.str z)]) (m := m_levelled) body
end Zz

set_option Elab.async false
set_option linter.all false
set_option maxRecDepth 100000
set_option maxHeartbeats 1000000
/-! texts.py: prompts, directives that are not there, bare sources, error texts -/
namespace Zz
open PySem PySem.Spec L2 Zf
def is32 (c : Nat) : Bool := decide (c = 32)
def isB (c : Nat) : Bool := decide (c = 32) || decide (c = 9)
def st32 (l : List Nat) : List Nat := l.dropWhile is32
def isP (l : List Nat) : Bool := decide ((st32 l).take 3 = [62, 62, 62])
def isM (l : List Nat) : Bool := decide ((st32 l).take 3 = [46, 46, 46])
theorem dw_len (g : Nat → Bool) (l : List Nat) : (l.dropWhile g).length ≤ l.length := by rw [← drop_tw, List.length_drop]; omega
theorem dw_sub (g : Nat → Bool) (l : List Nat) : ∀ c ∈ l.dropWhile g, c ∈ l := fun c h => by rw [← drop_tw] at h; exact List.mem_of_mem_drop h
theorem trimR_sub (g : Nat → Bool) (l : List Nat) : ∀ c ∈ trimR g l, c ∈ l := fun c h => by
  unfold trimR at h
  rw [List.mem_reverse] at h
  exact List.mem_reverse.mp (dw_sub g _ c h)
theorem trimR_len (g : Nat → Bool) (l : List Nat) : (trimR g l).length ≤ l.length := by
  unfold trimR
  have := dw_len g l.reverse
  rw [List.length_reverse] at this ⊢
  exact this
theorem con32 : (" " : Str).cps.contains = is32 := by
  funext c
  rw [show (" " : Str).cps = #[32] by decide]
  simp [is32]
theorem conB : (" \t" : Str).cps.contains = isB := by
  funext c
  rw [show (" \t" : Str).cps = #[32, 9] by decide]
  simp [isB]
theorem ls32 (l : List Nat) (h : l.length ≤ 1000000) : stripM Txt.lstripChars (ml l) [.str (" " : Str)] = some (.str (ml (st32 l))) := by
  simp only [stripM]
  rw [if_pos (by rw [ml_len]; exact h)]
  congr 2
  refine str_ext ?_
  unfold Txt.lstripChars
  rw [ls_strip, con32]; rfl
theorem lsB (l : List Nat) (h : l.length ≤ 1000000) : stripM Txt.lstripChars (ml l) [.str (" \t" : Str)] = some (.str (ml (l.dropWhile isB))) := by
  simp only [stripM]
  rw [if_pos (by rw [ml_len]; exact h)]
  congr 2
  refine str_ext ?_
  unfold Txt.lstripChars
  rw [ls_strip, conB]; rfl
theorem rsB (l : List Nat) (h : l.length ≤ 1000000) : stripM Txt.rstripChars (ml l) [.str (" \t" : Str)] = some (.str (ml (trimR isB l))) := by
  simp only [stripM]
  rw [if_pos (by rw [ml_len]; exact h)]
  congr 2
  refine str_ext ?_
  unfold Txt.rstripChars
  rw [ls_strip, conB]; rfl
theorem rs32 (l : List Nat) (h : l.length ≤ 1000000) : stripM Txt.rstripChars (ml l) [.str (" " : Str)] = some (.str (ml (trimR is32 l))) := by
  simp only [stripM]
  rw [if_pos (by rw [ml_len]; exact h)]
  congr 2
  refine str_ext ?_
  unfold Txt.rstripChars
  rw [ls_strip, con32]; rfl
theorem startsD (l y : List Nat) : startsM (ml l) [.str (ml y)] = some (.bl (decide (l.take y.length = y))) := by
  simp only [startsM, starts_ml]
theorem gt3_ml : (">>>" : Str) = ml [62, 62, 62] := by decide
theorem dot3_ml : ("..." : Str) = ml [46, 46, 46] := by decide
theorem prompt_ok (l : List Nat) (h : l.length ≤ 1000000) : F_is_prompt [.im (.str (ml l))] = some (.bl (isP l), [.im (.str (ml l))]) := by
  have e1 := ls32 l h
  have e2 := startsD (st32 l) [62, 62, 62]
  rw [← gt3_ml] at e2
  have body : m_is_prompt [.im (.str (ml l))] = some (.rt (.bl (isP l)) [.im (.str (ml l))]) := by
    unfold m_is_prompt
    simp only [z_sseq, z_sset, z_sret, z_sif, z_snx, z_sbk, z_sct, z_sdrop, z_sasg, z_spar, z_sown, z_sfor, z_mop2, z_mc, z_mvar, z_MM_opt, z_MM_map, z_mcons, z_mnil, z_pnil, z_pcim, z_pcow, z_acim, z_acsl, z_anil, z_mif, z_mandB, z_morB, z_mnotB, z_mandV, z_morV, z_mnotV, z_mmeth, z_fmeth, z_fop2, z_mdr, z_mdrNe, z_mdrLen, z_mdrPop, z_sdr, z_mappend, z_mextend, z_mpopAt, z_mlenO, z_mnilO, z_msl, z_mcall, z_saug, z_mmethL, z_sdraws, z_mtrue, slots_nil, slots_im, slots_sl, argsE, updE, List.nodup_nil, List.nodup_cons, List.not_mem_nil, List.mem_singleton, not_false_eq_true, and_self, and_true, List.nil_append, List.append_nil, List.cons_append, mtg, Zf.setL, setsE, few, blD_b, truD_b, truD_i, truD_l, truD_t, intL_i, intL_b, seqD_l, seqD_t, seqD_s, seqD_c, negD_i, DS.at, DS.put, DS.row, addD_i, subD_i, eqD_i, neD_i, ltD_i, leD_i, gtD_i, geD_i, eqD_s, neD_s, out_l, out_d, okS_s, okW_nil, okW_cons, okM_no, okM_im, okM_mf, okM_mt, okN_no, okN_im, okN_mu, wipeE, List.all_cons, List.all_nil, Bool.and_true, Bool.true_and, Bool.and_self, decide_true, decide_false, reduceIte, if_true, if_false, List.length_cons, List.length_nil, List.getElem?_cons_zero, List.getElem?_cons_succ, List.set_cons_zero, List.set_cons_succ, List.map_cons, List.map_nil, Bool.false_eq_true, Option.some.injEq, Bool.not_true, Bool.not_false, Nat.reduceAdd, Nat.reduceLT, Nat.reduceLeDiff, z_mpop0, intD_i, e1, e2]
    rfl
  exact fnM_rt (n := 1) (args := [.im (.str (ml l))]) (m := m_is_prompt) body
/-! lines without # -/
theorem enum_get {xs : List D} {i : Nat} {x : D} : ∀ {k : Nat}, (enumD k xs)[i]? = some x → ∃ d, xs[i]? = some d ∧ x = .tup [.int ((k + i : Nat) : Int), d] := by
  induction xs generalizing i with
  | nil => intro k h; cases h
  | cons y ys ih =>
    intro k h
    cases i with
    | zero => cases h; exact ⟨y, rfl, rfl⟩
    | succ i =>
      obtain ⟨d, h1, h2⟩ := ih (k := k + 1) h
      refine ⟨d, h1, ?_⟩
      rw [h2, show k + 1 + i = k + (i + 1) by omega]
theorem sl_from (l : List Nat) (k : Nat) (h : l.length ≤ 100000) : slD (.str (ml l)) (some (k : Int)) none = some (.str (ml (l.drop k))) := by
  have : (ml l).length ≤ 100000 := by rw [ml_len]; exact h
  simp only [slD, if_pos this, cutS_from]
theorem sl_to (l : List Nat) (k : Nat) (h : l.length ≤ 100000) : slD (.str (ml l)) none (some (k : Int)) = some (.str (ml (l.take k))) := by
  have : (ml l).length ≤ 100000 := by rw [ml_len]; exact h
  simp only [slD, if_pos this, cutS_to]
theorem sl_ab (l : List Nat) (a b : Nat) (h : l.length ≤ 100000) (hab : a ≤ b) : slD (.str (ml l)) (some (a : Int)) (some (b : Int)) = some (.str (ml ((l.drop a).take (b - a)))) := by
  have : (ml l).length ≤ 100000 := by rw [ml_len]; exact h
  simp only [slD, if_pos this, cutS_ab l a b hab]
theorem hash_eq {c : Nat} : decide ((⟨#[c]⟩ : Str) = ("#" : Str)) = decide (c = 35) := decide_eq_decide.mpr ⟨fun h => by
  have h2 : (⟨#[c]⟩ : Str).cps.toList = ("#" : Str).cps.toList := h ▸ rfl
  have h3 : [c] = [35] := h2
  simpa using h3, fun h => h ▸ rfl⟩
def DP : List Nat := [100, 111, 99, 116, 101, 115, 116, 58]
theorem dp_ml : ("doctest:" : Str) = ml DP := by decide
/-- a line without a directive -/
def ND (l : List Nat) : Prop := ∀ i, l[i]? = some 35 → ((l.drop (i + 1)).dropWhile isB).take 8 ≠ DP
def NDb (l : List Nat) : Bool := (List.range l.length).all fun i => !decide (l[i]? = some 35) || !decide (((l.drop (i + 1)).dropWhile isB).take 8 = DP)
theorem nd_of {l : List Nat} (h : NDb l = true) : ND l := fun i hi e => by
  have hlt := (List.getElem?_eq_some_iff.mp hi).1
  have := List.all_eq_true.mp h i (List.mem_range.mpr hlt)
  rw [decide_eq_true hi, decide_eq_true e] at this
  cases this
theorem nd_no {l : List Nat} (h : 35 ∉ l) : ND l := fun i hi => absurd (List.mem_of_getElem? hi) h
theorem dirplace_no (l : List Nat) (hl : l.length ≤ 90000) (hn : ND l) : F_directive_place [.im (.str (ml l))] = some (.int (-1), [.im (.str (ml l))]) := by
  obtain ⟨e', h1, t1, t2, t3, h2, h3, h4, rfl⟩ := forL_inv (t := .tup [1, 2]) (mb := b_directive_place_1) (fun k e => ∃ t1 t2 t3, okM t1 = true ∧ okM t2 = true ∧ okM t3 = true ∧ e = [.im (.str (ml l)), t1, t2, t3]) (enumD 0 (signsD (ml l))) 0 [.im (.str (ml l)), .no, .no, .no] ⟨_, _, _, rfl, rfl, rfl, rfl⟩ (by
    intro i x e hi hp
    obtain ⟨t1, t2, t3, h2, h3, h4, rfl⟩ := hp
    obtain ⟨d, hd, rfl⟩ := enum_get hi
    obtain ⟨c, hc, rfl, hil⟩ := signs_at hd
    rw [ls_ml] at hc
    have e1 := sl_from l (i + 1) (by omega)
    have e1 : slD (.str (ml l)) (some (((0 + i : Nat) : Int) + 1)) none = some (.str (ml (l.drop (i + 1)))) := by rw [Nat.zero_add]; exact e1
    have e2 := lsB (l.drop (i + 1)) (by rw [List.length_drop]; omega)
    have e3 := hash_eq (c := c)
    have e5 := startsD ((l.drop (i + 1)).dropWhile isB) DP
    rw [← dp_ml] at e5
    refine ⟨_, [.im (.str (ml l)), .im (.int ((0 + i : Nat) : Int)), .im (.str ⟨#[c]⟩), .im (.str (ml ((l.drop (i + 1)).dropWhile isB)))], (by simp only [z_sseq, z_sset, z_sret, z_sif, z_snx, z_sbk, z_sct, z_sdrop, z_sasg, z_spar, z_sown, z_sfor, z_mop2, z_mc, z_mvar, z_MM_opt, z_MM_map, z_mcons, z_mnil, z_pnil, z_pcim, z_pcow, z_acim, z_acsl, z_anil, z_mif, z_mandB, z_morB, z_mnotB, z_mandV, z_morV, z_mnotV, z_mmeth, z_fmeth, z_fop2, z_mdr, z_mdrNe, z_mdrLen, z_mdrPop, z_sdr, z_mappend, z_mextend, z_mpopAt, z_mlenO, z_mnilO, z_msl, z_mcall, z_saug, z_mmethL, z_sdraws, z_mtrue, slots_nil, slots_im, slots_sl, argsE, updE, List.nodup_nil, List.nodup_cons, List.not_mem_nil, List.mem_singleton, not_false_eq_true, and_self, and_true, List.nil_append, List.append_nil, List.cons_append, mtg, Zf.setL, setsE, few, blD_b, truD_b, truD_i, truD_l, truD_t, intL_i, intL_b, seqD_l, seqD_t, seqD_s, seqD_c, negD_i, DS.at, DS.put, DS.row, addD_i, subD_i, eqD_i, neD_i, ltD_i, leD_i, gtD_i, geD_i, eqD_s, neD_s, out_l, out_d, okS_s, okW_nil, okW_cons, okM_no, okM_im, okM_mf, okM_mt, okN_no, okN_im, okN_mu, wipeE, List.all_cons, List.all_nil, Bool.and_true, Bool.true_and, Bool.and_self, decide_true, decide_false, reduceIte, if_true, if_false, List.length_cons, List.length_nil, List.getElem?_cons_zero, List.getElem?_cons_succ, List.set_cons_zero, List.set_cons_succ, List.map_cons, List.map_nil, Bool.false_eq_true, Option.some.injEq, Bool.not_true, Bool.not_false, Nat.reduceAdd, Nat.reduceLT, Nat.reduceLeDiff, z_mpop0, intD_i, h2, h3] <;> rfl), .inl ?_, _, _, _, okM_im, okM_im, okM_im, rfl⟩
    by_cases q : c = 35
    · rw [decide_eq_true q] at e3
      rw [decide_eq_false (show ¬ List.take DP.length ((l.drop (i + 1)).dropWhile isB) = DP from hn i (q ▸ hc))] at e5
      unfold b_directive_place_1
      simp only [z_sseq, z_sset, z_sret, z_sif, z_snx, z_sbk, z_sct, z_sdrop, z_sasg, z_spar, z_sown, z_sfor, z_mop2, z_mc, z_mvar, z_MM_opt, z_MM_map, z_mcons, z_mnil, z_pnil, z_pcim, z_pcow, z_acim, z_acsl, z_anil, z_mif, z_mandB, z_morB, z_mnotB, z_mandV, z_morV, z_mnotV, z_mmeth, z_fmeth, z_fop2, z_mdr, z_mdrNe, z_mdrLen, z_mdrPop, z_sdr, z_mappend, z_mextend, z_mpopAt, z_mlenO, z_mnilO, z_msl, z_mcall, z_saug, z_mmethL, z_sdraws, z_mtrue, slots_nil, slots_im, slots_sl, argsE, updE, List.nodup_nil, List.nodup_cons, List.not_mem_nil, List.mem_singleton, not_false_eq_true, and_self, and_true, List.nil_append, List.append_nil, List.cons_append, mtg, Zf.setL, setsE, few, blD_b, truD_b, truD_i, truD_l, truD_t, intL_i, intL_b, seqD_l, seqD_t, seqD_s, seqD_c, negD_i, DS.at, DS.put, DS.row, addD_i, subD_i, eqD_i, neD_i, ltD_i, leD_i, gtD_i, geD_i, eqD_s, neD_s, out_l, out_d, okS_s, okW_nil, okW_cons, okM_no, okM_im, okM_mf, okM_mt, okN_no, okN_im, okN_mu, wipeE, List.all_cons, List.all_nil, Bool.and_true, Bool.true_and, Bool.and_self, decide_true, decide_false, reduceIte, if_true, if_false, List.length_cons, List.length_nil, List.getElem?_cons_zero, List.getElem?_cons_succ, List.set_cons_zero, List.set_cons_succ, List.map_cons, List.map_nil, Bool.false_eq_true, Option.some.injEq, Bool.not_true, Bool.not_false, Nat.reduceAdd, Nat.reduceLT, Nat.reduceLeDiff, z_mpop0, intD_i, e1, e2, e3, e5, h4]
    · rw [decide_eq_false q] at e3
      unfold b_directive_place_1
      simp only [z_sseq, z_sset, z_sret, z_sif, z_snx, z_sbk, z_sct, z_sdrop, z_sasg, z_spar, z_sown, z_sfor, z_mop2, z_mc, z_mvar, z_MM_opt, z_MM_map, z_mcons, z_mnil, z_pnil, z_pcim, z_pcow, z_acim, z_acsl, z_anil, z_mif, z_mandB, z_morB, z_mnotB, z_mandV, z_morV, z_mnotV, z_mmeth, z_fmeth, z_fop2, z_mdr, z_mdrNe, z_mdrLen, z_mdrPop, z_sdr, z_mappend, z_mextend, z_mpopAt, z_mlenO, z_mnilO, z_msl, z_mcall, z_saug, z_mmethL, z_sdraws, z_mtrue, slots_nil, slots_im, slots_sl, argsE, updE, List.nodup_nil, List.nodup_cons, List.not_mem_nil, List.mem_singleton, not_false_eq_true, and_self, and_true, List.nil_append, List.append_nil, List.cons_append, mtg, Zf.setL, setsE, few, blD_b, truD_b, truD_i, truD_l, truD_t, intL_i, intL_b, seqD_l, seqD_t, seqD_s, seqD_c, negD_i, DS.at, DS.put, DS.row, addD_i, subD_i, eqD_i, neD_i, ltD_i, leD_i, gtD_i, geD_i, eqD_s, neD_s, out_l, out_d, okS_s, okW_nil, okW_cons, okM_no, okM_im, okM_mf, okM_mt, okN_no, okN_im, okN_mu, wipeE, List.all_cons, List.all_nil, Bool.and_true, Bool.true_and, Bool.and_self, decide_true, decide_false, reduceIte, if_true, if_false, List.length_cons, List.length_nil, List.getElem?_cons_zero, List.getElem?_cons_succ, List.set_cons_zero, List.set_cons_succ, List.map_cons, List.map_nil, Bool.false_eq_true, Option.some.injEq, Bool.not_true, Bool.not_false, Nat.reduceAdd, Nat.reduceLT, Nat.reduceLeDiff, z_mpop0, intD_i, e1, e2, e3, h4])
  have body : m_directive_place [.im (.str (ml l)), .no, .no, .no] = some (.rt (.int (-1)) [.im (.str (ml l)), t1, t2, t3]) := by
    unfold m_directive_place
    have q0 : strE [.str (ml l)] = some (enumD 0 (signsD (ml l))) := rfl
    simp only [z_sseq, z_sset, z_sret, z_sif, z_snx, z_sbk, z_sct, z_sdrop, z_sasg, z_spar, z_sown, z_sfor, z_mop2, z_mc, z_mvar, z_MM_opt, z_MM_map, z_mcons, z_mnil, z_pnil, z_pcim, z_pcow, z_acim, z_acsl, z_anil, z_mif, z_mandB, z_morB, z_mnotB, z_mandV, z_morV, z_mnotV, z_mmeth, z_fmeth, z_fop2, z_mdr, z_mdrNe, z_mdrLen, z_mdrPop, z_sdr, z_mappend, z_mextend, z_mpopAt, z_mlenO, z_mnilO, z_msl, z_mcall, z_saug, z_mmethL, z_sdraws, z_mtrue, slots_nil, slots_im, slots_sl, argsE, updE, List.nodup_nil, List.nodup_cons, List.not_mem_nil, List.mem_singleton, not_false_eq_true, and_self, and_true, List.nil_append, List.append_nil, List.cons_append, mtg, Zf.setL, setsE, few, blD_b, truD_b, truD_i, truD_l, truD_t, intL_i, intL_b, seqD_l, seqD_t, seqD_s, seqD_c, negD_i, DS.at, DS.put, DS.row, addD_i, subD_i, eqD_i, neD_i, ltD_i, leD_i, gtD_i, geD_i, eqD_s, neD_s, out_l, out_d, okS_s, okW_nil, okW_cons, okM_no, okM_im, okM_mf, okM_mt, okN_no, okN_im, okN_mu, wipeE, List.all_cons, List.all_nil, Bool.and_true, Bool.true_and, Bool.and_self, decide_true, decide_false, reduceIte, if_true, if_false, List.length_cons, List.length_nil, List.getElem?_cons_zero, List.getElem?_cons_succ, List.set_cons_zero, List.set_cons_succ, List.map_cons, List.map_nil, Bool.false_eq_true, Option.some.injEq, Bool.not_true, Bool.not_false, Nat.reduceAdd, Nat.reduceLT, Nat.reduceLeDiff, z_mpop0, intD_i, q0, h1]
  exact fnM_rt (n := 4) (args := [.im (.str (ml l))]) (m := m_directive_place) body
end Zz

set_option Elab.async false
set_option linter.all false
set_option maxRecDepth 100000
set_option maxHeartbeats 1000000
/-! texts.py: sources without directives, error texts -/
namespace Zz
open PySem PySem.Spec L2 Zf
theorem dl_len (ls : List (List Nat)) : (dl ls).length = ls.length := by unfold dl; rw [List.length_map]
theorem dl_app (a b : List (List Nat)) : dl (a ++ b) = dl a ++ dl b := by unfold dl; rw [List.map_append]
theorem nl_ml : ("\n" : Str) = ml [10] := by decide
theorem split_l (l : List Nat) (h : l.length ≤ 1000000) : splitM (ml l) [.str ("\n" : Str)] = some (dl (sp 10 l)) := by
  rw [show ("\n" : Str) = ⟨#[10]⟩ by decide, splitM_one (by rw [ml_len]; exact h), ls_ml]; rfl
theorem join_l (ls : List (List Nat)) (h : (ls.map List.length).sum + ls.length ≤ 1000000) : joinM ("\n" : Str) [.lst (dl ls)] = some (.str (ml (jn [10] ls))) := join_nl ls h
theorem map_len_ml (ls : List (List Nat)) : (ls.map ((fun x : Str => x.length) ∘ ml)) = ls.map List.length := List.map_congr_left fun a _ => ml_len a
theorem map_ls_ml (ls : List (List Nat)) : (ls.map ((fun x : Str => x.cps.toList) ∘ ml)) = ls := (List.map_congr_left fun a _ => ls_ml a).trans (List.map_id' ls)
theorem join_0 (ls : List (List Nat)) (h : (ls.map List.length).sum ≤ 1000000) : joinM ("" : Str) [.lst (dl ls)] = some (.str (ml ls.flatten)) := by
  rw [dl_strs, joinM_lst]
  · rw [show ("" : Str).cps.toList = [] by decide, jn_nil, List.map_map, map_ls_ml]
  · rw [List.map_map, List.length_map, show ("" : Str).length = 0 from rfl, map_len_ml]
    omega
theorem mem_sum {l : List Nat} : ∀ {ls : List (List Nat)}, l ∈ ls → l.length ≤ (ls.map List.length).sum
  | q :: ls, h => by
    simp only [List.map_cons, List.sum_cons]
    rcases List.mem_cons.mp h with rfl | h
    · omega
    · have := mem_sum h; omega
theorem sp_sub (c : Nat) : ∀ (l p : List Nat) (d : Nat), p ∈ sp c l → d ∈ p → d ∈ l
  | [], p, d, h, hd => by rw [sp, List.mem_singleton] at h; subst h; cases hd
  | e :: l, p, d, h, hd => by
    unfold sp at h
    split at h
    · rcases List.mem_cons.mp h with rfl | h
      · cases hd
      · exact List.mem_cons_of_mem _ (sp_sub c l p d h hd)
    · split at h
      · rename_i p0 r q
        rcases List.mem_cons.mp h with rfl | h
        · rcases List.mem_cons.mp hd with rfl | hd
          · exact List.mem_cons_self
          · exact List.mem_cons_of_mem _ (sp_sub c l p0 d (q ▸ List.mem_cons_self) hd)
        · exact List.mem_cons_of_mem _ (sp_sub c l p d (q ▸ List.mem_cons_of_mem _ h) hd)
      · rename_i q
        exact absurd q (sp_ne c l)
theorem optwords_no (l : List Nat) (hl : l.length ≤ 80000) (hn : ∀ p ∈ sp 10 l, ND p) : F_option_words [.im (.str (ml l))] = some (.lst [], [.im (.str (ml l))]) := by
  have s0 := split_l l (by omega)
  have hsum := sp_sum 10 l
  obtain ⟨e', h1, t2, t3, h2, h3, rfl⟩ := forL_inv (t := .one 2) (mb := b_option_words_1) (fun k e => ∃ t2 t3, okM t2 = true ∧ okM t3 = true ∧ e = [.im (.str (ml l)), .mu false (.ml []), t2, t3, .no]) (dl (sp 10 l)) 0 [.im (.str (ml l)), .mu false (.ml []), .no, .no, .no] ⟨_, _, rfl, rfl, rfl⟩ (by
    intro i x e hi hp
    obtain ⟨t2, t3, h2, h3, rfl⟩ := hp
    obtain ⟨p, hp, rfl⟩ := List.mem_map.mp (List.mem_of_getElem? hi)
    have hpl := mem_sum hp
    have e1 := dirplace_no p (by omega) (hn p hp)
    have e2 : decide ((0 : Int) ≤ -1) = false := by decide
    refine ⟨_, _, (by simp only [z_sseq, z_sset, z_sret, z_sif, z_snx, z_sbk, z_sct, z_sdrop, z_sasg, z_spar, z_sown, z_sfor, z_mop2, z_mc, z_mvar, z_MM_opt, z_MM_map, z_mcons, z_mnil, z_pnil, z_pcim, z_pcow, z_acim, z_acsl, z_anil, z_mif, z_mandB, z_morB, z_mnotB, z_mandV, z_morV, z_mnotV, z_mmeth, z_fmeth, z_fop2, z_mdr, z_mdrNe, z_mdrLen, z_mdrPop, z_sdr, z_mappend, z_mextend, z_mpopAt, z_mlenO, z_mnilO, z_msl, z_mcall, z_saug, z_mmethL, z_sdraws, z_mtrue, slots_nil, slots_im, slots_sl, argsE, updE, List.nodup_nil, List.nodup_cons, List.not_mem_nil, List.mem_singleton, not_false_eq_true, and_self, and_true, List.nil_append, List.append_nil, List.cons_append, mtg, Zf.setL, setsE, few, blD_b, truD_b, truD_i, truD_l, truD_t, intL_i, intL_b, seqD_l, seqD_t, seqD_s, seqD_c, negD_i, DS.at, DS.put, DS.row, addD_i, subD_i, eqD_i, neD_i, ltD_i, leD_i, gtD_i, geD_i, eqD_s, neD_s, out_l, out_d, okS_s, okW_nil, okW_cons, okM_no, okM_im, okM_mf, okM_mt, okN_no, okN_im, okN_mu, wipeE, List.all_cons, List.all_nil, Bool.and_true, Bool.true_and, Bool.and_self, decide_true, decide_false, reduceIte, if_true, if_false, List.length_cons, List.length_nil, List.getElem?_cons_zero, List.getElem?_cons_succ, List.set_cons_zero, List.set_cons_succ, List.map_cons, List.map_nil, Bool.false_eq_true, Option.some.injEq, Bool.not_true, Bool.not_false, Nat.reduceAdd, Nat.reduceLT, Nat.reduceLeDiff, z_mpop0, intD_i, h2] <;> rfl), .inl (by unfold b_option_words_1; simp only [z_sseq, z_sset, z_sret, z_sif, z_snx, z_sbk, z_sct, z_sdrop, z_sasg, z_spar, z_sown, z_sfor, z_mop2, z_mc, z_mvar, z_MM_opt, z_MM_map, z_mcons, z_mnil, z_pnil, z_pcim, z_pcow, z_acim, z_acsl, z_anil, z_mif, z_mandB, z_morB, z_mnotB, z_mandV, z_morV, z_mnotV, z_mmeth, z_fmeth, z_fop2, z_mdr, z_mdrNe, z_mdrLen, z_mdrPop, z_sdr, z_mappend, z_mextend, z_mpopAt, z_mlenO, z_mnilO, z_msl, z_mcall, z_saug, z_mmethL, z_sdraws, z_mtrue, slots_nil, slots_im, slots_sl, argsE, updE, List.nodup_nil, List.nodup_cons, List.not_mem_nil, List.mem_singleton, not_false_eq_true, and_self, and_true, List.nil_append, List.append_nil, List.cons_append, mtg, Zf.setL, setsE, few, blD_b, truD_b, truD_i, truD_l, truD_t, intL_i, intL_b, seqD_l, seqD_t, seqD_s, seqD_c, negD_i, DS.at, DS.put, DS.row, addD_i, subD_i, eqD_i, neD_i, ltD_i, leD_i, gtD_i, geD_i, eqD_s, neD_s, out_l, out_d, okS_s, okW_nil, okW_cons, okM_no, okM_im, okM_mf, okM_mt, okN_no, okN_im, okN_mu, wipeE, List.all_cons, List.all_nil, Bool.and_true, Bool.true_and, Bool.and_self, decide_true, decide_false, reduceIte, if_true, if_false, List.length_cons, List.length_nil, List.getElem?_cons_zero, List.getElem?_cons_succ, List.set_cons_zero, List.set_cons_succ, List.map_cons, List.map_nil, Bool.false_eq_true, Option.some.injEq, Bool.not_true, Bool.not_false, Nat.reduceAdd, Nat.reduceLT, Nat.reduceLeDiff, z_mpop0, intD_i, e1, h3, e2] <;> rfl), _, _, okM_im, okM_im, rfl⟩)
  have body : m_option_words [.im (.str (ml l)), .no, .no, .no, .no] = some (.rt (.lst []) [.im (.str (ml l)), .im (.lst []), t2, t3, .no]) := by
    unfold m_option_words
    have hf : few [] = some [] := rfl
    simp only [z_sseq, z_sset, z_sret, z_sif, z_snx, z_sbk, z_sct, z_sdrop, z_sasg, z_spar, z_sown, z_sfor, z_mop2, z_mc, z_mvar, z_MM_opt, z_MM_map, z_mcons, z_mnil, z_pnil, z_pcim, z_pcow, z_acim, z_acsl, z_anil, z_mif, z_mandB, z_morB, z_mnotB, z_mandV, z_morV, z_mnotV, z_mmeth, z_fmeth, z_fop2, z_mdr, z_mdrNe, z_mdrLen, z_mdrPop, z_sdr, z_mappend, z_mextend, z_mpopAt, z_mlenO, z_mnilO, z_msl, z_mcall, z_saug, z_mmethL, z_sdraws, z_mtrue, slots_nil, slots_im, slots_sl, argsE, updE, List.nodup_nil, List.nodup_cons, List.not_mem_nil, List.mem_singleton, not_false_eq_true, and_self, and_true, List.nil_append, List.append_nil, List.cons_append, mtg, Zf.setL, setsE, few, blD_b, truD_b, truD_i, truD_l, truD_t, intL_i, intL_b, seqD_l, seqD_t, seqD_s, seqD_c, negD_i, DS.at, DS.put, DS.row, addD_i, subD_i, eqD_i, neD_i, ltD_i, leD_i, gtD_i, geD_i, eqD_s, neD_s, out_l, out_d, okS_s, okW_nil, okW_cons, okM_no, okM_im, okM_mf, okM_mt, okN_no, okN_im, okN_mu, wipeE, List.all_cons, List.all_nil, Bool.and_true, Bool.true_and, Bool.and_self, decide_true, decide_false, reduceIte, if_true, if_false, List.length_cons, List.length_nil, List.getElem?_cons_zero, List.getElem?_cons_succ, List.set_cons_zero, List.set_cons_succ, List.map_cons, List.map_nil, Bool.false_eq_true, Option.some.injEq, Bool.not_true, Bool.not_false, Nat.reduceAdd, Nat.reduceLT, Nat.reduceLeDiff, z_mpop0, intD_i, hf, s0, h1]
  exact fnM_rt (n := 5) (args := [.im (.str (ml l))]) (m := m_option_words) body
theorem options_no (l : List Nat) (d : D) (hl : l.length ≤ 80000) (hn : ∀ p ∈ sp 10 l, ND p) : F_options_of [.im (.str (ml l)), .im d] = some (.dct [], [.im (.str (ml l)), .im d]) := by
  have e1 := optwords_no l hl hn
  have body : m_options_of [.im (.str (ml l)), .im d, .no, .no] = some (.rt (.dct []) [.im (.str (ml l)), .im d, .im (.dct []), .no]) := by
    unfold m_options_of
    have q : forL (.one 3) b_options_of_1 [] [.im (.str (ml l)), .im d, .im (.dct []), .no] = some (.nx [.im (.str (ml l)), .im d, .im (.dct []), .no]) := rfl
    simp only [z_sseq, z_sset, z_sret, z_sif, z_snx, z_sbk, z_sct, z_sdrop, z_sasg, z_spar, z_sown, z_sfor, z_mop2, z_mc, z_mvar, z_MM_opt, z_MM_map, z_mcons, z_mnil, z_pnil, z_pcim, z_pcow, z_acim, z_acsl, z_anil, z_mif, z_mandB, z_morB, z_mnotB, z_mandV, z_morV, z_mnotV, z_mmeth, z_fmeth, z_fop2, z_mdr, z_mdrNe, z_mdrLen, z_mdrPop, z_sdr, z_mappend, z_mextend, z_mpopAt, z_mlenO, z_mnilO, z_msl, z_mcall, z_saug, z_mmethL, z_sdraws, z_mtrue, slots_nil, slots_im, slots_sl, argsE, updE, List.nodup_nil, List.nodup_cons, List.not_mem_nil, List.mem_singleton, not_false_eq_true, and_self, and_true, List.nil_append, List.append_nil, List.cons_append, mtg, Zf.setL, setsE, few, blD_b, truD_b, truD_i, truD_l, truD_t, intL_i, intL_b, seqD_l, seqD_t, seqD_s, seqD_c, negD_i, DS.at, DS.put, DS.row, addD_i, subD_i, eqD_i, neD_i, ltD_i, leD_i, gtD_i, geD_i, eqD_s, neD_s, out_l, out_d, okS_s, okW_nil, okW_cons, okM_no, okM_im, okM_mf, okM_mt, okN_no, okN_im, okN_mu, wipeE, List.all_cons, List.all_nil, Bool.and_true, Bool.true_and, Bool.and_self, decide_true, decide_false, reduceIte, if_true, if_false, List.length_cons, List.length_nil, List.getElem?_cons_zero, List.getElem?_cons_succ, List.set_cons_zero, List.set_cons_succ, List.map_cons, List.map_nil, Bool.false_eq_true, Option.some.injEq, Bool.not_true, Bool.not_false, Nat.reduceAdd, Nat.reduceLT, Nat.reduceLeDiff, z_mpop0, intD_i, e1, q]
  exact fnM_rt (n := 4) (args := [.im (.str (ml l)), .im d]) (m := m_options_of) body
/-- a bare source -/
def bare (l : List Nat) : List Nat := jn [10] ((sp 10 l).map (trimR isB))
theorem sum_map_le {f : List Nat → List Nat} (h : ∀ p, (f p).length ≤ p.length) : ∀ ls : List (List Nat), ((ls.map f).map List.length).sum ≤ (ls.map List.length).sum
  | [] => Nat.le_refl _
  | p :: ls => by
    have := sum_map_le h ls
    have := h p
    simp only [List.map_cons, List.sum_cons]
    omega
theorem bare_no (l : List Nat) (hl : l.length ≤ 80000) (hn : ∀ p ∈ sp 10 l, ND p) : F_bare_source [.im (.str (ml l))] = some (.str (ml (bare l)), [.im (.str (ml l))]) := by
  have s0 := split_l l (by omega)
  have hsum := sp_sum 10 l
  obtain ⟨e', h1, t2, t3, h2, h3, rfl⟩ := forL_inv (t := .one 2) (mb := b_bare_source_1) (fun k e => ∃ t2 t3, okM t2 = true ∧ okM t3 = true ∧ e = [.im (.str (ml l)), .mu false (.ml (dl (((sp 10 l).take k).map (trimR isB)))), t2, t3]) (dl (sp 10 l)) 0 [.im (.str (ml l)), .mu false (.ml []), .no, .no] ⟨_, _, rfl, rfl, rfl⟩ (by
    intro i x e hi hp
    obtain ⟨t2, t3, h2, h3, rfl⟩ := hp
    rw [Nat.zero_add]
    unfold dl at hi
    rw [List.getElem?_map] at hi
    obtain ⟨p, hp, rfl⟩ := Option.map_eq_some_iff.mp hi
    have hpm := List.mem_of_getElem? hp
    have hpl := mem_sum hpm
    have e1 := dirplace_no p (by omega) (hn p hpm)
    have e2 : decide ((-1 : Int) < 0) = true := by decide
    have e3 := rsB p (by omega)
    have e4 : (dl (((sp 10 l).take i).map (trimR isB))).length < 1000000 := by rw [dl_len, List.length_map, List.length_take]; omega
    have e5 : dl (((sp 10 l).take i).map (trimR isB)) ++ [.str (ml (trimR isB p))] = dl (((sp 10 l).take (i + 1)).map (trimR isB)) := by
      rw [List.take_add_one, hp, List.map_append, dl_app]
      rfl
    refine ⟨_, _, (by simp only [z_sseq, z_sset, z_sret, z_sif, z_snx, z_sbk, z_sct, z_sdrop, z_sasg, z_spar, z_sown, z_sfor, z_mop2, z_mc, z_mvar, z_MM_opt, z_MM_map, z_mcons, z_mnil, z_pnil, z_pcim, z_pcow, z_acim, z_acsl, z_anil, z_mif, z_mandB, z_morB, z_mnotB, z_mandV, z_morV, z_mnotV, z_mmeth, z_fmeth, z_fop2, z_mdr, z_mdrNe, z_mdrLen, z_mdrPop, z_sdr, z_mappend, z_mextend, z_mpopAt, z_mlenO, z_mnilO, z_msl, z_mcall, z_saug, z_mmethL, z_sdraws, z_mtrue, slots_nil, slots_im, slots_sl, argsE, updE, List.nodup_nil, List.nodup_cons, List.not_mem_nil, List.mem_singleton, not_false_eq_true, and_self, and_true, List.nil_append, List.append_nil, List.cons_append, mtg, Zf.setL, setsE, few, blD_b, truD_b, truD_i, truD_l, truD_t, intL_i, intL_b, seqD_l, seqD_t, seqD_s, seqD_c, negD_i, DS.at, DS.put, DS.row, addD_i, subD_i, eqD_i, neD_i, ltD_i, leD_i, gtD_i, geD_i, eqD_s, neD_s, out_l, out_d, okS_s, okW_nil, okW_cons, okM_no, okM_im, okM_mf, okM_mt, okN_no, okN_im, okN_mu, wipeE, List.all_cons, List.all_nil, Bool.and_true, Bool.true_and, Bool.and_self, decide_true, decide_false, reduceIte, if_true, if_false, List.length_cons, List.length_nil, List.getElem?_cons_zero, List.getElem?_cons_succ, List.set_cons_zero, List.set_cons_succ, List.map_cons, List.map_nil, Bool.false_eq_true, Option.some.injEq, Bool.not_true, Bool.not_false, Nat.reduceAdd, Nat.reduceLT, Nat.reduceLeDiff, z_mpop0, intD_i, h2] <;> rfl), .inl (by unfold b_bare_source_1; simp only [z_sseq, z_sset, z_sret, z_sif, z_snx, z_sbk, z_sct, z_sdrop, z_sasg, z_spar, z_sown, z_sfor, z_mop2, z_mc, z_mvar, z_MM_opt, z_MM_map, z_mcons, z_mnil, z_pnil, z_pcim, z_pcow, z_acim, z_acsl, z_anil, z_mif, z_mandB, z_morB, z_mnotB, z_mandV, z_morV, z_mnotV, z_mmeth, z_fmeth, z_fop2, z_mdr, z_mdrNe, z_mdrLen, z_mdrPop, z_sdr, z_mappend, z_mextend, z_mpopAt, z_mlenO, z_mnilO, z_msl, z_mcall, z_saug, z_mmethL, z_sdraws, z_mtrue, slots_nil, slots_im, slots_sl, argsE, updE, List.nodup_nil, List.nodup_cons, List.not_mem_nil, List.mem_singleton, not_false_eq_true, and_self, and_true, List.nil_append, List.append_nil, List.cons_append, mtg, Zf.setL, setsE, few, blD_b, truD_b, truD_i, truD_l, truD_t, intL_i, intL_b, seqD_l, seqD_t, seqD_s, seqD_c, negD_i, DS.at, DS.put, DS.row, addD_i, subD_i, eqD_i, neD_i, ltD_i, leD_i, gtD_i, geD_i, eqD_s, neD_s, out_l, out_d, okS_s, okW_nil, okW_cons, okM_no, okM_im, okM_mf, okM_mt, okN_no, okN_im, okN_mu, wipeE, List.all_cons, List.all_nil, Bool.and_true, Bool.true_and, Bool.and_self, decide_true, decide_false, reduceIte, if_true, if_false, List.length_cons, List.length_nil, List.getElem?_cons_zero, List.getElem?_cons_succ, List.set_cons_zero, List.set_cons_succ, List.map_cons, List.map_nil, Bool.false_eq_true, Option.some.injEq, Bool.not_true, Bool.not_false, Nat.reduceAdd, Nat.reduceLT, Nat.reduceLeDiff, z_mpop0, intD_i, e1, h3, e2, e3, e4, e5] <;> rfl), _, _, okM_im, okM_im, rfl⟩)
  rw [Nat.zero_add, dl_len, List.take_length] at h1
  have c2 := join_l ((sp 10 l).map (trimR isB)) (by have := sum_map_le (trimR_len isB) (sp 10 l); rw [List.length_map]; omega)
  have body : m_bare_source [.im (.str (ml l)), .no, .no, .no] = some (.rt (.str (ml (bare l))) [.im (.str (ml l)), .im (.lst (dl ((sp 10 l).map (trimR isB)))), t2, t3]) := by
    unfold m_bare_source
    have hf : few [] = some [] := rfl
    simp only [z_sseq, z_sset, z_sret, z_sif, z_snx, z_sbk, z_sct, z_sdrop, z_sasg, z_spar, z_sown, z_sfor, z_mop2, z_mc, z_mvar, z_MM_opt, z_MM_map, z_mcons, z_mnil, z_pnil, z_pcim, z_pcow, z_acim, z_acsl, z_anil, z_mif, z_mandB, z_morB, z_mnotB, z_mandV, z_morV, z_mnotV, z_mmeth, z_fmeth, z_fop2, z_mdr, z_mdrNe, z_mdrLen, z_mdrPop, z_sdr, z_mappend, z_mextend, z_mpopAt, z_mlenO, z_mnilO, z_msl, z_mcall, z_saug, z_mmethL, z_sdraws, z_mtrue, slots_nil, slots_im, slots_sl, argsE, updE, List.nodup_nil, List.nodup_cons, List.not_mem_nil, List.mem_singleton, not_false_eq_true, and_self, and_true, List.nil_append, List.append_nil, List.cons_append, mtg, Zf.setL, setsE, few, blD_b, truD_b, truD_i, truD_l, truD_t, intL_i, intL_b, seqD_l, seqD_t, seqD_s, seqD_c, negD_i, DS.at, DS.put, DS.row, addD_i, subD_i, eqD_i, neD_i, ltD_i, leD_i, gtD_i, geD_i, eqD_s, neD_s, out_l, out_d, okS_s, okW_nil, okW_cons, okM_no, okM_im, okM_mf, okM_mt, okN_no, okN_im, okN_mu, wipeE, List.all_cons, List.all_nil, Bool.and_true, Bool.true_and, Bool.and_self, decide_true, decide_false, reduceIte, if_true, if_false, List.length_cons, List.length_nil, List.getElem?_cons_zero, List.getElem?_cons_succ, List.set_cons_zero, List.set_cons_succ, List.map_cons, List.map_nil, Bool.false_eq_true, Option.some.injEq, Bool.not_true, Bool.not_false, Nat.reduceAdd, Nat.reduceLT, Nat.reduceLeDiff, z_mpop0, intD_i, hf, s0, h1, c2]
    rfl
  exact fnM_rt (n := 4) (args := [.im (.str (ml l))]) (m := m_bare_source) body
/-- with a line feed at its end -/
theorem wlf_ok (l : List Nat) (h : l.getLast? = some 10) : F_with_line_feed [.im (.str (ml l))] = some (.str (ml l), [.im (.str (ml l))]) := by
  have e1 : endsM (ml l) [.str ("\n" : Str)] = some (.bl true) := by
    simp only [endsM]
    rw [show ("\n" : Str) = ⟨#[10]⟩ by decide, ends_one, ls_ml, decide_eq_true h]
  have body : m_with_line_feed [.im (.str (ml l))] = some (.rt (.str (ml l)) [.im (.str (ml l))]) := by
    unfold m_with_line_feed
    simp only [z_sseq, z_sset, z_sret, z_sif, z_snx, z_sbk, z_sct, z_sdrop, z_sasg, z_spar, z_sown, z_sfor, z_mop2, z_mc, z_mvar, z_MM_opt, z_MM_map, z_mcons, z_mnil, z_pnil, z_pcim, z_pcow, z_acim, z_acsl, z_anil, z_mif, z_mandB, z_morB, z_mnotB, z_mandV, z_morV, z_mnotV, z_mmeth, z_fmeth, z_fop2, z_mdr, z_mdrNe, z_mdrLen, z_mdrPop, z_sdr, z_mappend, z_mextend, z_mpopAt, z_mlenO, z_mnilO, z_msl, z_mcall, z_saug, z_mmethL, z_sdraws, z_mtrue, slots_nil, slots_im, slots_sl, argsE, updE, List.nodup_nil, List.nodup_cons, List.not_mem_nil, List.mem_singleton, not_false_eq_true, and_self, and_true, List.nil_append, List.append_nil, List.cons_append, mtg, Zf.setL, setsE, few, blD_b, truD_b, truD_i, truD_l, truD_t, intL_i, intL_b, seqD_l, seqD_t, seqD_s, seqD_c, negD_i, DS.at, DS.put, DS.row, addD_i, subD_i, eqD_i, neD_i, ltD_i, leD_i, gtD_i, geD_i, eqD_s, neD_s, out_l, out_d, okS_s, okW_nil, okW_cons, okM_no, okM_im, okM_mf, okM_mt, okN_no, okN_im, okN_mu, wipeE, List.all_cons, List.all_nil, Bool.and_true, Bool.true_and, Bool.and_self, decide_true, decide_false, reduceIte, if_true, if_false, List.length_cons, List.length_nil, List.getElem?_cons_zero, List.getElem?_cons_succ, List.set_cons_zero, List.set_cons_succ, List.map_cons, List.map_nil, Bool.false_eq_true, Option.some.injEq, Bool.not_true, Bool.not_false, Nat.reduceAdd, Nat.reduceLT, Nat.reduceLeDiff, z_mpop0, intD_i, e1]
  exact fnM_rt (n := 1) (args := [.im (.str (ml l))]) (m := m_with_line_feed) body
/-! error texts -/
def H1 : List Nat := ("Traceback (most recent call last):" : Str).cps.toList
def H2 : List Nat := ("Traceback (innermost last):" : Str).cps.toList
def WS : List Nat := ("abcdefghijklmnopqrstuvwxyzABCDEFGHIJKLMNOPQRSTUVWXYZ0123456789_" : Str).cps.toList
def isHd (l : List Nat) : Bool := decide (trimR is32 l = H1) || decide (trimR is32 l = H2)
def we : List Nat → Bool
  | [] => false
  | c :: _ => decide (c ∈ WS)
def eT : List (List Nat) → Option (List (List Nat))
  | [] => none
  | p :: r => if we p = true then some (p :: r) else eT r
def errL : List (List Nat) → Option (List (List Nat))
  | [] => none
  | p :: r => if isHd p = true then eT r else none
def errD (ls : List (List Nat)) : D := match errL ls with
  | some r => .str (ml (jn [10] r))
  | none => .non
theorem rng_succ (a : Int) (n : Nat) : rngD a (n + 1) = .int a :: rngD (a + 1) n := by
  unfold rngD
  rw [List.range_succ_eq_map, List.map_cons, List.map_map]
  congr 1
  · simp
  · refine List.map_congr_left fun i _ => ?_
    show D.int (a + ((i + 1 : Nat) : Int)) = D.int (a + 1 + (i : Int))
    rw [show a + ((i + 1 : Nat) : Int) = a + 1 + (i : Int) by omega]
theorem ix_dl {ls : List (List Nat)} {i : Nat} {p : List Nat} (h : ls[i]? = some p) : ixD (.lst (dl ls)) (.int (i : Int)) = some (.str (ml p)) := by
  have hi := (List.getElem?_eq_some_iff.mp h).1
  show atD (dl ls) (i : Int) = _
  unfold atD ixN
  rw [if_pos (by omega), dl_len, if_pos (by omega), Option.bind_some, Int.toNat_natCast]
  unfold dl
  rw [List.getElem?_map, h]; rfl
theorem sl_dl_from (ls : List (List Nat)) (i : Nat) : slD (.lst (dl ls)) (some (i : Int)) none = some (.lst (dl (ls.drop i))) := by
  show some (D.lst (cutD _ _ _)) = _
  unfold cutD HT.sIx
  simp only
  rw [if_neg (by omega), dl_len, Int.toNat_natCast]
  congr 2
  rw [List.take_of_length_le (by rw [List.length_drop, dl_len]; exact Nat.le_refl _)]
  unfold dl
  rw [List.map_drop]
  by_cases q : i ≤ ls.length
  · rw [Nat.min_eq_left q]
  · rw [Nat.min_eq_right (by omega), List.drop_of_length_le (by rw [List.length_map]; exact Nat.le_refl _), List.drop_of_length_le (by rw [List.length_map]; omega)]
theorem ix_0 (c : Nat) (p : List Nat) (h : p.length ≤ 90000) : ixD (.str (ml (c :: p))) (.int 0) = some (.str ⟨#[c]⟩) := by
  have : (ml (c :: p)).length ≤ 100000 := by rw [ml_len, List.length_cons]; omega
  simp only [ixD, if_pos this]
  have e : atI (ml (c :: p)).cps.toList (0 : Int) = some c := by
    unfold atI ixN
    rw [if_pos (by omega), ls_ml, if_pos (by simp)]
    rfl
  rw [e]
theorem one_inD (c : Nat) (z : Str) : inD (.str ⟨#[c]⟩) (.str z) = some (.bl (decide (c ∈ z.cps.toList))) := by
  unfold inD
  have : inB (.str ⟨#[c]⟩) (.str z) = some (decide (c ∈ z.cps.toList)) := by
    show some (subS _ _) = _
    rw [subS_one]
  rw [this]
theorem nin_tup (x : Str) (fs : List Str) : ninD (.str x) (.tup (fs.map .str)) = some (.bl (!decide (x ∈ fs))) := by
  have : inB (.str x) (.tup (fs.map .str)) = some (decide (x ∈ fs)) := by
    show (match toV (.str x), toVs (fs.map .str) with
      | some v, some vs => some (inV v vs)
      | _, _ => none) = _
    rw [toVs_strs]
    show some (inV (.str x) (fs.map V.str)) = _
    rw [inV_strs]
  unfold ninD
  rw [this]
theorem nilS (l : List Nat) : decide (ml l = ("" : Str)) = decide (l = []) := decide_eq_decide.mpr ⟨fun h => by rw [s_empty] at h; exact h, fun h => by rw [h]; rfl⟩
theorem eT_sub : ∀ {ls r : List (List Nat)}, eT ls = some r → ∃ k, r = ls.drop k
  | [], r, h => by cases h
  | p :: ls, r, h => by
    unfold eT at h
    split at h
    · cases h; exact ⟨0, rfl⟩
    · obtain ⟨k, hk⟩ := eT_sub h
      exact ⟨k + 1, hk⟩
theorem err_loop (x : D) (ls : List (List Nat)) (hs : (ls.map List.length).sum + ls.length ≤ 90000) : ∀ (k a : Nat) (t : Sl), okM t = true → a + k = ls.length → ∃ t', (match eT (ls.drop a) with
    | some r => forL (.one 2) b_error_of_1 (rngD (a : Int) k) [.im x, .im (.lst (dl ls)), t] = some (.rt (.str (ml (jn [10] r))) [.im x, .im (.lst (dl ls)), t'])
    | none => forL (.one 2) b_error_of_1 (rngD (a : Int) k) [.im x, .im (.lst (dl ls)), t] = some (.nx [.im x, .im (.lst (dl ls)), t']))
  | 0, a, t, ht, ha => by
    rw [List.drop_of_length_le (by omega)]
    exact ⟨t, rfl⟩
  | k + 1, a, t, ht, ha => by
    have hlt : a < ls.length := by omega
    obtain ⟨p, hp⟩ : ∃ p, ls[a]? = some p := ⟨_, List.getElem?_eq_getElem hlt⟩
    have hd : ls.drop a = p :: ls.drop (a + 1) := by
      obtain ⟨hi, rfl⟩ := List.getElem?_eq_some_iff.mp hp
      exact List.drop_eq_getElem_cons hi
    have hpl := mem_sum (List.mem_of_getElem? hp)
    have e1 := ix_dl hp
    have e2 := nilS p
    have e3 := sl_dl_from ls a
    have hm : mtg (.one 2) (.int (a : Int)) [.im x, .im (.lst (dl ls)), t] = some [.im x, .im (.lst (dl ls)), .im (.int (a : Int))] := by simp only [z_sseq, z_sset, z_sret, z_sif, z_snx, z_sbk, z_sct, z_sdrop, z_sasg, z_spar, z_sown, z_sfor, z_mop2, z_mc, z_mvar, z_MM_opt, z_MM_map, z_mcons, z_mnil, z_pnil, z_pcim, z_pcow, z_acim, z_acsl, z_anil, z_mif, z_mandB, z_morB, z_mnotB, z_mandV, z_morV, z_mnotV, z_mmeth, z_fmeth, z_fop2, z_mdr, z_mdrNe, z_mdrLen, z_mdrPop, z_sdr, z_mappend, z_mextend, z_mpopAt, z_mlenO, z_mnilO, z_msl, z_mcall, z_saug, z_mmethL, z_sdraws, z_mtrue, slots_nil, slots_im, slots_sl, argsE, updE, List.nodup_nil, List.nodup_cons, List.not_mem_nil, List.mem_singleton, not_false_eq_true, and_self, and_true, List.nil_append, List.append_nil, List.cons_append, mtg, Zf.setL, setsE, few, blD_b, truD_b, truD_i, truD_l, truD_t, intL_i, intL_b, seqD_l, seqD_t, seqD_s, seqD_c, negD_i, DS.at, DS.put, DS.row, addD_i, subD_i, eqD_i, neD_i, ltD_i, leD_i, gtD_i, geD_i, eqD_s, neD_s, out_l, out_d, okS_s, okW_nil, okW_cons, okM_no, okM_im, okM_mf, okM_mt, okN_no, okN_im, okN_mu, wipeE, List.all_cons, List.all_nil, Bool.and_true, Bool.true_and, Bool.and_self, decide_true, decide_false, reduceIte, if_true, if_false, List.length_cons, List.length_nil, List.getElem?_cons_zero, List.getElem?_cons_succ, List.set_cons_zero, List.set_cons_succ, List.map_cons, List.map_nil, Bool.false_eq_true, Option.some.injEq, Bool.not_true, Bool.not_false, Nat.reduceAdd, Nat.reduceLT, Nat.reduceLeDiff, z_mpop0, intD_i, ht]
    rw [rng_succ, hd]
    have e4 := join_l (ls.drop a) (by
      have h1 : ((ls.drop a).map List.length).sum ≤ (ls.map List.length).sum := by
        conv => rhs; rw [← List.take_append_drop a ls, List.map_append, List.sum_append]
        omega
      rw [List.length_drop]; omega)
    rw [hd] at e4 e3
    by_cases q : we p = true
    · refine ⟨.im (.int (a : Int)), ?_⟩
      have : eT (p :: ls.drop (a + 1)) = some (p :: ls.drop (a + 1)) := by unfold eT; rw [if_pos q]
      rw [this]
      have hb : b_error_of_1 [.im x, .im (.lst (dl ls)), .im (.int (a : Int))] = some (.rt (.str (ml (jn [10] (p :: ls.drop (a + 1))))) [.im x, .im (.lst (dl ls)), .im (.int (a : Int))]) := by
        cases p with
        | nil => cases q
        | cons c p =>
          have e5 := ix_0 c p (by rw [List.length_cons] at hpl; omega)
          have e6 := one_inD c "abcdefghijklmnopqrstuvwxyzABCDEFGHIJKLMNOPQRSTUVWXYZ0123456789_"
          have q' : decide (c ∈ ("abcdefghijklmnopqrstuvwxyzABCDEFGHIJKLMNOPQRSTUVWXYZ0123456789_" : Str).cps.toList) = true := q
          rw [q'] at e6
          rw [decide_eq_false (show ¬ (c :: p = []) by simp)] at e2
          unfold b_error_of_1
          simp only [z_sseq, z_sset, z_sret, z_sif, z_snx, z_sbk, z_sct, z_sdrop, z_sasg, z_spar, z_sown, z_sfor, z_mop2, z_mc, z_mvar, z_MM_opt, z_MM_map, z_mcons, z_mnil, z_pnil, z_pcim, z_pcow, z_acim, z_acsl, z_anil, z_mif, z_mandB, z_morB, z_mnotB, z_mandV, z_morV, z_mnotV, z_mmeth, z_fmeth, z_fop2, z_mdr, z_mdrNe, z_mdrLen, z_mdrPop, z_sdr, z_mappend, z_mextend, z_mpopAt, z_mlenO, z_mnilO, z_msl, z_mcall, z_saug, z_mmethL, z_sdraws, z_mtrue, slots_nil, slots_im, slots_sl, argsE, updE, List.nodup_nil, List.nodup_cons, List.not_mem_nil, List.mem_singleton, not_false_eq_true, and_self, and_true, List.nil_append, List.append_nil, List.cons_append, mtg, Zf.setL, setsE, few, blD_b, truD_b, truD_i, truD_l, truD_t, intL_i, intL_b, seqD_l, seqD_t, seqD_s, seqD_c, negD_i, DS.at, DS.put, DS.row, addD_i, subD_i, eqD_i, neD_i, ltD_i, leD_i, gtD_i, geD_i, eqD_s, neD_s, out_l, out_d, okS_s, okW_nil, okW_cons, okM_no, okM_im, okM_mf, okM_mt, okN_no, okN_im, okN_mu, wipeE, List.all_cons, List.all_nil, Bool.and_true, Bool.true_and, Bool.and_self, decide_true, decide_false, reduceIte, if_true, if_false, List.length_cons, List.length_nil, List.getElem?_cons_zero, List.getElem?_cons_succ, List.set_cons_zero, List.set_cons_succ, List.map_cons, List.map_nil, Bool.false_eq_true, Option.some.injEq, Bool.not_true, Bool.not_false, Nat.reduceAdd, Nat.reduceLT, Nat.reduceLeDiff, z_mpop0, intD_i, e1, e2, e5, e6, e3, e4]
      show forL _ _ (.int (a : Int) :: _) _ = _
      unfold forL
      simp only [hm, hb]
    · have hb : b_error_of_1 [.im x, .im (.lst (dl ls)), .im (.int (a : Int))] = some (.nx [.im x, .im (.lst (dl ls)), .im (.int (a : Int))]) := by
        cases p with
        | nil =>
          rw [decide_eq_true (show ([] : List Nat) = [] from rfl)] at e2
          unfold b_error_of_1
          simp only [z_sseq, z_sset, z_sret, z_sif, z_snx, z_sbk, z_sct, z_sdrop, z_sasg, z_spar, z_sown, z_sfor, z_mop2, z_mc, z_mvar, z_MM_opt, z_MM_map, z_mcons, z_mnil, z_pnil, z_pcim, z_pcow, z_acim, z_acsl, z_anil, z_mif, z_mandB, z_morB, z_mnotB, z_mandV, z_morV, z_mnotV, z_mmeth, z_fmeth, z_fop2, z_mdr, z_mdrNe, z_mdrLen, z_mdrPop, z_sdr, z_mappend, z_mextend, z_mpopAt, z_mlenO, z_mnilO, z_msl, z_mcall, z_saug, z_mmethL, z_sdraws, z_mtrue, slots_nil, slots_im, slots_sl, argsE, updE, List.nodup_nil, List.nodup_cons, List.not_mem_nil, List.mem_singleton, not_false_eq_true, and_self, and_true, List.nil_append, List.append_nil, List.cons_append, mtg, Zf.setL, setsE, few, blD_b, truD_b, truD_i, truD_l, truD_t, intL_i, intL_b, seqD_l, seqD_t, seqD_s, seqD_c, negD_i, DS.at, DS.put, DS.row, addD_i, subD_i, eqD_i, neD_i, ltD_i, leD_i, gtD_i, geD_i, eqD_s, neD_s, out_l, out_d, okS_s, okW_nil, okW_cons, okM_no, okM_im, okM_mf, okM_mt, okN_no, okN_im, okN_mu, wipeE, List.all_cons, List.all_nil, Bool.and_true, Bool.true_and, Bool.and_self, decide_true, decide_false, reduceIte, if_true, if_false, List.length_cons, List.length_nil, List.getElem?_cons_zero, List.getElem?_cons_succ, List.set_cons_zero, List.set_cons_succ, List.map_cons, List.map_nil, Bool.false_eq_true, Option.some.injEq, Bool.not_true, Bool.not_false, Nat.reduceAdd, Nat.reduceLT, Nat.reduceLeDiff, z_mpop0, intD_i, e1, e2]
        | cons c p =>
          have e5 := ix_0 c p (by rw [List.length_cons] at hpl; omega)
          have e6 := one_inD c "abcdefghijklmnopqrstuvwxyzABCDEFGHIJKLMNOPQRSTUVWXYZ0123456789_"
          have q' : decide (c ∈ ("abcdefghijklmnopqrstuvwxyzABCDEFGHIJKLMNOPQRSTUVWXYZ0123456789_" : Str).cps.toList) = false := by
            have : ¬ decide (c ∈ WS) = true := q
            exact decide_eq_false fun z => this (decide_eq_true z)
          rw [q'] at e6
          rw [decide_eq_false (show ¬ (c :: p = []) by simp)] at e2
          unfold b_error_of_1
          simp only [z_sseq, z_sset, z_sret, z_sif, z_snx, z_sbk, z_sct, z_sdrop, z_sasg, z_spar, z_sown, z_sfor, z_mop2, z_mc, z_mvar, z_MM_opt, z_MM_map, z_mcons, z_mnil, z_pnil, z_pcim, z_pcow, z_acim, z_acsl, z_anil, z_mif, z_mandB, z_morB, z_mnotB, z_mandV, z_morV, z_mnotV, z_mmeth, z_fmeth, z_fop2, z_mdr, z_mdrNe, z_mdrLen, z_mdrPop, z_sdr, z_mappend, z_mextend, z_mpopAt, z_mlenO, z_mnilO, z_msl, z_mcall, z_saug, z_mmethL, z_sdraws, z_mtrue, slots_nil, slots_im, slots_sl, argsE, updE, List.nodup_nil, List.nodup_cons, List.not_mem_nil, List.mem_singleton, not_false_eq_true, and_self, and_true, List.nil_append, List.append_nil, List.cons_append, mtg, Zf.setL, setsE, few, blD_b, truD_b, truD_i, truD_l, truD_t, intL_i, intL_b, seqD_l, seqD_t, seqD_s, seqD_c, negD_i, DS.at, DS.put, DS.row, addD_i, subD_i, eqD_i, neD_i, ltD_i, leD_i, gtD_i, geD_i, eqD_s, neD_s, out_l, out_d, okS_s, okW_nil, okW_cons, okM_no, okM_im, okM_mf, okM_mt, okN_no, okN_im, okN_mu, wipeE, List.all_cons, List.all_nil, Bool.and_true, Bool.true_and, Bool.and_self, decide_true, decide_false, reduceIte, if_true, if_false, List.length_cons, List.length_nil, List.getElem?_cons_zero, List.getElem?_cons_succ, List.set_cons_zero, List.set_cons_succ, List.map_cons, List.map_nil, Bool.false_eq_true, Option.some.injEq, Bool.not_true, Bool.not_false, Nat.reduceAdd, Nat.reduceLT, Nat.reduceLeDiff, z_mpop0, intD_i, e1, e2, e5, e6]
      have : eT (p :: ls.drop (a + 1)) = eT (ls.drop (a + 1)) := by conv => lhs; unfold eT; rw [if_neg q]
      rw [this]
      obtain ⟨t', h⟩ := err_loop x ls hs k (a + 1) (.im (.int (a : Int))) rfl (by omega)
      refine ⟨t', ?_⟩
      have st : forL (.one 2) b_error_of_1 (.int (a : Int) :: rngD ((a : Int) + 1) k) [.im x, .im (.lst (dl ls)), t] = forL (.one 2) b_error_of_1 (rngD ((a + 1 : Nat) : Int) k) [.im x, .im (.lst (dl ls)), .im (.int (a : Int))] := by
        conv => lhs; unfold forL
        simp only [hm, hb]
        rfl
      rw [st]
      exact h
theorem error_ok (l : List Nat) (hl : l.length ≤ 80000) : F_error_of [.im (.str (ml l))] = some (errD (sp 10 l), [.im (.str (ml l))]) := by
  have s0 := split_l l (by omega)
  have hsum := sp_sum 10 l
  obtain ⟨p, r, hpr⟩ : ∃ p r, sp 10 l = p :: r := by
    cases q : sp 10 l with
    | nil => exact absurd q (sp_ne 10 l)
    | cons p r => exact ⟨p, r, rfl⟩
  have hpl : p.length ≤ 80001 := by
    have := mem_sum (l := p) (ls := sp 10 l) (by rw [hpr]; simp)
    omega
  have e1 : ixD (.lst (dl (sp 10 l))) (.int 0) = some (.str (ml p)) := ix_dl (ls := sp 10 l) (i := 0) (by rw [hpr]; rfl)
  have e2 := rs32 p (by omega)
  have e3 := nin_tup (ml (trimR is32 p)) ["Traceback (most recent call last):", "Traceback (innermost last):"]
  have e3 : ninD (.str (ml (trimR is32 p))) (.tup [.str ("Traceback (most recent call last):" : Str), .str ("Traceback (innermost last):" : Str)]) = some (.bl (!isHd p)) := by
    refine e3.trans ?_
    congr 3
    unfold isHd
    rw [Bool.eq_iff_iff, Bool.or_eq_true, decide_eq_true_eq, decide_eq_true_eq, decide_eq_true_eq]
    constructor
    · intro h
      rcases List.mem_cons.mp h with h | h
      · exact .inl (by rw [← ls_ml (trimR is32 p), h]; rfl)
      · exact .inr (by rw [← ls_ml (trimR is32 p), List.mem_singleton.mp h]; rfl)
    · rintro (h | h)
      · rw [h]; exact List.mem_cons_self
      · rw [h]; exact List.mem_cons_of_mem _ (List.mem_singleton.mpr rfl)
  have body : ∃ L t, m_error_of [.im (.str (ml l)), .no, .no] = some (.rt (errD (sp 10 l)) [.im (.str (ml l)), L, t]) := by
    by_cases q : isHd p = true
    · rw [q] at e3
      obtain ⟨t', h⟩ := err_loop (.str (ml l)) (sp 10 l) (by omega) ((sp 10 l).length - 1) 1 .no rfl (by rw [hpr]; simp; omega)
      have e4 : lenL [.lst (dl (sp 10 l))] = some (.int ((sp 10 l).length : Int)) := by
        show some (D.int ((dl (sp 10 l)).length : Int)) = _
        rw [dl_len]
      have e5 : rng2D [.int 1, .int ((sp 10 l).length : Int)] = some (rngD ((1 : Nat) : Int) ((sp 10 l).length - 1)) := by
        show (if _ then _ else _) = _
        rw [if_pos (by omega), show (((sp 10 l).length : Int) - 1).toNat = (sp 10 l).length - 1 by omega]; rfl
      have hd : (sp 10 l).drop 1 = r := by rw [hpr]; rfl
      rw [hd] at h
      have hE : errL (sp 10 l) = eT r := by rw [hpr]; show (if isHd p = true then eT r else none) = eT r; rw [if_pos q]
      unfold errD
      rw [hE]
      cases z : eT r with
      | none =>
        rw [z] at h
        refine ⟨.im (.lst (dl (sp 10 l))), t', ?_⟩
        unfold m_error_of
        simp only [z_sseq, z_sset, z_sret, z_sif, z_snx, z_sbk, z_sct, z_sdrop, z_sasg, z_spar, z_sown, z_sfor, z_mop2, z_mc, z_mvar, z_MM_opt, z_MM_map, z_mcons, z_mnil, z_pnil, z_pcim, z_pcow, z_acim, z_acsl, z_anil, z_mif, z_mandB, z_morB, z_mnotB, z_mandV, z_morV, z_mnotV, z_mmeth, z_fmeth, z_fop2, z_mdr, z_mdrNe, z_mdrLen, z_mdrPop, z_sdr, z_mappend, z_mextend, z_mpopAt, z_mlenO, z_mnilO, z_msl, z_mcall, z_saug, z_mmethL, z_sdraws, z_mtrue, slots_nil, slots_im, slots_sl, argsE, updE, List.nodup_nil, List.nodup_cons, List.not_mem_nil, List.mem_singleton, not_false_eq_true, and_self, and_true, List.nil_append, List.append_nil, List.cons_append, mtg, Zf.setL, setsE, few, blD_b, truD_b, truD_i, truD_l, truD_t, intL_i, intL_b, seqD_l, seqD_t, seqD_s, seqD_c, negD_i, DS.at, DS.put, DS.row, addD_i, subD_i, eqD_i, neD_i, ltD_i, leD_i, gtD_i, geD_i, eqD_s, neD_s, out_l, out_d, okS_s, okW_nil, okW_cons, okM_no, okM_im, okM_mf, okM_mt, okN_no, okN_im, okN_mu, wipeE, List.all_cons, List.all_nil, Bool.and_true, Bool.true_and, Bool.and_self, decide_true, decide_false, reduceIte, if_true, if_false, List.length_cons, List.length_nil, List.getElem?_cons_zero, List.getElem?_cons_succ, List.set_cons_zero, List.set_cons_succ, List.map_cons, List.map_nil, Bool.false_eq_true, Option.some.injEq, Bool.not_true, Bool.not_false, Nat.reduceAdd, Nat.reduceLT, Nat.reduceLeDiff, z_mpop0, intD_i, s0, e1, e2, e3, e4, e5, h]
      | some r2 =>
        rw [z] at h
        refine ⟨.im (.lst (dl (sp 10 l))), t', ?_⟩
        unfold m_error_of
        simp only [z_sseq, z_sset, z_sret, z_sif, z_snx, z_sbk, z_sct, z_sdrop, z_sasg, z_spar, z_sown, z_sfor, z_mop2, z_mc, z_mvar, z_MM_opt, z_MM_map, z_mcons, z_mnil, z_pnil, z_pcim, z_pcow, z_acim, z_acsl, z_anil, z_mif, z_mandB, z_morB, z_mnotB, z_mandV, z_morV, z_mnotV, z_mmeth, z_fmeth, z_fop2, z_mdr, z_mdrNe, z_mdrLen, z_mdrPop, z_sdr, z_mappend, z_mextend, z_mpopAt, z_mlenO, z_mnilO, z_msl, z_mcall, z_saug, z_mmethL, z_sdraws, z_mtrue, slots_nil, slots_im, slots_sl, argsE, updE, List.nodup_nil, List.nodup_cons, List.not_mem_nil, List.mem_singleton, not_false_eq_true, and_self, and_true, List.nil_append, List.append_nil, List.cons_append, mtg, Zf.setL, setsE, few, blD_b, truD_b, truD_i, truD_l, truD_t, intL_i, intL_b, seqD_l, seqD_t, seqD_s, seqD_c, negD_i, DS.at, DS.put, DS.row, addD_i, subD_i, eqD_i, neD_i, ltD_i, leD_i, gtD_i, geD_i, eqD_s, neD_s, out_l, out_d, okS_s, okW_nil, okW_cons, okM_no, okM_im, okM_mf, okM_mt, okN_no, okN_im, okN_mu, wipeE, List.all_cons, List.all_nil, Bool.and_true, Bool.true_and, Bool.and_self, decide_true, decide_false, reduceIte, if_true, if_false, List.length_cons, List.length_nil, List.getElem?_cons_zero, List.getElem?_cons_succ, List.set_cons_zero, List.set_cons_succ, List.map_cons, List.map_nil, Bool.false_eq_true, Option.some.injEq, Bool.not_true, Bool.not_false, Nat.reduceAdd, Nat.reduceLT, Nat.reduceLeDiff, z_mpop0, intD_i, s0, e1, e2, e3, e4, e5, h]
    · have q' : isHd p = false := by simpa using q
      rw [q'] at e3
      have hE : errL (sp 10 l) = none := by rw [hpr]; show (if isHd p = true then eT r else none) = none; rw [if_neg q]
      unfold errD
      rw [hE]
      refine ⟨.im (.lst (dl (sp 10 l))), .no, ?_⟩
      unfold m_error_of
      simp only [z_sseq, z_sset, z_sret, z_sif, z_snx, z_sbk, z_sct, z_sdrop, z_sasg, z_spar, z_sown, z_sfor, z_mop2, z_mc, z_mvar, z_MM_opt, z_MM_map, z_mcons, z_mnil, z_pnil, z_pcim, z_pcow, z_acim, z_acsl, z_anil, z_mif, z_mandB, z_morB, z_mnotB, z_mandV, z_morV, z_mnotV, z_mmeth, z_fmeth, z_fop2, z_mdr, z_mdrNe, z_mdrLen, z_mdrPop, z_sdr, z_mappend, z_mextend, z_mpopAt, z_mlenO, z_mnilO, z_msl, z_mcall, z_saug, z_mmethL, z_sdraws, z_mtrue, slots_nil, slots_im, slots_sl, argsE, updE, List.nodup_nil, List.nodup_cons, List.not_mem_nil, List.mem_singleton, not_false_eq_true, and_self, and_true, List.nil_append, List.append_nil, List.cons_append, mtg, Zf.setL, setsE, few, blD_b, truD_b, truD_i, truD_l, truD_t, intL_i, intL_b, seqD_l, seqD_t, seqD_s, seqD_c, negD_i, DS.at, DS.put, DS.row, addD_i, subD_i, eqD_i, neD_i, ltD_i, leD_i, gtD_i, geD_i, eqD_s, neD_s, out_l, out_d, okS_s, okW_nil, okW_cons, okM_no, okM_im, okM_mf, okM_mt, okN_no, okN_im, okN_mu, wipeE, List.all_cons, List.all_nil, Bool.and_true, Bool.true_and, Bool.and_self, decide_true, decide_false, reduceIte, if_true, if_false, List.length_cons, List.length_nil, List.getElem?_cons_zero, List.getElem?_cons_succ, List.set_cons_zero, List.set_cons_succ, List.map_cons, List.map_nil, Bool.false_eq_true, Option.some.injEq, Bool.not_true, Bool.not_false, Nat.reduceAdd, Nat.reduceLT, Nat.reduceLeDiff, z_mpop0, intD_i, s0, e1, e2, e3]
  obtain ⟨L, t, body⟩ := body
  exact fnM_rt (n := 3) (args := [.im (.str (ml l))]) (m := m_error_of) body
end Zz

set_option Elab.async false
set_option linter.all false
set_option maxRecDepth 100000
set_option maxHeartbeats 1000000
/-! texts.py: rows, examples and comments made -/
namespace Zz
open PySem PySem.Spec L2 Zf
theorem z_sattr {i c : Nat} {f : Str} {m : MM D} {env : En} : sattr i c f m env = (match m env with
  | some (d, e1) => (match e1[i]? with
    | some (.mu q (.ob c' fs)) => if c' = c ∧ fs.length < 900 then some (.nx (e1.set i (.mu q (.ob c' (putD f d fs))))) else none
    | _ => none)
  | none => none) := rfl
theorem z_mattrO {i c : Nat} {f : Str} {env : En} : mattrO i c f env = (match env[i]? with
  | some (.mu _ (.ob c' fs)) => if c' = c then (lkD f fs).map fun d => (d, env) else none
  | _ => none) := rfl
theorem z_sforD {i : Nat} {env : En} : sforD i env = (match env[i]? with
  | some (.im (.dct [])) => some (.nx env)
  | _ => none) := rfl
/-- lines, each with its line feed -/
def wl (ls : List (List Nat)) : List Nat := (ls.map fun l => l ++ [10]).flatten
theorem wl_cons (p : List Nat) (ls : List (List Nat)) : wl (p :: ls) = p ++ 10 :: wl ls := by
  unfold wl
  rw [List.map_cons, List.flatten_cons, List.append_assoc]; rfl
theorem jn_wl : ∀ ls : List (List Nat), jn [10] (ls ++ [[]]) = wl ls
  | [] => rfl
  | p :: ls => by
    rw [List.cons_append, jn_cons _ _ (by simp), jn_wl ls, wl_cons, List.append_assoc]; rfl
theorem sp_wl {ls : List (List Nat)} (h : ∀ p ∈ ls, 10 ∉ p) : sp 10 (wl ls) = ls ++ [[]] := by
  rw [← jn_wl]
  refine sp_jn _ (by simp) fun p hp => ?_
  rcases List.mem_append.mp hp with hp | hp
  · exact h p hp
  · rw [List.mem_singleton.mp hp]; simp
theorem wl_last {ls : List (List Nat)} (h : ls ≠ []) : (wl ls).getLast? = some 10 := by
  induction ls with
  | nil => exact absurd rfl h
  | cons p ls ih =>
    rw [wl_cons]
    cases ls with
    | nil => show (p ++ [10]).getLast? = _; simp
    | cons q ls =>
      have := ih (by simp)
      have hne : wl (q :: ls) ≠ [] := fun z => by rw [z] at this; cases this
      rw [List.getLast?_append, List.getLast?_cons, this]; rfl
theorem wl_nil {ls : List (List Nat)} (h : ls ≠ []) : wl ls ≠ [] := fun z => by
  have := wl_last h
  rw [z] at this; cases this
theorem wl_len : ∀ ls : List (List Nat), (wl ls).length = (ls.map List.length).sum + ls.length
  | [] => rfl
  | p :: ls => by
    have := wl_len ls
    rw [wl_cons, List.length_append, List.length_cons, List.map_cons, List.sum_cons, List.length_cons]
    omega
/-- the want of an example: what its lines make, or nothing -/
theorem eT_nil : ∀ ls : List (List Nat), eT (ls ++ [[]]) = (eT ls).map (· ++ [[]])
  | [] => rfl
  | p :: ls => by
    have := eT_nil ls
    show (if we p = true then some (p :: (ls ++ [[]])) else eT (ls ++ [[]])) = Option.map (· ++ [[]]) (if we p = true then some (p :: ls) else eT ls)
    split
    · rfl
    · exact this
/-- the error text of lines -/
def errW (ls : List (List Nat)) : D := match errL ls with
  | some r => .str (ml (wl r))
  | none => .non
theorem errD_wl {ls : List (List Nat)} (h : ∀ p ∈ ls, 10 ∉ p) : errD (sp 10 (wl ls)) = errW ls := by
  rw [sp_wl h]
  cases ls with
  | nil => rfl
  | cons p ls =>
    unfold errD errW
    show (match (if isHd p = true then eT (ls ++ [[]]) else none) with
      | some r => D.str (ml (jn [10] r))
      | none => .non) = (match (if isHd p = true then eT ls else none) with
      | some r => D.str (ml (wl r))
      | none => .non)
    by_cases q : isHd p = true
    · rw [if_pos q, if_pos q, eT_nil]
      cases eT ls with
      | none => rfl
      | some r => show D.str (ml (jn [10] (r ++ [[]]))) = _; rw [jn_wl]
    · rw [if_neg q, if_neg q]
theorem bare_wl {ls : List (List Nat)} (h : ∀ p ∈ ls, 10 ∉ p) : bare (wl ls) = wl (ls.map (trimR isB)) := by
  unfold bare
  rw [sp_wl h, List.map_append, show [([] : List Nat)].map (trimR isB) = [[]] from rfl, jn_wl]
theorem eT_ne : ∀ {ls r : List (List Nat)}, eT ls = some r → r ≠ []
  | [], r, h => by cases h
  | p :: ls, r, h => by
    unfold eT at h
    split at h
    · cases h; simp
    · exact eT_ne h
theorem errL_ne {ls r : List (List Nat)} (h : errL ls = some r) : r ≠ [] := by
  cases ls with
  | nil => cases h
  | cons p ls =>
    have h : (if isHd p = true then eT ls else none) = some r := h
    by_cases q : isHd p = true
    · rw [if_pos q] at h; exact eT_ne h
    · rw [if_neg q] at h; cases h
/-- an example -/
def exD (src want err : D) (line indent : Int) (bs : D) : D := .obj 0 [("source", src), ("want", want), ("error", err), ("line", .int line), ("indent", .int indent), ("options", .dct []), ("bare", bs)]
def cmD (src want : D) (line indent : Int) : D := .obj 1 [("source", src), ("want", want), ("line", .int line), ("indent", .int indent)]
theorem putD_new {f : Str} {d : D} : ∀ {fs : List (Str × D)}, ((fs.map Prod.fst).all fun g => !decide (g = f)) = true → putD f d fs = fs ++ [(f, d)]
  | [], _ => rfl
  | (g, x) :: fs, h => by
    rw [List.map_cons, List.all_cons, Bool.and_eq_true, Bool.not_eq_true', decide_eq_false_iff_not] at h
    show (if g = f then (g, d) :: fs else (g, x) :: putD f d fs) = _
    rw [if_neg h.1, putD_new h.2]; rfl
theorem sattr_ok {c : Nat} {f : Str} {m : MM D} {env r : En} {d : D} {q : Bool} {fs : List (Str × D)} (h : m env = some (d, .mu q (.ob c fs) :: r)) (hl : fs.length < 900) (hn : ((fs.map Prod.fst).all fun g => !decide (g = f)) = true) : sattr 0 c f m env = some (.nx (.mu q (.ob c (fs ++ [(f, d)])) :: r)) := by
  unfold sattr
  simp only [h]
  show (if c = c ∧ fs.length < 900 then _ else _) = _
  rw [if_pos ⟨rfl, hl⟩, putD_new hn]; rfl
theorem isN_dct {k : List (Key × D)} : isN (.dct k) = some (.bl false) := rfl
theorem isN_str {z : Str} : isN (.str z) = some (.bl false) := rfl
theorem isN_non : isN .non = some (.bl true) := rfl
theorem init_ok (rows want : List (List Nat)) (line indent : Int) (hr : rows ≠ []) (h10 : ∀ p ∈ rows, 10 ∉ p) (hnd : ∀ p ∈ rows, ND p) (hl : (wl rows).length ≤ 80000) : ∃ r, F_Example___init__ [.mu true (.ob 0 []), .im (.str (ml (wl rows))), .im (.str (ml (wl want))), .im (errW want), .im (.int line), .im (.int indent), .im (.dct [])] = some (.non, .mu true (.ob 0 [("source", .str (ml (wl rows))), ("want", .str (ml (wl want))), ("error", errW want), ("line", .int line), ("indent", .int indent), ("options", .dct []), ("bare", .str (ml (wl (rows.map (trimR isB)))))]) :: r) := by
  have e1 := wlf_ok (wl rows) (wl_last hr)
  have e2 := nilS (wl want)
  have e3 := bare_no (wl rows) hl (by
    intro p hp
    rw [sp_wl h10] at hp
    rcases List.mem_append.mp hp with hp | hp
    · exact hnd p hp
    · rw [List.mem_singleton.mp hp]; exact nd_no (by simp))
  rw [bare_wl h10] at e3
  obtain ⟨R, hR⟩ : ∃ R : En, R = [.im (.str (ml (wl rows))), .im (.str (ml (wl want))), .im (errW want), .im (.int line), .im (.int indent), .im (.dct []), .no] := ⟨_, rfl⟩
  have s1 : ∀ o, mif (MM.opt (mop2 eqD (mvar 2) (mc (.str ""))) blD) (mvar 2) (mcall F_with_line_feed [] (acim (mvar 2) (anil))) (o :: R) = some (.str (ml (wl want)), o :: R) := fun o => by
    subst hR
    by_cases q : want = []
    · subst q
      rw [decide_eq_true (show wl [] = [] from rfl)] at e2
      simp only [z_sseq, z_sset, z_sret, z_sif, z_snx, z_sbk, z_sct, z_sdrop, z_sasg, z_spar, z_sown, z_sfor, z_mop2, z_mc, z_mvar, z_MM_opt, z_MM_map, z_mcons, z_mnil, z_pnil, z_pcim, z_pcow, z_acim, z_acsl, z_anil, z_mif, z_mandB, z_morB, z_mnotB, z_mandV, z_morV, z_mnotV, z_mmeth, z_fmeth, z_fop2, z_mdr, z_mdrNe, z_mdrLen, z_mdrPop, z_sdr, z_mappend, z_mextend, z_mpopAt, z_mlenO, z_mnilO, z_msl, z_mcall, z_saug, z_mmethL, z_sdraws, z_mtrue, slots_nil, slots_im, slots_sl, argsE, updE, List.nodup_nil, List.nodup_cons, List.not_mem_nil, List.mem_singleton, not_false_eq_true, and_self, and_true, List.nil_append, List.append_nil, List.cons_append, mtg, Zf.setL, setsE, few, blD_b, truD_b, truD_i, truD_l, truD_t, intL_i, intL_b, seqD_l, seqD_t, seqD_s, seqD_c, negD_i, DS.at, DS.put, DS.row, addD_i, subD_i, eqD_i, neD_i, ltD_i, leD_i, gtD_i, geD_i, eqD_s, neD_s, out_l, out_d, okS_s, okW_nil, okW_cons, okM_no, okM_im, okM_mf, okM_mt, okN_no, okN_im, okN_mu, wipeE, List.all_cons, List.all_nil, Bool.and_true, Bool.true_and, Bool.and_self, decide_true, decide_false, reduceIte, if_true, if_false, List.length_cons, List.length_nil, List.getElem?_cons_zero, List.getElem?_cons_succ, List.set_cons_zero, List.set_cons_succ, List.map_cons, List.map_nil, Bool.false_eq_true, Option.some.injEq, Bool.not_true, Bool.not_false, Nat.reduceAdd, Nat.reduceLT, Nat.reduceLeDiff, z_mpop0, intD_i, e2]
    · have e4 := wlf_ok (wl want) (wl_last q)
      rw [decide_eq_false (wl_nil q)] at e2
      simp only [z_sseq, z_sset, z_sret, z_sif, z_snx, z_sbk, z_sct, z_sdrop, z_sasg, z_spar, z_sown, z_sfor, z_mop2, z_mc, z_mvar, z_MM_opt, z_MM_map, z_mcons, z_mnil, z_pnil, z_pcim, z_pcow, z_acim, z_acsl, z_anil, z_mif, z_mandB, z_morB, z_mnotB, z_mandV, z_morV, z_mnotV, z_mmeth, z_fmeth, z_fop2, z_mdr, z_mdrNe, z_mdrLen, z_mdrPop, z_sdr, z_mappend, z_mextend, z_mpopAt, z_mlenO, z_mnilO, z_msl, z_mcall, z_saug, z_mmethL, z_sdraws, z_mtrue, slots_nil, slots_im, slots_sl, argsE, updE, List.nodup_nil, List.nodup_cons, List.not_mem_nil, List.mem_singleton, not_false_eq_true, and_self, and_true, List.nil_append, List.append_nil, List.cons_append, mtg, Zf.setL, setsE, few, blD_b, truD_b, truD_i, truD_l, truD_t, intL_i, intL_b, seqD_l, seqD_t, seqD_s, seqD_c, negD_i, DS.at, DS.put, DS.row, addD_i, subD_i, eqD_i, neD_i, ltD_i, leD_i, gtD_i, geD_i, eqD_s, neD_s, out_l, out_d, okS_s, okW_nil, okW_cons, okM_no, okM_im, okM_mf, okM_mt, okN_no, okN_im, okN_mu, wipeE, List.all_cons, List.all_nil, Bool.and_true, Bool.true_and, Bool.and_self, decide_true, decide_false, reduceIte, if_true, if_false, List.length_cons, List.length_nil, List.getElem?_cons_zero, List.getElem?_cons_succ, List.set_cons_zero, List.set_cons_succ, List.map_cons, List.map_nil, Bool.false_eq_true, Option.some.injEq, Bool.not_true, Bool.not_false, Nat.reduceAdd, Nat.reduceLT, Nat.reduceLeDiff, z_mpop0, intD_i, e2, e4]
  have s2 : ∀ o, mif (MM.opt (MM.opt (mvar 3) isN) blD) (mc .non) (mcall F_with_line_feed [] (acim (mvar 3) (anil))) (o :: R) = some (errW want, o :: R) := fun o => by
    subst hR
    cases z : errL want with
    | none =>
      have : errW want = .non := by unfold errW; rw [z]
      rw [this]
      simp only [z_sseq, z_sset, z_sret, z_sif, z_snx, z_sbk, z_sct, z_sdrop, z_sasg, z_spar, z_sown, z_sfor, z_mop2, z_mc, z_mvar, z_MM_opt, z_MM_map, z_mcons, z_mnil, z_pnil, z_pcim, z_pcow, z_acim, z_acsl, z_anil, z_mif, z_mandB, z_morB, z_mnotB, z_mandV, z_morV, z_mnotV, z_mmeth, z_fmeth, z_fop2, z_mdr, z_mdrNe, z_mdrLen, z_mdrPop, z_sdr, z_mappend, z_mextend, z_mpopAt, z_mlenO, z_mnilO, z_msl, z_mcall, z_saug, z_mmethL, z_sdraws, z_mtrue, slots_nil, slots_im, slots_sl, argsE, updE, List.nodup_nil, List.nodup_cons, List.not_mem_nil, List.mem_singleton, not_false_eq_true, and_self, and_true, List.nil_append, List.append_nil, List.cons_append, mtg, Zf.setL, setsE, few, blD_b, truD_b, truD_i, truD_l, truD_t, intL_i, intL_b, seqD_l, seqD_t, seqD_s, seqD_c, negD_i, DS.at, DS.put, DS.row, addD_i, subD_i, eqD_i, neD_i, ltD_i, leD_i, gtD_i, geD_i, eqD_s, neD_s, out_l, out_d, okS_s, okW_nil, okW_cons, okM_no, okM_im, okM_mf, okM_mt, okN_no, okN_im, okN_mu, wipeE, List.all_cons, List.all_nil, Bool.and_true, Bool.true_and, Bool.and_self, decide_true, decide_false, reduceIte, if_true, if_false, List.length_cons, List.length_nil, List.getElem?_cons_zero, List.getElem?_cons_succ, List.set_cons_zero, List.set_cons_succ, List.map_cons, List.map_nil, Bool.false_eq_true, Option.some.injEq, Bool.not_true, Bool.not_false, Nat.reduceAdd, Nat.reduceLT, Nat.reduceLeDiff, z_mpop0, intD_i, isN_non]
    | some r =>
      have : errW want = .str (ml (wl r)) := by unfold errW; rw [z]
      have e5 := wlf_ok (wl r) (wl_last (errL_ne z))
      rw [this]
      simp only [z_sseq, z_sset, z_sret, z_sif, z_snx, z_sbk, z_sct, z_sdrop, z_sasg, z_spar, z_sown, z_sfor, z_mop2, z_mc, z_mvar, z_MM_opt, z_MM_map, z_mcons, z_mnil, z_pnil, z_pcim, z_pcow, z_acim, z_acsl, z_anil, z_mif, z_mandB, z_morB, z_mnotB, z_mandV, z_morV, z_mnotV, z_mmeth, z_fmeth, z_fop2, z_mdr, z_mdrNe, z_mdrLen, z_mdrPop, z_sdr, z_mappend, z_mextend, z_mpopAt, z_mlenO, z_mnilO, z_msl, z_mcall, z_saug, z_mmethL, z_sdraws, z_mtrue, slots_nil, slots_im, slots_sl, argsE, updE, List.nodup_nil, List.nodup_cons, List.not_mem_nil, List.mem_singleton, not_false_eq_true, and_self, and_true, List.nil_append, List.append_nil, List.cons_append, mtg, Zf.setL, setsE, few, blD_b, truD_b, truD_i, truD_l, truD_t, intL_i, intL_b, seqD_l, seqD_t, seqD_s, seqD_c, negD_i, DS.at, DS.put, DS.row, addD_i, subD_i, eqD_i, neD_i, ltD_i, leD_i, gtD_i, geD_i, eqD_s, neD_s, out_l, out_d, okS_s, okW_nil, okW_cons, okM_no, okM_im, okM_mf, okM_mt, okN_no, okN_im, okN_mu, wipeE, List.all_cons, List.all_nil, Bool.and_true, Bool.true_and, Bool.and_self, decide_true, decide_false, reduceIte, if_true, if_false, List.length_cons, List.length_nil, List.getElem?_cons_zero, List.getElem?_cons_succ, List.set_cons_zero, List.set_cons_succ, List.map_cons, List.map_nil, Bool.false_eq_true, Option.some.injEq, Bool.not_true, Bool.not_false, Nat.reduceAdd, Nat.reduceLT, Nat.reduceLeDiff, z_mpop0, intD_i, isN_str, e5]
  have body : m_Example___init__ (.mu true (.ob 0 []) :: R) = some (.nx (.mu true (.ob 0 [("source", .str (ml (wl rows))), ("want", .str (ml (wl want))), ("error", errW want), ("line", .int line), ("indent", .int indent), ("options", .dct []), ("bare", .str (ml (wl (rows.map (trimR isB)))))]) :: R)) := by
    unfold m_Example___init__
    refine sseq_nx (e1 := .mu true (.ob 0 []) :: R) (by subst hR; simp only [z_sseq, z_sset, z_sret, z_sif, z_snx, z_sbk, z_sct, z_sdrop, z_sasg, z_spar, z_sown, z_sfor, z_mop2, z_mc, z_mvar, z_MM_opt, z_MM_map, z_mcons, z_mnil, z_pnil, z_pcim, z_pcow, z_acim, z_acsl, z_anil, z_mif, z_mandB, z_morB, z_mnotB, z_mandV, z_morV, z_mnotV, z_mmeth, z_fmeth, z_fop2, z_mdr, z_mdrNe, z_mdrLen, z_mdrPop, z_sdr, z_mappend, z_mextend, z_mpopAt, z_mlenO, z_mnilO, z_msl, z_mcall, z_saug, z_mmethL, z_sdraws, z_mtrue, slots_nil, slots_im, slots_sl, argsE, updE, List.nodup_nil, List.nodup_cons, List.not_mem_nil, List.mem_singleton, not_false_eq_true, and_self, and_true, List.nil_append, List.append_nil, List.cons_append, mtg, Zf.setL, setsE, few, blD_b, truD_b, truD_i, truD_l, truD_t, intL_i, intL_b, seqD_l, seqD_t, seqD_s, seqD_c, negD_i, DS.at, DS.put, DS.row, addD_i, subD_i, eqD_i, neD_i, ltD_i, leD_i, gtD_i, geD_i, eqD_s, neD_s, out_l, out_d, okS_s, okW_nil, okW_cons, okM_no, okM_im, okM_mf, okM_mt, okN_no, okN_im, okN_mu, wipeE, List.all_cons, List.all_nil, Bool.and_true, Bool.true_and, Bool.and_self, decide_true, decide_false, reduceIte, if_true, if_false, List.length_cons, List.length_nil, List.getElem?_cons_zero, List.getElem?_cons_succ, List.set_cons_zero, List.set_cons_succ, List.map_cons, List.map_nil, Bool.false_eq_true, Option.some.injEq, Bool.not_true, Bool.not_false, Nat.reduceAdd, Nat.reduceLT, Nat.reduceLeDiff, z_mpop0, intD_i, isN_dct]) ?_
    refine sseq_nx (e1 := .mu true (.ob 0 []) :: R) (by subst hR; rfl) ?_
    refine sseq_nx (sattr_ok (q := true) (fs := []) (d := .str (ml (wl rows))) (r := R) (by subst hR; simp only [z_sseq, z_sset, z_sret, z_sif, z_snx, z_sbk, z_sct, z_sdrop, z_sasg, z_spar, z_sown, z_sfor, z_mop2, z_mc, z_mvar, z_MM_opt, z_MM_map, z_mcons, z_mnil, z_pnil, z_pcim, z_pcow, z_acim, z_acsl, z_anil, z_mif, z_mandB, z_morB, z_mnotB, z_mandV, z_morV, z_mnotV, z_mmeth, z_fmeth, z_fop2, z_mdr, z_mdrNe, z_mdrLen, z_mdrPop, z_sdr, z_mappend, z_mextend, z_mpopAt, z_mlenO, z_mnilO, z_msl, z_mcall, z_saug, z_mmethL, z_sdraws, z_mtrue, slots_nil, slots_im, slots_sl, argsE, updE, List.nodup_nil, List.nodup_cons, List.not_mem_nil, List.mem_singleton, not_false_eq_true, and_self, and_true, List.nil_append, List.append_nil, List.cons_append, mtg, Zf.setL, setsE, few, blD_b, truD_b, truD_i, truD_l, truD_t, intL_i, intL_b, seqD_l, seqD_t, seqD_s, seqD_c, negD_i, DS.at, DS.put, DS.row, addD_i, subD_i, eqD_i, neD_i, ltD_i, leD_i, gtD_i, geD_i, eqD_s, neD_s, out_l, out_d, okS_s, okW_nil, okW_cons, okM_no, okM_im, okM_mf, okM_mt, okN_no, okN_im, okN_mu, wipeE, List.all_cons, List.all_nil, Bool.and_true, Bool.true_and, Bool.and_self, decide_true, decide_false, reduceIte, if_true, if_false, List.length_cons, List.length_nil, List.getElem?_cons_zero, List.getElem?_cons_succ, List.set_cons_zero, List.set_cons_succ, List.map_cons, List.map_nil, Bool.false_eq_true, Option.some.injEq, Bool.not_true, Bool.not_false, Nat.reduceAdd, Nat.reduceLT, Nat.reduceLeDiff, z_mpop0, intD_i, e1]) (by simp) rfl) ?_
    refine sseq_nx (sattr_ok (q := true) (fs := [("source", .str (ml (wl rows)))]) (d := .str (ml (wl want))) (r := R) (s1 _) (by simp) rfl) ?_
    refine sseq_nx (sattr_ok (q := true) (fs := [("source", .str (ml (wl rows))), ("want", .str (ml (wl want)))]) (d := errW want) (r := R) (s2 _) (by simp) rfl) ?_
    refine sseq_nx (sattr_ok (q := true) (fs := [("source", .str (ml (wl rows))), ("want", .str (ml (wl want))), ("error", errW want)]) (d := .int line) (r := R) (by subst hR; simp only [z_sseq, z_sset, z_sret, z_sif, z_snx, z_sbk, z_sct, z_sdrop, z_sasg, z_spar, z_sown, z_sfor, z_mop2, z_mc, z_mvar, z_MM_opt, z_MM_map, z_mcons, z_mnil, z_pnil, z_pcim, z_pcow, z_acim, z_acsl, z_anil, z_mif, z_mandB, z_morB, z_mnotB, z_mandV, z_morV, z_mnotV, z_mmeth, z_fmeth, z_fop2, z_mdr, z_mdrNe, z_mdrLen, z_mdrPop, z_sdr, z_mappend, z_mextend, z_mpopAt, z_mlenO, z_mnilO, z_msl, z_mcall, z_saug, z_mmethL, z_sdraws, z_mtrue, slots_nil, slots_im, slots_sl, argsE, updE, List.nodup_nil, List.nodup_cons, List.not_mem_nil, List.mem_singleton, not_false_eq_true, and_self, and_true, List.nil_append, List.append_nil, List.cons_append, mtg, Zf.setL, setsE, few, blD_b, truD_b, truD_i, truD_l, truD_t, intL_i, intL_b, seqD_l, seqD_t, seqD_s, seqD_c, negD_i, DS.at, DS.put, DS.row, addD_i, subD_i, eqD_i, neD_i, ltD_i, leD_i, gtD_i, geD_i, eqD_s, neD_s, out_l, out_d, okS_s, okW_nil, okW_cons, okM_no, okM_im, okM_mf, okM_mt, okN_no, okN_im, okN_mu, wipeE, List.all_cons, List.all_nil, Bool.and_true, Bool.true_and, Bool.and_self, decide_true, decide_false, reduceIte, if_true, if_false, List.length_cons, List.length_nil, List.getElem?_cons_zero, List.getElem?_cons_succ, List.set_cons_zero, List.set_cons_succ, List.map_cons, List.map_nil, Bool.false_eq_true, Option.some.injEq, Bool.not_true, Bool.not_false, Nat.reduceAdd, Nat.reduceLT, Nat.reduceLeDiff, z_mpop0, intD_i]) (by simp) rfl) ?_
    refine sseq_nx (sattr_ok (q := true) (fs := [("source", .str (ml (wl rows))), ("want", .str (ml (wl want))), ("error", errW want), ("line", .int line)]) (d := .int indent) (r := R) (by subst hR; simp only [z_sseq, z_sset, z_sret, z_sif, z_snx, z_sbk, z_sct, z_sdrop, z_sasg, z_spar, z_sown, z_sfor, z_mop2, z_mc, z_mvar, z_MM_opt, z_MM_map, z_mcons, z_mnil, z_pnil, z_pcim, z_pcow, z_acim, z_acsl, z_anil, z_mif, z_mandB, z_morB, z_mnotB, z_mandV, z_morV, z_mnotV, z_mmeth, z_fmeth, z_fop2, z_mdr, z_mdrNe, z_mdrLen, z_mdrPop, z_sdr, z_mappend, z_mextend, z_mpopAt, z_mlenO, z_mnilO, z_msl, z_mcall, z_saug, z_mmethL, z_sdraws, z_mtrue, slots_nil, slots_im, slots_sl, argsE, updE, List.nodup_nil, List.nodup_cons, List.not_mem_nil, List.mem_singleton, not_false_eq_true, and_self, and_true, List.nil_append, List.append_nil, List.cons_append, mtg, Zf.setL, setsE, few, blD_b, truD_b, truD_i, truD_l, truD_t, intL_i, intL_b, seqD_l, seqD_t, seqD_s, seqD_c, negD_i, DS.at, DS.put, DS.row, addD_i, subD_i, eqD_i, neD_i, ltD_i, leD_i, gtD_i, geD_i, eqD_s, neD_s, out_l, out_d, okS_s, okW_nil, okW_cons, okM_no, okM_im, okM_mf, okM_mt, okN_no, okN_im, okN_mu, wipeE, List.all_cons, List.all_nil, Bool.and_true, Bool.true_and, Bool.and_self, decide_true, decide_false, reduceIte, if_true, if_false, List.length_cons, List.length_nil, List.getElem?_cons_zero, List.getElem?_cons_succ, List.set_cons_zero, List.set_cons_succ, List.map_cons, List.map_nil, Bool.false_eq_true, Option.some.injEq, Bool.not_true, Bool.not_false, Nat.reduceAdd, Nat.reduceLT, Nat.reduceLeDiff, z_mpop0, intD_i]) (by simp) rfl) ?_
    refine sseq_nx (sattr_ok (q := true) (fs := [("source", .str (ml (wl rows))), ("want", .str (ml (wl want))), ("error", errW want), ("line", .int line), ("indent", .int indent)]) (d := .dct []) (r := R) (by subst hR; simp only [z_sseq, z_sset, z_sret, z_sif, z_snx, z_sbk, z_sct, z_sdrop, z_sasg, z_spar, z_sown, z_sfor, z_mop2, z_mc, z_mvar, z_MM_opt, z_MM_map, z_mcons, z_mnil, z_pnil, z_pcim, z_pcow, z_acim, z_acsl, z_anil, z_mif, z_mandB, z_morB, z_mnotB, z_mandV, z_morV, z_mnotV, z_mmeth, z_fmeth, z_fop2, z_mdr, z_mdrNe, z_mdrLen, z_mdrPop, z_sdr, z_mappend, z_mextend, z_mpopAt, z_mlenO, z_mnilO, z_msl, z_mcall, z_saug, z_mmethL, z_sdraws, z_mtrue, slots_nil, slots_im, slots_sl, argsE, updE, List.nodup_nil, List.nodup_cons, List.not_mem_nil, List.mem_singleton, not_false_eq_true, and_self, and_true, List.nil_append, List.append_nil, List.cons_append, mtg, Zf.setL, setsE, few, blD_b, truD_b, truD_i, truD_l, truD_t, intL_i, intL_b, seqD_l, seqD_t, seqD_s, seqD_c, negD_i, DS.at, DS.put, DS.row, addD_i, subD_i, eqD_i, neD_i, ltD_i, leD_i, gtD_i, geD_i, eqD_s, neD_s, out_l, out_d, okS_s, okW_nil, okW_cons, okM_no, okM_im, okM_mf, okM_mt, okN_no, okN_im, okN_mu, wipeE, List.all_cons, List.all_nil, Bool.and_true, Bool.true_and, Bool.and_self, decide_true, decide_false, reduceIte, if_true, if_false, List.length_cons, List.length_nil, List.getElem?_cons_zero, List.getElem?_cons_succ, List.set_cons_zero, List.set_cons_succ, List.map_cons, List.map_nil, Bool.false_eq_true, Option.some.injEq, Bool.not_true, Bool.not_false, Nat.reduceAdd, Nat.reduceLT, Nat.reduceLeDiff, z_mpop0, intD_i]; rfl) (by simp) rfl) ?_
    refine sattr_ok (q := true) (fs := [("source", .str (ml (wl rows))), ("want", .str (ml (wl want))), ("error", errW want), ("line", .int line), ("indent", .int indent), ("options", .dct [])]) (d := .str (ml (wl (rows.map (trimR isB))))) (r := R) ?_ (by simp) rfl
    have e6 : mattrO 0 0 "source" (.mu true (.ob 0 [("source", .str (ml (wl rows))), ("want", .str (ml (wl want))), ("error", errW want), ("line", .int line), ("indent", .int indent), ("options", .dct [])]) :: R) = some (.str (ml (wl rows)), .mu true (.ob 0 [("source", .str (ml (wl rows))), ("want", .str (ml (wl want))), ("error", errW want), ("line", .int line), ("indent", .int indent), ("options", .dct [])]) :: R) := rfl
    simp only [z_sseq, z_sset, z_sret, z_sif, z_snx, z_sbk, z_sct, z_sdrop, z_sasg, z_spar, z_sown, z_sfor, z_mop2, z_mc, z_mvar, z_MM_opt, z_MM_map, z_mcons, z_mnil, z_pnil, z_pcim, z_pcow, z_acim, z_acsl, z_anil, z_mif, z_mandB, z_morB, z_mnotB, z_mandV, z_morV, z_mnotV, z_mmeth, z_fmeth, z_fop2, z_mdr, z_mdrNe, z_mdrLen, z_mdrPop, z_sdr, z_mappend, z_mextend, z_mpopAt, z_mlenO, z_mnilO, z_msl, z_mcall, z_saug, z_mmethL, z_sdraws, z_mtrue, slots_nil, slots_im, slots_sl, argsE, updE, List.nodup_nil, List.nodup_cons, List.not_mem_nil, List.mem_singleton, not_false_eq_true, and_self, and_true, List.nil_append, List.append_nil, List.cons_append, mtg, Zf.setL, setsE, few, blD_b, truD_b, truD_i, truD_l, truD_t, intL_i, intL_b, seqD_l, seqD_t, seqD_s, seqD_c, negD_i, DS.at, DS.put, DS.row, addD_i, subD_i, eqD_i, neD_i, ltD_i, leD_i, gtD_i, geD_i, eqD_s, neD_s, out_l, out_d, okS_s, okW_nil, okW_cons, okM_no, okM_im, okM_mf, okM_mt, okN_no, okN_im, okN_mu, wipeE, List.all_cons, List.all_nil, Bool.and_true, Bool.true_and, Bool.and_self, decide_true, decide_false, reduceIte, if_true, if_false, List.length_cons, List.length_nil, List.getElem?_cons_zero, List.getElem?_cons_succ, List.set_cons_zero, List.set_cons_succ, List.map_cons, List.map_nil, Bool.false_eq_true, Option.some.injEq, Bool.not_true, Bool.not_false, Nat.reduceAdd, Nat.reduceLT, Nat.reduceLeDiff, z_mpop0, intD_i, e6, e3]
  subst hR
  exact ⟨_, fnM_nx (n := 8) (args := [.mu true (.ob 0 []), .im (.str (ml (wl rows))), .im (.str (ml (wl want))), .im (errW want), .im (.int line), .im (.int indent), .im (.dct [])]) (m := m_Example___init__) body⟩
end Zz

set_option Elab.async false
set_option linter.all false
set_option maxRecDepth 100000
set_option maxHeartbeats 1000000
/-! texts.py: rows, lines looked over, the piece of lines -/
namespace Zz
open PySem PySem.Spec L2 Zf
theorem rng_at2 {a : Int} {n i : Nat} {x : D} (h : (rngD a n)[i]? = some x) : x = .int (a + i) ∧ i < n := by
  unfold rngD at h
  rw [List.getElem?_map] at h
  obtain ⟨j, hj, rfl⟩ := Option.map_eq_some_iff.mp h
  obtain ⟨h1, h2⟩ := List.getElem?_eq_some_iff.mp hj
  rw [List.length_range] at h1
  rw [List.getElem_range] at h2
  exact ⟨by rw [h2], h1⟩
theorem rng2_nn {a b : Nat} (h : a ≤ 100000) (h2 : b ≤ 100000) : rng2D [.int (a : Int), .int (b : Int)] = some (rngD (a : Int) (b - a)) := by
  show (if _ then _ else _) = _
  rw [if_pos (by omega), show ((b : Int) - (a : Int)).toNat = b - a by omega]
theorem rng2_q {f g : MM D} {E : En} {a b : Nat} (hf : f E = some (.int (a : Int), E)) (hg : g E = some (.int (b : Int), E)) (h : a ≤ 100000) (h2 : b ≤ 100000) : MM.opt (mcons f (mcons g (mnil))) rng2D E = some (rngD (a : Int) (b - a), E) := by
  have := rng2_nn h h2
  simp only [z_sseq, z_sset, z_sret, z_sif, z_snx, z_sbk, z_sct, z_sdrop, z_sasg, z_spar, z_sown, z_sfor, z_mop2, z_mc, z_mvar, z_MM_opt, z_MM_map, z_mcons, z_mnil, z_pnil, z_pcim, z_pcow, z_acim, z_acsl, z_anil, z_mif, z_mandB, z_morB, z_mnotB, z_mandV, z_morV, z_mnotV, z_mmeth, z_fmeth, z_fop2, z_mdr, z_mdrNe, z_mdrLen, z_mdrPop, z_sdr, z_mappend, z_mextend, z_mpopAt, z_mlenO, z_mnilO, z_msl, z_mcall, z_saug, z_mmethL, z_sdraws, z_mtrue, slots_nil, slots_im, slots_sl, argsE, updE, List.nodup_nil, List.nodup_cons, List.not_mem_nil, List.mem_singleton, not_false_eq_true, and_self, and_true, List.nil_append, List.append_nil, List.cons_append, mtg, Zf.setL, setsE, few, blD_b, truD_b, truD_i, truD_l, truD_t, intL_i, intL_b, seqD_l, seqD_t, seqD_s, seqD_c, negD_i, DS.at, DS.put, DS.row, addD_i, subD_i, eqD_i, neD_i, ltD_i, leD_i, gtD_i, geD_i, eqD_s, neD_s, out_l, out_d, okS_s, okW_nil, okW_cons, okM_no, okM_im, okM_mf, okM_mt, okN_no, okN_im, okN_mu, wipeE, List.all_cons, List.all_nil, Bool.and_true, Bool.true_and, Bool.and_self, decide_true, decide_false, reduceIte, if_true, if_false, List.length_cons, List.length_nil, List.getElem?_cons_zero, List.getElem?_cons_succ, List.set_cons_zero, List.set_cons_succ, List.map_cons, List.map_nil, Bool.false_eq_true, Option.some.injEq, Bool.not_true, Bool.not_false, Nat.reduceAdd, Nat.reduceLT, Nat.reduceLeDiff, z_mpop0, intD_i, hf, hg, this]
theorem sl_dl_ab (ls : List (List Nat)) (a b : Nat) (hab : a ≤ b) (hb : b ≤ ls.length) : slD (.lst (dl ls)) (some (a : Int)) (some (b : Int)) = some (.lst (dl ((ls.drop a).take (b - a)))) := by
  show some (D.lst (cutD _ _ _)) = _
  unfold cutD
  rw [HT.sIx_nat, HT.sIx_nat, dl_len, Nat.min_eq_left (show a ≤ ls.length by omega), Nat.min_eq_left hb]
  unfold dl
  rw [List.map_take, List.map_drop]
theorem sl_dl_m1 (A : List (List Nat)) (z : List Nat) : slD (.lst (dl (A ++ [z]))) none (some (-1)) = some (.lst (dl A)) := by
  show some (D.lst (cutD _ _ _)) = _
  unfold cutD HT.sIx
  simp only
  rw [if_pos (by omega), dl_len, List.length_append, List.length_singleton, show (-1 + ((A.length + 1 : Nat) : Int)).toNat = A.length by omega, dl_app, List.drop_zero, Nat.sub_zero]
  congr 2
  exact List.take_left' (dl_len A)
theorem sl_dl_m1' (A : List (List Nat)) (z : List Nat) : slD (.lst (dl (A ++ [z]))) (some (-1)) none = some (.lst (dl [z])) := by
  show some (D.lst (cutD _ _ _)) = _
  unfold cutD HT.sIx
  simp only
  rw [if_pos (by omega), dl_len, List.length_append, List.length_singleton, show (-1 + ((A.length + 1 : Nat) : Int)).toNat = A.length by omega, dl_app, show A.length + 1 - A.length = 1 by omega]
  congr 2
  rw [List.drop_left' (dl_len A)]; rfl
def tl (z : List Nat) : List (List Nat) := if z = [] then [] else [z]
def rowsL (A : List (List Nat)) (z : List Nat) : List (List Nat) := A.map (· ++ [10]) ++ tl z
theorem add_nl (l : List Nat) (h : l.length ≤ 90000) : addD (.str (ml l)) (.str ("\n" : Str)) = some (.str (ml (l ++ [10]))) := by
  rw [addD_s (by rw [ml_len, show ("\n" : Str).length = 1 from rfl]; omega), nl_ml, ml_app]
theorem mem_dl {ls : List (List Nat)} {d : D} (h : d ∈ dl ls) : ∃ l, l ∈ ls ∧ d = .str (ml l) := by
  obtain ⟨l, hl, rfl⟩ := List.mem_map.mp h
  exact ⟨l, hl, rfl⟩
theorem rows_ok (x : List Nat) (A : List (List Nat)) (z : List Nat) (hx : x.length ≤ 80000) (hs : sp 10 x = A ++ [z]) : F_rows_of [.im (.str (ml x))] = some (.lst (dl (rowsL A z)), [.im (.str (ml x))]) := by
  have s0 := split_l x (by omega)
  have hsum := sp_sum 10 x
  rw [hs] at s0 hsum
  have hlen : ∀ l ∈ A ++ [z], l.length ≤ 90000 := fun l hl => by have := mem_sum hl; omega
  have hn : A.length ≤ 80000 := by rw [List.length_append, List.length_singleton] at hsum; omega
  have e1 := sl_dl_m1 A z
  have e2 := sl_dl_m1' A z
  have hneg : negD (.int 1) = some (.int (-1)) := rfl
  have c1 : mlc (.one 2) [2] (MM.opt (msl (mvar 1) (fun env => some (none, env)) (MM.opt (MM.opt (mc (.int 1)) negD) intD)) seqD) (mtrue) (e_rows_of_1) [.im (.str (ml x)), .im (.lst (dl (A ++ [z]))), .no] = some (dl (A.map (· ++ [10])), [.im (.str (ml x)), .im (.lst (dl (A ++ [z]))), .no]) := by
    rw [mlc_m (ds := dl A) (fun d => .str (ml (stL d ++ [10]))) (by simp only [z_sseq, z_sset, z_sret, z_sif, z_snx, z_sbk, z_sct, z_sdrop, z_sasg, z_spar, z_sown, z_sfor, z_mop2, z_mc, z_mvar, z_MM_opt, z_MM_map, z_mcons, z_mnil, z_pnil, z_pcim, z_pcow, z_acim, z_acsl, z_anil, z_mif, z_mandB, z_morB, z_mnotB, z_mandV, z_morV, z_mnotV, z_mmeth, z_fmeth, z_fop2, z_mdr, z_mdrNe, z_mdrLen, z_mdrPop, z_sdr, z_mappend, z_mextend, z_mpopAt, z_mlenO, z_mnilO, z_msl, z_mcall, z_saug, z_mmethL, z_sdraws, z_mtrue, slots_nil, slots_im, slots_sl, argsE, updE, List.nodup_nil, List.nodup_cons, List.not_mem_nil, List.mem_singleton, not_false_eq_true, and_self, and_true, List.nil_append, List.append_nil, List.cons_append, mtg, Zf.setL, setsE, few, blD_b, truD_b, truD_i, truD_l, truD_t, intL_i, intL_b, seqD_l, seqD_t, seqD_s, seqD_c, negD_i, DS.at, DS.put, DS.row, addD_i, subD_i, eqD_i, neD_i, ltD_i, leD_i, gtD_i, geD_i, eqD_s, neD_s, out_l, out_d, okS_s, okW_nil, okW_cons, okM_no, okM_im, okM_mf, okM_mt, okN_no, okN_im, okN_mu, wipeE, List.all_cons, List.all_nil, Bool.and_true, Bool.true_and, Bool.and_self, decide_true, decide_false, reduceIte, if_true, if_false, List.length_cons, List.length_nil, List.getElem?_cons_zero, List.getElem?_cons_succ, List.set_cons_zero, List.set_cons_succ, List.map_cons, List.map_nil, Bool.false_eq_true, Option.some.injEq, Bool.not_true, Bool.not_false, Nat.reduceAdd, Nat.reduceLT, Nat.reduceLeDiff, z_mpop0, intD_i, hneg, e1, seqD]) (by rw [dl_len]; omega) rfl (fun d hd => by
      obtain ⟨l, hl, rfl⟩ := mem_dl hd
      have e3 := add_nl l (hlen l (List.mem_append_left _ hl))
      unfold e_rows_of_1
      simp only [z_sseq, z_sset, z_sret, z_sif, z_snx, z_sbk, z_sct, z_sdrop, z_sasg, z_spar, z_sown, z_sfor, z_mop2, z_mc, z_mvar, z_MM_opt, z_MM_map, z_mcons, z_mnil, z_pnil, z_pcim, z_pcow, z_acim, z_acsl, z_anil, z_mif, z_mandB, z_morB, z_mnotB, z_mandV, z_morV, z_mnotV, z_mmeth, z_fmeth, z_fop2, z_mdr, z_mdrNe, z_mdrLen, z_mdrPop, z_sdr, z_mappend, z_mextend, z_mpopAt, z_mlenO, z_mnilO, z_msl, z_mcall, z_saug, z_mmethL, z_sdraws, z_mtrue, slots_nil, slots_im, slots_sl, argsE, updE, List.nodup_nil, List.nodup_cons, List.not_mem_nil, List.mem_singleton, not_false_eq_true, and_self, and_true, List.nil_append, List.append_nil, List.cons_append, mtg, Zf.setL, setsE, few, blD_b, truD_b, truD_i, truD_l, truD_t, intL_i, intL_b, seqD_l, seqD_t, seqD_s, seqD_c, negD_i, DS.at, DS.put, DS.row, addD_i, subD_i, eqD_i, neD_i, ltD_i, leD_i, gtD_i, geD_i, eqD_s, neD_s, out_l, out_d, okS_s, okW_nil, okW_cons, okM_no, okM_im, okM_mf, okM_mt, okN_no, okN_im, okN_mu, wipeE, List.all_cons, List.all_nil, Bool.and_true, Bool.true_and, Bool.and_self, decide_true, decide_false, reduceIte, if_true, if_false, List.length_cons, List.length_nil, List.getElem?_cons_zero, List.getElem?_cons_succ, List.set_cons_zero, List.set_cons_succ, List.map_cons, List.map_nil, Bool.false_eq_true, Option.some.injEq, Bool.not_true, Bool.not_false, Nat.reduceAdd, Nat.reduceLT, Nat.reduceLeDiff, z_mpop0, intD_i, e3, stL_ml]), map_dl (fun l => l ++ [10])]
  have e4 : neD (.str (ml z)) (.str ("" : Str)) = some (.bl (!z.isEmpty)) := by
    show some (D.bl (!decide (ml z = ("" : Str)))) = _
    rw [nilS]
    cases z <;> rfl
  have c2 : mlc (.one 2) [2] (MM.opt (msl (mvar 1) (MM.opt (MM.opt (mc (.int 1)) negD) intD) (fun env => some (none, env))) seqD) (t_rows_of_2) (mvar 2) [.im (.str (ml x)), .im (.lst (dl (A ++ [z]))), .no] = some (dl (tl z), [.im (.str (ml x)), .im (.lst (dl (A ++ [z]))), .no]) := by
    rw [mlc_fm (ds := dl [z]) (fun d => !(stL d).isEmpty) (fun d => d) (by simp only [z_sseq, z_sset, z_sret, z_sif, z_snx, z_sbk, z_sct, z_sdrop, z_sasg, z_spar, z_sown, z_sfor, z_mop2, z_mc, z_mvar, z_MM_opt, z_MM_map, z_mcons, z_mnil, z_pnil, z_pcim, z_pcow, z_acim, z_acsl, z_anil, z_mif, z_mandB, z_morB, z_mnotB, z_mandV, z_morV, z_mnotV, z_mmeth, z_fmeth, z_fop2, z_mdr, z_mdrNe, z_mdrLen, z_mdrPop, z_sdr, z_mappend, z_mextend, z_mpopAt, z_mlenO, z_mnilO, z_msl, z_mcall, z_saug, z_mmethL, z_sdraws, z_mtrue, slots_nil, slots_im, slots_sl, argsE, updE, List.nodup_nil, List.nodup_cons, List.not_mem_nil, List.mem_singleton, not_false_eq_true, and_self, and_true, List.nil_append, List.append_nil, List.cons_append, mtg, Zf.setL, setsE, few, blD_b, truD_b, truD_i, truD_l, truD_t, intL_i, intL_b, seqD_l, seqD_t, seqD_s, seqD_c, negD_i, DS.at, DS.put, DS.row, addD_i, subD_i, eqD_i, neD_i, ltD_i, leD_i, gtD_i, geD_i, eqD_s, neD_s, out_l, out_d, okS_s, okW_nil, okW_cons, okM_no, okM_im, okM_mf, okM_mt, okN_no, okN_im, okN_mu, wipeE, List.all_cons, List.all_nil, Bool.and_true, Bool.true_and, Bool.and_self, decide_true, decide_false, reduceIte, if_true, if_false, List.length_cons, List.length_nil, List.getElem?_cons_zero, List.getElem?_cons_succ, List.set_cons_zero, List.set_cons_succ, List.map_cons, List.map_nil, Bool.false_eq_true, Option.some.injEq, Bool.not_true, Bool.not_false, Nat.reduceAdd, Nat.reduceLT, Nat.reduceLeDiff, z_mpop0, intD_i, hneg, e2, seqD]) (by simp [dl]) rfl (fun d hd => by
      obtain ⟨l, hl, rfl⟩ := mem_dl hd
      have hl := List.mem_singleton.mp hl
      subst hl
      refine ⟨?_, fun _ => ?_⟩
      · unfold t_rows_of_2
        simp only [z_sseq, z_sset, z_sret, z_sif, z_snx, z_sbk, z_sct, z_sdrop, z_sasg, z_spar, z_sown, z_sfor, z_mop2, z_mc, z_mvar, z_MM_opt, z_MM_map, z_mcons, z_mnil, z_pnil, z_pcim, z_pcow, z_acim, z_acsl, z_anil, z_mif, z_mandB, z_morB, z_mnotB, z_mandV, z_morV, z_mnotV, z_mmeth, z_fmeth, z_fop2, z_mdr, z_mdrNe, z_mdrLen, z_mdrPop, z_sdr, z_mappend, z_mextend, z_mpopAt, z_mlenO, z_mnilO, z_msl, z_mcall, z_saug, z_mmethL, z_sdraws, z_mtrue, slots_nil, slots_im, slots_sl, argsE, updE, List.nodup_nil, List.nodup_cons, List.not_mem_nil, List.mem_singleton, not_false_eq_true, and_self, and_true, List.nil_append, List.append_nil, List.cons_append, mtg, Zf.setL, setsE, few, blD_b, truD_b, truD_i, truD_l, truD_t, intL_i, intL_b, seqD_l, seqD_t, seqD_s, seqD_c, negD_i, DS.at, DS.put, DS.row, addD_i, subD_i, eqD_i, neD_i, ltD_i, leD_i, gtD_i, geD_i, eqD_s, neD_s, out_l, out_d, okS_s, okW_nil, okW_cons, okM_no, okM_im, okM_mf, okM_mt, okN_no, okN_im, okN_mu, wipeE, List.all_cons, List.all_nil, Bool.and_true, Bool.true_and, Bool.and_self, decide_true, decide_false, reduceIte, if_true, if_false, List.length_cons, List.length_nil, List.getElem?_cons_zero, List.getElem?_cons_succ, List.set_cons_zero, List.set_cons_succ, List.map_cons, List.map_nil, Bool.false_eq_true, Option.some.injEq, Bool.not_true, Bool.not_false, Nat.reduceAdd, Nat.reduceLT, Nat.reduceLeDiff, z_mpop0, intD_i, e4, stL_ml]
      · simp only [z_sseq, z_sset, z_sret, z_sif, z_snx, z_sbk, z_sct, z_sdrop, z_sasg, z_spar, z_sown, z_sfor, z_mop2, z_mc, z_mvar, z_MM_opt, z_MM_map, z_mcons, z_mnil, z_pnil, z_pcim, z_pcow, z_acim, z_acsl, z_anil, z_mif, z_mandB, z_morB, z_mnotB, z_mandV, z_morV, z_mnotV, z_mmeth, z_fmeth, z_fop2, z_mdr, z_mdrNe, z_mdrLen, z_mdrPop, z_sdr, z_mappend, z_mextend, z_mpopAt, z_mlenO, z_mnilO, z_msl, z_mcall, z_saug, z_mmethL, z_sdraws, z_mtrue, slots_nil, slots_im, slots_sl, argsE, updE, List.nodup_nil, List.nodup_cons, List.not_mem_nil, List.mem_singleton, not_false_eq_true, and_self, and_true, List.nil_append, List.append_nil, List.cons_append, mtg, Zf.setL, setsE, few, blD_b, truD_b, truD_i, truD_l, truD_t, intL_i, intL_b, seqD_l, seqD_t, seqD_s, seqD_c, negD_i, DS.at, DS.put, DS.row, addD_i, subD_i, eqD_i, neD_i, ltD_i, leD_i, gtD_i, geD_i, eqD_s, neD_s, out_l, out_d, okS_s, okW_nil, okW_cons, okM_no, okM_im, okM_mf, okM_mt, okN_no, okN_im, okN_mu, wipeE, List.all_cons, List.all_nil, Bool.and_true, Bool.true_and, Bool.and_self, decide_true, decide_false, reduceIte, if_true, if_false, List.length_cons, List.length_nil, List.getElem?_cons_zero, List.getElem?_cons_succ, List.set_cons_zero, List.set_cons_succ, List.map_cons, List.map_nil, Bool.false_eq_true, Option.some.injEq, Bool.not_true, Bool.not_false, Nat.reduceAdd, Nat.reduceLT, Nat.reduceLeDiff, z_mpop0, intD_i])]
    rw [List.map_id']
    unfold tl
    by_cases q : z = []
    · subst q; rfl
    · rw [if_neg q]
      have : (dl [z]).filter (fun d => !(stL d).isEmpty) = dl [z] := by
        refine List.filter_eq_self.mpr fun d hd => ?_
        obtain ⟨l, hl, rfl⟩ := mem_dl hd
        have hl := List.mem_singleton.mp hl
        subst hl
        rw [stL_ml]
        cases l with
        | nil => exact absurd rfl q
        | cons c l => rfl
      rw [this]
  have e5 : addD (.lst (dl (A.map (· ++ [10])))) (.lst (dl (tl z))) = some (.lst (dl (rowsL A z))) := by
    have : (dl (A.map (· ++ [10]))).length + (dl (tl z)).length ≤ 1000000 := by
      rw [dl_len, dl_len, List.length_map]
      have : (tl z).length ≤ 1 := by unfold tl; split <;> simp
      omega
    simp only [addD, if_pos this]
    rw [← dl_app]; rfl
  have body : m_rows_of [.im (.str (ml x)), .no, .no] = some (.rt (.lst (dl (rowsL A z))) [.im (.str (ml x)), .im (.lst (dl (A ++ [z]))), .no]) := by
    unfold m_rows_of
    simp only [z_sseq, z_sset, z_sret, z_sif, z_snx, z_sbk, z_sct, z_sdrop, z_sasg, z_spar, z_sown, z_sfor, z_mop2, z_mc, z_mvar, z_MM_opt, z_MM_map, z_mcons, z_mnil, z_pnil, z_pcim, z_pcow, z_acim, z_acsl, z_anil, z_mif, z_mandB, z_morB, z_mnotB, z_mandV, z_morV, z_mnotV, z_mmeth, z_fmeth, z_fop2, z_mdr, z_mdrNe, z_mdrLen, z_mdrPop, z_sdr, z_mappend, z_mextend, z_mpopAt, z_mlenO, z_mnilO, z_msl, z_mcall, z_saug, z_mmethL, z_sdraws, z_mtrue, slots_nil, slots_im, slots_sl, argsE, updE, List.nodup_nil, List.nodup_cons, List.not_mem_nil, List.mem_singleton, not_false_eq_true, and_self, and_true, List.nil_append, List.append_nil, List.cons_append, mtg, Zf.setL, setsE, few, blD_b, truD_b, truD_i, truD_l, truD_t, intL_i, intL_b, seqD_l, seqD_t, seqD_s, seqD_c, negD_i, DS.at, DS.put, DS.row, addD_i, subD_i, eqD_i, neD_i, ltD_i, leD_i, gtD_i, geD_i, eqD_s, neD_s, out_l, out_d, okS_s, okW_nil, okW_cons, okM_no, okM_im, okM_mf, okM_mt, okN_no, okN_im, okN_mu, wipeE, List.all_cons, List.all_nil, Bool.and_true, Bool.true_and, Bool.and_self, decide_true, decide_false, reduceIte, if_true, if_false, List.length_cons, List.length_nil, List.getElem?_cons_zero, List.getElem?_cons_succ, List.set_cons_zero, List.set_cons_succ, List.map_cons, List.map_nil, Bool.false_eq_true, Option.some.injEq, Bool.not_true, Bool.not_false, Nat.reduceAdd, Nat.reduceLT, Nat.reduceLeDiff, z_mpop0, intD_i, s0, c1, c2, e5]
  exact fnM_rt (n := 3) (args := [.im (.str (ml x))]) (m := m_rows_of) body
/-! lines looked over -/
theorem mul32 (i : Nat) (h : i ≤ 100000) : mulD (.str (" " : Str)) (.int (i : Int)) = some (.str (ml (List.replicate i 32))) := by
  have : (" " : Str).length * (i : Int).toNat ≤ 1000000 ∧ (i : Int).natAbs ≤ 2 ^ 60 := by
    rw [show (" " : Str).length = 1 from rfl]
    omega
  simp only [mulD, if_pos this]
  rw [show (" " : Str) = ⟨#[32]⟩ by decide, mul_one, Int.toNat_natCast]
theorem at_i {L : List (List Nat)} {a : Nat} (h : a < L.length) : ∃ l, L[a]? = some l ∧ l ∈ L := ⟨_, List.getElem?_eq_getElem h, List.getElem_mem h⟩
structure Ck (L : List (List Nat)) (b m e i : Nat) : Prop where
  bm : b < m
  me : m ≤ e
  el : e ≤ L.length
  hi : ∀ l, L[b]? = some l → ind l = i
  c1 : ∀ a l, b ≤ a → a < m → L[a]? = some l → (l.drop (i + 3)).take 1 = [] ∨ (l.drop (i + 3)).take 1 = [32]
  c2 : ∀ a l, b < a → a < m → L[a]? = some l → l.take (i + 1) = List.replicate i 32 ++ [46]
  c3 : ∀ a l, m ≤ a → a < e → L[a]? = some l → l.take i = List.replicate i 32
theorem check_ok {L : List (List Nat)} {b m e i : Nat} (c : Ck L b m e i) (hL : L.length ≤ 90000) (hlen : ∀ l ∈ L, l.length ≤ 90000) : F_check_lines [.im (.lst (dl L)), .im (.int (b : Int)), .im (.int (m : Int)), .im (.int (e : Int))] = some (.non, [.im (.lst (dl L)), .im (.int (b : Int)), .im (.int (m : Int)), .im (.int (e : Int))]) := by
  obtain ⟨bm, me, el, hi, c1, c2, c3⟩ := c
  obtain ⟨l0, hl0, hm0⟩ := at_i (L := L) (a := b) (by omega)
  have hil := hi l0 hl0
  have hi9 : i ≤ 90000 := by have := ind_le l0; have := hlen l0 hm0; omega
  have x1 := ix_dl hl0
  have x2 := indent_ok l0 (by have := hlen l0 hm0; omega)
  rw [hil] at x2
  have m1 := mul32 i (by omega)
  have m2 : addD (.str (ml (List.replicate i 32))) (.str ("." : Str)) = some (.str (ml (List.replicate i 32 ++ [46]))) := by
    rw [addD_s (by rw [ml_len, List.length_replicate, show ("." : Str).length = 1 from rfl]; omega), show ("." : Str) = ml [46] by decide, ml_app]
  have r1 := rng2_nn (a := b) (b := m) (by omega) (by omega)
  have r3 := rng2_nn (a := m) (b := e) (by omega) (by omega)
  obtain ⟨e1', f1, t1, ht1, rfl⟩ := forL_inv (t := .one 5) (mb := b_check_lines_1) (fun k E => ∃ t, okM t = true ∧ E = [.im (.lst (dl L)), .im (.int (b : Int)), .im (.int (m : Int)), .im (.int (e : Int)), .im (.int (i : Int)), t]) (rngD (b : Int) (m - b)) 0 [.im (.lst (dl L)), .im (.int (b : Int)), .im (.int (m : Int)), .im (.int (e : Int)), .im (.int (i : Int)), .no] ⟨_, rfl, rfl⟩ (by
    intro k x E hk hp
    obtain ⟨t, ht, rfl⟩ := hp
    obtain ⟨rfl, hkn⟩ := rng_at2 hk
    rw [show (b : Int) + (k : Int) = ((b + k : Nat) : Int) by omega]
    obtain ⟨l, hl, hlm⟩ := at_i (L := L) (a := b + k) (by omega)
    have y1 := ix_dl hl
    have y2 : slD (.str (ml l)) (some ((i : Int) + 3)) (some ((i : Int) + 4)) = some (.str (ml ((l.drop (i + 3)).take 1))) := by
      have := sl_ab l (i + 3) (i + 4) (by have := hlen l hlm; omega) (by omega)
      rw [show i + 4 - (i + 3) = 1 by omega] at this
      rw [show (i : Int) + 3 = ((i + 3 : Nat) : Int) by omega, show (i : Int) + 4 = ((i + 4 : Nat) : Int) by omega]
      exact this
    have y3 : ninD (.str (ml ((l.drop (i + 3)).take 1))) (.tup [.str ("" : Str), .str (" " : Str)]) = some (.bl false) := by
      refine (nin_tup (ml ((l.drop (i + 3)).take 1)) ["", " "]).trans ?_
      rw [decide_eq_true]; rfl
      rcases c1 (b + k) l (by omega) (by omega) hl with h | h <;> rw [h]
      · exact List.mem_cons_self
      · exact List.mem_cons_of_mem _ (List.mem_singleton.mpr rfl)
    have hf : few [.str ("" : Str), .str (" " : Str)] = some [.str ("" : Str), .str (" " : Str)] := rfl
    refine ⟨_, _, (by simp only [z_sseq, z_sset, z_sret, z_sif, z_snx, z_sbk, z_sct, z_sdrop, z_sasg, z_spar, z_sown, z_sfor, z_mop2, z_mc, z_mvar, z_MM_opt, z_MM_map, z_mcons, z_mnil, z_pnil, z_pcim, z_pcow, z_acim, z_acsl, z_anil, z_mif, z_mandB, z_morB, z_mnotB, z_mandV, z_morV, z_mnotV, z_mmeth, z_fmeth, z_fop2, z_mdr, z_mdrNe, z_mdrLen, z_mdrPop, z_sdr, z_mappend, z_mextend, z_mpopAt, z_mlenO, z_mnilO, z_msl, z_mcall, z_saug, z_mmethL, z_sdraws, z_mtrue, slots_nil, slots_im, slots_sl, argsE, updE, List.nodup_nil, List.nodup_cons, List.not_mem_nil, List.mem_singleton, not_false_eq_true, and_self, and_true, List.nil_append, List.append_nil, List.cons_append, mtg, Zf.setL, setsE, few, blD_b, truD_b, truD_i, truD_l, truD_t, intL_i, intL_b, seqD_l, seqD_t, seqD_s, seqD_c, negD_i, DS.at, DS.put, DS.row, addD_i, subD_i, eqD_i, neD_i, ltD_i, leD_i, gtD_i, geD_i, eqD_s, neD_s, out_l, out_d, okS_s, okW_nil, okW_cons, okM_no, okM_im, okM_mf, okM_mt, okN_no, okN_im, okN_mu, wipeE, List.all_cons, List.all_nil, Bool.and_true, Bool.true_and, Bool.and_self, decide_true, decide_false, reduceIte, if_true, if_false, List.length_cons, List.length_nil, List.getElem?_cons_zero, List.getElem?_cons_succ, List.set_cons_zero, List.set_cons_succ, List.map_cons, List.map_nil, Bool.false_eq_true, Option.some.injEq, Bool.not_true, Bool.not_false, Nat.reduceAdd, Nat.reduceLT, Nat.reduceLeDiff, z_mpop0, intD_i, ht] <;> rfl), .inl (by unfold b_check_lines_1; simp only [z_sseq, z_sset, z_sret, z_sif, z_snx, z_sbk, z_sct, z_sdrop, z_sasg, z_spar, z_sown, z_sfor, z_mop2, z_mc, z_mvar, z_MM_opt, z_MM_map, z_mcons, z_mnil, z_pnil, z_pcim, z_pcow, z_acim, z_acsl, z_anil, z_mif, z_mandB, z_morB, z_mnotB, z_mandV, z_morV, z_mnotV, z_mmeth, z_fmeth, z_fop2, z_mdr, z_mdrNe, z_mdrLen, z_mdrPop, z_sdr, z_mappend, z_mextend, z_mpopAt, z_mlenO, z_mnilO, z_msl, z_mcall, z_saug, z_mmethL, z_sdraws, z_mtrue, slots_nil, slots_im, slots_sl, argsE, updE, List.nodup_nil, List.nodup_cons, List.not_mem_nil, List.mem_singleton, not_false_eq_true, and_self, and_true, List.nil_append, List.append_nil, List.cons_append, mtg, Zf.setL, setsE, few, blD_b, truD_b, truD_i, truD_l, truD_t, intL_i, intL_b, seqD_l, seqD_t, seqD_s, seqD_c, negD_i, DS.at, DS.put, DS.row, addD_i, subD_i, eqD_i, neD_i, ltD_i, leD_i, gtD_i, geD_i, eqD_s, neD_s, out_l, out_d, okS_s, okW_nil, okW_cons, okM_no, okM_im, okM_mf, okM_mt, okN_no, okN_im, okN_mu, wipeE, List.all_cons, List.all_nil, Bool.and_true, Bool.true_and, Bool.and_self, decide_true, decide_false, reduceIte, if_true, if_false, List.length_cons, List.length_nil, List.getElem?_cons_zero, List.getElem?_cons_succ, List.set_cons_zero, List.set_cons_succ, List.map_cons, List.map_nil, Bool.false_eq_true, Option.some.injEq, Bool.not_true, Bool.not_false, Nat.reduceAdd, Nat.reduceLT, Nat.reduceLeDiff, z_mpop0, intD_i, y1, y2, y3, hf] <;> rfl), _, okM_im, rfl⟩)
  obtain ⟨e2', f2, t2, ht2, rfl⟩ := forL_inv (t := .one 5) (mb := b_check_lines_2) (fun k E => ∃ t, okM t = true ∧ E = [.im (.lst (dl L)), .im (.int (b : Int)), .im (.int (m : Int)), .im (.int (e : Int)), .im (.int (i : Int)), t]) (rngD ((b + 1 : Nat) : Int) (m - (b + 1))) 0 [.im (.lst (dl L)), .im (.int (b : Int)), .im (.int (m : Int)), .im (.int (e : Int)), .im (.int (i : Int)), t1] ⟨_, ht1, rfl⟩ (by
    intro k x E hk hp
    obtain ⟨t, ht, rfl⟩ := hp
    obtain ⟨rfl, hkn⟩ := rng_at2 hk
    rw [show ((b + 1 : Nat) : Int) + (k : Int) = ((b + 1 + k : Nat) : Int) by omega]
    obtain ⟨l, hl, hlm⟩ := at_i (L := L) (a := b + 1 + k) (by omega)
    have y1 := ix_dl hl
    have y2 := startsD l (List.replicate i 32 ++ [46])
    rw [List.length_append, List.length_replicate, List.length_singleton, decide_eq_true (c2 _ l (by omega) (by omega) hl)] at y2
    refine ⟨_, _, (by simp only [z_sseq, z_sset, z_sret, z_sif, z_snx, z_sbk, z_sct, z_sdrop, z_sasg, z_spar, z_sown, z_sfor, z_mop2, z_mc, z_mvar, z_MM_opt, z_MM_map, z_mcons, z_mnil, z_pnil, z_pcim, z_pcow, z_acim, z_acsl, z_anil, z_mif, z_mandB, z_morB, z_mnotB, z_mandV, z_morV, z_mnotV, z_mmeth, z_fmeth, z_fop2, z_mdr, z_mdrNe, z_mdrLen, z_mdrPop, z_sdr, z_mappend, z_mextend, z_mpopAt, z_mlenO, z_mnilO, z_msl, z_mcall, z_saug, z_mmethL, z_sdraws, z_mtrue, slots_nil, slots_im, slots_sl, argsE, updE, List.nodup_nil, List.nodup_cons, List.not_mem_nil, List.mem_singleton, not_false_eq_true, and_self, and_true, List.nil_append, List.append_nil, List.cons_append, mtg, Zf.setL, setsE, few, blD_b, truD_b, truD_i, truD_l, truD_t, intL_i, intL_b, seqD_l, seqD_t, seqD_s, seqD_c, negD_i, DS.at, DS.put, DS.row, addD_i, subD_i, eqD_i, neD_i, ltD_i, leD_i, gtD_i, geD_i, eqD_s, neD_s, out_l, out_d, okS_s, okW_nil, okW_cons, okM_no, okM_im, okM_mf, okM_mt, okN_no, okN_im, okN_mu, wipeE, List.all_cons, List.all_nil, Bool.and_true, Bool.true_and, Bool.and_self, decide_true, decide_false, reduceIte, if_true, if_false, List.length_cons, List.length_nil, List.getElem?_cons_zero, List.getElem?_cons_succ, List.set_cons_zero, List.set_cons_succ, List.map_cons, List.map_nil, Bool.false_eq_true, Option.some.injEq, Bool.not_true, Bool.not_false, Nat.reduceAdd, Nat.reduceLT, Nat.reduceLeDiff, z_mpop0, intD_i, ht] <;> rfl), .inl (by unfold b_check_lines_2; simp only [z_sseq, z_sset, z_sret, z_sif, z_snx, z_sbk, z_sct, z_sdrop, z_sasg, z_spar, z_sown, z_sfor, z_mop2, z_mc, z_mvar, z_MM_opt, z_MM_map, z_mcons, z_mnil, z_pnil, z_pcim, z_pcow, z_acim, z_acsl, z_anil, z_mif, z_mandB, z_morB, z_mnotB, z_mandV, z_morV, z_mnotV, z_mmeth, z_fmeth, z_fop2, z_mdr, z_mdrNe, z_mdrLen, z_mdrPop, z_sdr, z_mappend, z_mextend, z_mpopAt, z_mlenO, z_mnilO, z_msl, z_mcall, z_saug, z_mmethL, z_sdraws, z_mtrue, slots_nil, slots_im, slots_sl, argsE, updE, List.nodup_nil, List.nodup_cons, List.not_mem_nil, List.mem_singleton, not_false_eq_true, and_self, and_true, List.nil_append, List.append_nil, List.cons_append, mtg, Zf.setL, setsE, few, blD_b, truD_b, truD_i, truD_l, truD_t, intL_i, intL_b, seqD_l, seqD_t, seqD_s, seqD_c, negD_i, DS.at, DS.put, DS.row, addD_i, subD_i, eqD_i, neD_i, ltD_i, leD_i, gtD_i, geD_i, eqD_s, neD_s, out_l, out_d, okS_s, okW_nil, okW_cons, okM_no, okM_im, okM_mf, okM_mt, okN_no, okN_im, okN_mu, wipeE, List.all_cons, List.all_nil, Bool.and_true, Bool.true_and, Bool.and_self, decide_true, decide_false, reduceIte, if_true, if_false, List.length_cons, List.length_nil, List.getElem?_cons_zero, List.getElem?_cons_succ, List.set_cons_zero, List.set_cons_succ, List.map_cons, List.map_nil, Bool.false_eq_true, Option.some.injEq, Bool.not_true, Bool.not_false, Nat.reduceAdd, Nat.reduceLT, Nat.reduceLeDiff, z_mpop0, intD_i, y1, y2, m1, m2] <;> rfl), _, okM_im, rfl⟩)
  obtain ⟨e3', f3, t3, ht3, rfl⟩ := forL_inv (t := .one 5) (mb := b_check_lines_3) (fun k E => ∃ t, okM t = true ∧ E = [.im (.lst (dl L)), .im (.int (b : Int)), .im (.int (m : Int)), .im (.int (e : Int)), .im (.int (i : Int)), t]) (rngD (m : Int) (e - m)) 0 [.im (.lst (dl L)), .im (.int (b : Int)), .im (.int (m : Int)), .im (.int (e : Int)), .im (.int (i : Int)), t2] ⟨_, ht2, rfl⟩ (by
    intro k x E hk hp
    obtain ⟨t, ht, rfl⟩ := hp
    obtain ⟨rfl, hkn⟩ := rng_at2 hk
    rw [show (m : Int) + (k : Int) = ((m + k : Nat) : Int) by omega]
    obtain ⟨l, hl, hlm⟩ := at_i (L := L) (a := m + k) (by omega)
    have y1 := ix_dl hl
    have y2 := startsD l (List.replicate i 32)
    rw [List.length_replicate, decide_eq_true (c3 _ l (by omega) (by omega) hl)] at y2
    refine ⟨_, _, (by simp only [z_sseq, z_sset, z_sret, z_sif, z_snx, z_sbk, z_sct, z_sdrop, z_sasg, z_spar, z_sown, z_sfor, z_mop2, z_mc, z_mvar, z_MM_opt, z_MM_map, z_mcons, z_mnil, z_pnil, z_pcim, z_pcow, z_acim, z_acsl, z_anil, z_mif, z_mandB, z_morB, z_mnotB, z_mandV, z_morV, z_mnotV, z_mmeth, z_fmeth, z_fop2, z_mdr, z_mdrNe, z_mdrLen, z_mdrPop, z_sdr, z_mappend, z_mextend, z_mpopAt, z_mlenO, z_mnilO, z_msl, z_mcall, z_saug, z_mmethL, z_sdraws, z_mtrue, slots_nil, slots_im, slots_sl, argsE, updE, List.nodup_nil, List.nodup_cons, List.not_mem_nil, List.mem_singleton, not_false_eq_true, and_self, and_true, List.nil_append, List.append_nil, List.cons_append, mtg, Zf.setL, setsE, few, blD_b, truD_b, truD_i, truD_l, truD_t, intL_i, intL_b, seqD_l, seqD_t, seqD_s, seqD_c, negD_i, DS.at, DS.put, DS.row, addD_i, subD_i, eqD_i, neD_i, ltD_i, leD_i, gtD_i, geD_i, eqD_s, neD_s, out_l, out_d, okS_s, okW_nil, okW_cons, okM_no, okM_im, okM_mf, okM_mt, okN_no, okN_im, okN_mu, wipeE, List.all_cons, List.all_nil, Bool.and_true, Bool.true_and, Bool.and_self, decide_true, decide_false, reduceIte, if_true, if_false, List.length_cons, List.length_nil, List.getElem?_cons_zero, List.getElem?_cons_succ, List.set_cons_zero, List.set_cons_succ, List.map_cons, List.map_nil, Bool.false_eq_true, Option.some.injEq, Bool.not_true, Bool.not_false, Nat.reduceAdd, Nat.reduceLT, Nat.reduceLeDiff, z_mpop0, intD_i, ht] <;> rfl), .inl (by unfold b_check_lines_3; simp only [z_sseq, z_sset, z_sret, z_sif, z_snx, z_sbk, z_sct, z_sdrop, z_sasg, z_spar, z_sown, z_sfor, z_mop2, z_mc, z_mvar, z_MM_opt, z_MM_map, z_mcons, z_mnil, z_pnil, z_pcim, z_pcow, z_acim, z_acsl, z_anil, z_mif, z_mandB, z_morB, z_mnotB, z_mandV, z_morV, z_mnotV, z_mmeth, z_fmeth, z_fop2, z_mdr, z_mdrNe, z_mdrLen, z_mdrPop, z_sdr, z_mappend, z_mextend, z_mpopAt, z_mlenO, z_mnilO, z_msl, z_mcall, z_saug, z_mmethL, z_sdraws, z_mtrue, slots_nil, slots_im, slots_sl, argsE, updE, List.nodup_nil, List.nodup_cons, List.not_mem_nil, List.mem_singleton, not_false_eq_true, and_self, and_true, List.nil_append, List.append_nil, List.cons_append, mtg, Zf.setL, setsE, few, blD_b, truD_b, truD_i, truD_l, truD_t, intL_i, intL_b, seqD_l, seqD_t, seqD_s, seqD_c, negD_i, DS.at, DS.put, DS.row, addD_i, subD_i, eqD_i, neD_i, ltD_i, leD_i, gtD_i, geD_i, eqD_s, neD_s, out_l, out_d, okS_s, okW_nil, okW_cons, okM_no, okM_im, okM_mf, okM_mt, okN_no, okN_im, okN_mu, wipeE, List.all_cons, List.all_nil, Bool.and_true, Bool.true_and, Bool.and_self, decide_true, decide_false, reduceIte, if_true, if_false, List.length_cons, List.length_nil, List.getElem?_cons_zero, List.getElem?_cons_succ, List.set_cons_zero, List.set_cons_succ, List.map_cons, List.map_nil, Bool.false_eq_true, Option.some.injEq, Bool.not_true, Bool.not_false, Nat.reduceAdd, Nat.reduceLT, Nat.reduceLeDiff, z_mpop0, intD_i, y1, y2, m1] <;> rfl), _, okM_im, rfl⟩)
  have body : m_check_lines [.im (.lst (dl L)), .im (.int (b : Int)), .im (.int (m : Int)), .im (.int (e : Int)), .no, .no] = some (.nx [.im (.lst (dl L)), .im (.int (b : Int)), .im (.int (m : Int)), .im (.int (e : Int)), .im (.int (i : Int)), t3]) := by
    unfold m_check_lines
    refine sseq_nx (e1 := [.im (.lst (dl L)), .im (.int (b : Int)), .im (.int (m : Int)), .im (.int (e : Int)), .im (.int (i : Int)), .no]) (by simp only [z_sseq, z_sset, z_sret, z_sif, z_snx, z_sbk, z_sct, z_sdrop, z_sasg, z_spar, z_sown, z_sfor, z_mop2, z_mc, z_mvar, z_MM_opt, z_MM_map, z_mcons, z_mnil, z_pnil, z_pcim, z_pcow, z_acim, z_acsl, z_anil, z_mif, z_mandB, z_morB, z_mnotB, z_mandV, z_morV, z_mnotV, z_mmeth, z_fmeth, z_fop2, z_mdr, z_mdrNe, z_mdrLen, z_mdrPop, z_sdr, z_mappend, z_mextend, z_mpopAt, z_mlenO, z_mnilO, z_msl, z_mcall, z_saug, z_mmethL, z_sdraws, z_mtrue, slots_nil, slots_im, slots_sl, argsE, updE, List.nodup_nil, List.nodup_cons, List.not_mem_nil, List.mem_singleton, not_false_eq_true, and_self, and_true, List.nil_append, List.append_nil, List.cons_append, mtg, Zf.setL, setsE, few, blD_b, truD_b, truD_i, truD_l, truD_t, intL_i, intL_b, seqD_l, seqD_t, seqD_s, seqD_c, negD_i, DS.at, DS.put, DS.row, addD_i, subD_i, eqD_i, neD_i, ltD_i, leD_i, gtD_i, geD_i, eqD_s, neD_s, out_l, out_d, okS_s, okW_nil, okW_cons, okM_no, okM_im, okM_mf, okM_mt, okN_no, okN_im, okN_mu, wipeE, List.all_cons, List.all_nil, Bool.and_true, Bool.true_and, Bool.and_self, decide_true, decide_false, reduceIte, if_true, if_false, List.length_cons, List.length_nil, List.getElem?_cons_zero, List.getElem?_cons_succ, List.set_cons_zero, List.set_cons_succ, List.map_cons, List.map_nil, Bool.false_eq_true, Option.some.injEq, Bool.not_true, Bool.not_false, Nat.reduceAdd, Nat.reduceLT, Nat.reduceLeDiff, z_mpop0, intD_i, x1, x2]) ?_
    refine sseq_nx (e1 := [.im (.lst (dl L)), .im (.int (b : Int)), .im (.int (m : Int)), .im (.int (e : Int)), .im (.int (i : Int)), t1]) (by simp only [z_sseq, z_sset, z_sret, z_sif, z_snx, z_sbk, z_sct, z_sdrop, z_sasg, z_spar, z_sown, z_sfor, z_mop2, z_mc, z_mvar, z_MM_opt, z_MM_map, z_mcons, z_mnil, z_pnil, z_pcim, z_pcow, z_acim, z_acsl, z_anil, z_mif, z_mandB, z_morB, z_mnotB, z_mandV, z_morV, z_mnotV, z_mmeth, z_fmeth, z_fop2, z_mdr, z_mdrNe, z_mdrLen, z_mdrPop, z_sdr, z_mappend, z_mextend, z_mpopAt, z_mlenO, z_mnilO, z_msl, z_mcall, z_saug, z_mmethL, z_sdraws, z_mtrue, slots_nil, slots_im, slots_sl, argsE, updE, List.nodup_nil, List.nodup_cons, List.not_mem_nil, List.mem_singleton, not_false_eq_true, and_self, and_true, List.nil_append, List.append_nil, List.cons_append, mtg, Zf.setL, setsE, few, blD_b, truD_b, truD_i, truD_l, truD_t, intL_i, intL_b, seqD_l, seqD_t, seqD_s, seqD_c, negD_i, DS.at, DS.put, DS.row, addD_i, subD_i, eqD_i, neD_i, ltD_i, leD_i, gtD_i, geD_i, eqD_s, neD_s, out_l, out_d, okS_s, okW_nil, okW_cons, okM_no, okM_im, okM_mf, okM_mt, okN_no, okN_im, okN_mu, wipeE, List.all_cons, List.all_nil, Bool.and_true, Bool.true_and, Bool.and_self, decide_true, decide_false, reduceIte, if_true, if_false, List.length_cons, List.length_nil, List.getElem?_cons_zero, List.getElem?_cons_succ, List.set_cons_zero, List.set_cons_succ, List.map_cons, List.map_nil, Bool.false_eq_true, Option.some.injEq, Bool.not_true, Bool.not_false, Nat.reduceAdd, Nat.reduceLT, Nat.reduceLeDiff, z_mpop0, intD_i, r1, f1]) ?_
    refine sseq_nx (e1 := [.im (.lst (dl L)), .im (.int (b : Int)), .im (.int (m : Int)), .im (.int (e : Int)), .im (.int (i : Int)), t2]) (by rw [z_sfor, rng2_q (a := b + 1) (b := m) rfl rfl (by omega) (by omega)]; exact f2) ?_
    simp only [z_sseq, z_sset, z_sret, z_sif, z_snx, z_sbk, z_sct, z_sdrop, z_sasg, z_spar, z_sown, z_sfor, z_mop2, z_mc, z_mvar, z_MM_opt, z_MM_map, z_mcons, z_mnil, z_pnil, z_pcim, z_pcow, z_acim, z_acsl, z_anil, z_mif, z_mandB, z_morB, z_mnotB, z_mandV, z_morV, z_mnotV, z_mmeth, z_fmeth, z_fop2, z_mdr, z_mdrNe, z_mdrLen, z_mdrPop, z_sdr, z_mappend, z_mextend, z_mpopAt, z_mlenO, z_mnilO, z_msl, z_mcall, z_saug, z_mmethL, z_sdraws, z_mtrue, slots_nil, slots_im, slots_sl, argsE, updE, List.nodup_nil, List.nodup_cons, List.not_mem_nil, List.mem_singleton, not_false_eq_true, and_self, and_true, List.nil_append, List.append_nil, List.cons_append, mtg, Zf.setL, setsE, few, blD_b, truD_b, truD_i, truD_l, truD_t, intL_i, intL_b, seqD_l, seqD_t, seqD_s, seqD_c, negD_i, DS.at, DS.put, DS.row, addD_i, subD_i, eqD_i, neD_i, ltD_i, leD_i, gtD_i, geD_i, eqD_s, neD_s, out_l, out_d, okS_s, okW_nil, okW_cons, okM_no, okM_im, okM_mf, okM_mt, okN_no, okN_im, okN_mu, wipeE, List.all_cons, List.all_nil, Bool.and_true, Bool.true_and, Bool.and_self, decide_true, decide_false, reduceIte, if_true, if_false, List.length_cons, List.length_nil, List.getElem?_cons_zero, List.getElem?_cons_succ, List.set_cons_zero, List.set_cons_succ, List.map_cons, List.map_nil, Bool.false_eq_true, Option.some.injEq, Bool.not_true, Bool.not_false, Nat.reduceAdd, Nat.reduceLT, Nat.reduceLeDiff, z_mpop0, intD_i, r3, f3]
  exact fnM_nx (n := 6) (args := [.im (.lst (dl L)), .im (.int (b : Int)), .im (.int (m : Int)), .im (.int (e : Int))]) (m := m_check_lines) body
end Zz

set_option Elab.async false
set_option linter.all false
set_option maxRecDepth 100000
set_option maxHeartbeats 1000000
/-! texts.py: the piece of lines -/
namespace Zz
open PySem PySem.Spec L2 Zf
theorem z_mmake (c np nk : Nat) (arr : List D → List D → List D) (F : FM) (ma mk : MM (List D)) (env : En) : mmake c np nk arr F ma mk env = (match ma env with
  | some (ds, e1) => (match mk e1 with
    | some (zs, e2) => if ds.length = np ∧ zs.length = nk then (match F (.mu true (.ob c []) :: (arr ds zs).map .im) with
      | some (.non, .mu true (.ob c' fs) :: _) => some (.obj c' fs, e2)
      | _ => none) else none
    | none => none)
  | none => none) := rfl
theorem mmake_ok {c np nk : Nat} {F : FM} {ma mk : MM (List D)} {env e1 e2 : En} {ds zs : List D} {fs : List (Str × D)} {r : En} {c' : Nat} (h1 : ma env = some (ds, e1)) (h2 : mk e1 = some (zs, e2)) (hn : ds.length = np ∧ zs.length = nk) (h3 : F (.mu true (.ob c []) :: (ds ++ zs).map .im) = some (.non, .mu true (.ob c' fs) :: r)) : mmake c np nk (fun ds es => ds ++ es) F ma mk env = some (.obj c' fs, e2) := by
  rw [z_mmake, h1]
  dsimp only
  rw [h2]
  dsimp only
  rw [if_pos hn, h3]
/-- an example made of lines -/
def exaL (rows want : List (List Nat)) (line indent : Int) : D := .obj 0 [("source", .str (ml (wl rows))), ("want", .str (ml (wl want))), ("error", errW want), ("line", .int line), ("indent", .int indent), ("options", .dct []), ("bare", .str (ml (wl (rows.map (trimR isB)))))]
/-- a row of comments alone -/
def comR (l : List Nat) : Bool := !nb l || decide ((l.dropWhile isB).take 1 = [35])
theorem sum_part (L : List (List Nat)) (a n : Nat) : (((L.drop a).take n).map List.length).sum ≤ (L.map List.length).sum := by
  have h1 : (L.map List.length).sum = ((L.take a).map List.length).sum + ((L.drop a).map List.length).sum := by
    conv => lhs; rw [← List.take_append_drop a L, List.map_append, List.sum_append]
  have h2 : ((L.drop a).map List.length).sum = (((L.drop a).take n).map List.length).sum + (((L.drop a).drop n).map List.length).sum := by
    conv => lhs; rw [← List.take_append_drop n (L.drop a), List.map_append, List.sum_append]
  omega
theorem wl_map_len (f : List Nat → List Nat) (hf : ∀ p, (f p).length ≤ p.length) (L : List (List Nat)) (a n : Nat) : (wl (((L.drop a).take n).map f)).length ≤ (L.map List.length).sum + L.length := by
  have h1 := sum_map_le hf ((L.drop a).take n)
  have h2 := sum_part L a n
  rw [wl_len, List.length_map]
  have : ((L.drop a).take n).length ≤ L.length := by rw [List.length_take, List.length_drop]; omega
  omega
theorem join_wl (ls : List (List Nat)) (h : (wl ls).length ≤ 1000000) : joinM ("" : Str) [.lst (dl (ls.map (· ++ [10])))] = some (.str (ml (wl ls))) := by
  rw [join_0]
  · rfl
  · refine Nat.le_trans (Nat.le_of_eq ?_) h
    unfold wl
    rw [List.length_flatten]
theorem map_dl2 (f g : List Nat → List Nat) (ls : List (List Nat)) : (dl ls).map (fun d => D.str (ml (g (f (stL d))))) = dl ((ls.map f).map g) := by
  unfold dl
  rw [List.map_map, List.map_map, List.map_map]; rfl
structure Pc (L : List (List Nat)) (b m e i : Nat) (rows want : List (List Nat)) : Prop where
  ck : Ck L b m e i
  rw : rows = ((L.drop b).take (m - b)).map (List.drop (i + 4))
  wt : want = ((L.drop m).take (e - m)).map (List.drop i)
  nd : ∀ p ∈ rows, ND p
  ex : ∃ p ∈ rows, comR p = false
theorem comR_ok (l : List Nat) (h9 : 9 ∉ l) (h : l.length ≤ 90000) (E : En) (hE : E[10]? = some (.im (.str (ml l)))) : e_piece_of_4 E = some (.bl (comR l), E) := by
  have e1 := blank_ok l h9 (by omega)
  have e2 := lsB l (by omega)
  have e3 := startsD (l.dropWhile isB) [35]
  rw [show ml [35] = ("#" : Str) by decide] at e3
  have e3 : startsM (ml (l.dropWhile isB)) [.str ("#" : Str)] = some (.bl (decide ((l.dropWhile isB).take 1 = [35]))) := e3
  have hu : (E.set 10 (.im (.str (ml l)))) = E := by
    have hlt := (List.getElem?_eq_some_iff.mp hE)
    obtain ⟨h1, h2⟩ := hlt
    rw [← h2, List.set_getElem_self]
  have c1 : mcall F_is_blank [] (acim (mvar 10) (anil)) E = some (.bl (!nb l), E) := by
    simp only [z_sseq, z_sset, z_sret, z_sif, z_snx, z_sbk, z_sct, z_sdrop, z_sasg, z_spar, z_sown, z_sfor, z_mop2, z_mc, z_mvar, z_MM_opt, z_MM_map, z_mcons, z_mnil, z_pnil, z_pcim, z_pcow, z_acim, z_acsl, z_anil, z_mif, z_mandB, z_morB, z_mnotB, z_mandV, z_morV, z_mnotV, z_mmeth, z_fmeth, z_fop2, z_mdr, z_mdrNe, z_mdrLen, z_mdrPop, z_sdr, z_mappend, z_mextend, z_mpopAt, z_mlenO, z_mnilO, z_msl, z_mcall, z_saug, z_mmethL, z_sdraws, z_mtrue, slots_nil, slots_im, slots_sl, argsE, updE, List.nodup_nil, List.nodup_cons, List.not_mem_nil, List.mem_singleton, not_false_eq_true, and_self, and_true, List.nil_append, List.append_nil, List.cons_append, mtg, Zf.setL, setsE, few, blD_b, truD_b, truD_i, truD_l, truD_t, intL_i, intL_b, seqD_l, seqD_t, seqD_s, seqD_c, negD_i, DS.at, DS.put, DS.row, addD_i, subD_i, eqD_i, neD_i, ltD_i, leD_i, gtD_i, geD_i, eqD_s, neD_s, out_l, out_d, okS_s, okW_nil, okW_cons, okM_no, okM_im, okM_mf, okM_mt, okN_no, okN_im, okN_mu, wipeE, List.all_cons, List.all_nil, Bool.and_true, Bool.true_and, Bool.and_self, decide_true, decide_false, reduceIte, if_true, if_false, List.length_cons, List.length_nil, List.getElem?_cons_zero, List.getElem?_cons_succ, List.set_cons_zero, List.set_cons_succ, List.map_cons, List.map_nil, Bool.false_eq_true, Option.some.injEq, Bool.not_true, Bool.not_false, Nat.reduceAdd, Nat.reduceLT, Nat.reduceLeDiff, z_mpop0, intD_i, hE, e1]
  have c2 : mmeth startsM (mmeth (stripM Txt.lstripChars) (mvar 10) (mcons (mc (.str " \t")) (mnil))) (mcons (mc (.str "#")) (mnil)) E = some (.bl (decide ((l.dropWhile isB).take 1 = [35])), E) := by
    simp only [z_sseq, z_sset, z_sret, z_sif, z_snx, z_sbk, z_sct, z_sdrop, z_sasg, z_spar, z_sown, z_sfor, z_mop2, z_mc, z_mvar, z_MM_opt, z_MM_map, z_mcons, z_mnil, z_pnil, z_pcim, z_pcow, z_acim, z_acsl, z_anil, z_mif, z_mandB, z_morB, z_mnotB, z_mandV, z_morV, z_mnotV, z_mmeth, z_fmeth, z_fop2, z_mdr, z_mdrNe, z_mdrLen, z_mdrPop, z_sdr, z_mappend, z_mextend, z_mpopAt, z_mlenO, z_mnilO, z_msl, z_mcall, z_saug, z_mmethL, z_sdraws, z_mtrue, slots_nil, slots_im, slots_sl, argsE, updE, List.nodup_nil, List.nodup_cons, List.not_mem_nil, List.mem_singleton, not_false_eq_true, and_self, and_true, List.nil_append, List.append_nil, List.cons_append, mtg, Zf.setL, setsE, few, blD_b, truD_b, truD_i, truD_l, truD_t, intL_i, intL_b, seqD_l, seqD_t, seqD_s, seqD_c, negD_i, DS.at, DS.put, DS.row, addD_i, subD_i, eqD_i, neD_i, ltD_i, leD_i, gtD_i, geD_i, eqD_s, neD_s, out_l, out_d, okS_s, okW_nil, okW_cons, okM_no, okM_im, okM_mf, okM_mt, okN_no, okN_im, okN_mu, wipeE, List.all_cons, List.all_nil, Bool.and_true, Bool.true_and, Bool.and_self, decide_true, decide_false, reduceIte, if_true, if_false, List.length_cons, List.length_nil, List.getElem?_cons_zero, List.getElem?_cons_succ, List.set_cons_zero, List.set_cons_succ, List.map_cons, List.map_nil, Bool.false_eq_true, Option.some.injEq, Bool.not_true, Bool.not_false, Nat.reduceAdd, Nat.reduceLT, Nat.reduceLeDiff, z_mpop0, intD_i, hE, e2, e3]
  unfold e_piece_of_4 comR morV
  cases q : nb l with
  | true => rw [q] at c1; rw [c1]; exact c2
  | false => rw [q] at c1; rw [c1]; rfl
theorem piece_ok {L : List (List Nat)} {b m e i : Nat} {rows want : List (List Nat)} (c : Pc L b m e i rows want) (hS : (L.map List.length).sum + L.length ≤ 70000) (h9 : ∀ l ∈ L, 9 ∉ l) (h10 : ∀ l ∈ L, 10 ∉ l) : F_piece_of [.im (.lst (dl L)), .im (.int (b : Int)), .im (.int (m : Int)), .im (.int (e : Int))] = some (exaL rows want ((b : Int) + 1) (i : Int), [.im (.lst (dl L)), .im (.int (b : Int)), .im (.int (m : Int)), .im (.int (e : Int))]) := by
  obtain ⟨ck, hrw, hwt, hnd, hex⟩ := c
  have hlen : ∀ l ∈ L, l.length ≤ 70000 := fun l hl => by have := mem_sum hl; omega
  have k0 := check_ok ck (by omega) (fun l hl => by have := hlen l hl; omega)
  obtain ⟨bm, me, el, hi, c1, c2, c3⟩ := ck
  obtain ⟨l0, hl0, hm0⟩ := at_i (L := L) (a := b) (by omega)
  have hil := hi l0 hl0
  have hi9 : i ≤ 70000 := by have := ind_le l0; have := hlen l0 hm0; omega
  have x1 := ix_dl hl0
  have x2 := indent_ok l0 (by have := hlen l0 hm0; omega)
  rw [hil] at x2
  have s1 := sl_dl_ab L b m (by omega) (by omega)
  have s2 := sl_dl_ab L m e me el
  have hsub : ∀ a n, ∀ l ∈ (L.drop a).take n, l ∈ L := fun a n l hl => List.mem_of_mem_drop (List.mem_of_mem_take hl)
  have rsub : ∀ p ∈ rows, 10 ∉ p ∧ 9 ∉ p ∧ p.length ≤ 70000 := fun p hp => by
    rw [hrw] at hp
    obtain ⟨l, hl, rfl⟩ := List.mem_map.mp hp
    have hl := hsub _ _ l hl
    exact ⟨fun z => h10 l hl (List.mem_of_mem_drop z), fun z => h9 l hl (List.mem_of_mem_drop z), by rw [List.length_drop]; have := hlen l hl; omega⟩
  have wsub : ∀ p ∈ want, 10 ∉ p ∧ p.length ≤ 70000 := fun p hp => by
    rw [hwt] at hp
    obtain ⟨l, hl, rfl⟩ := List.mem_map.mp hp
    have hl := hsub _ _ l hl
    exact ⟨fun z => h10 l hl (List.mem_of_mem_drop z), by rw [List.length_drop]; have := hlen l hl; omega⟩
  have rlen : (wl rows).length ≤ 70000 := by
    rw [hrw]
    have := wl_map_len (List.drop (i + 4)) (fun p => by rw [List.length_drop]; omega) L b (m - b)
    omega
  have wlen : (wl want).length ≤ 70000 := by
    rw [hwt]
    have := wl_map_len (List.drop i) (fun p => by rw [List.length_drop]; omega) L m (e - m)
    omega
  have rne : rows ≠ [] := by
    obtain ⟨p, hp, _⟩ := hex
    exact List.ne_nil_of_mem hp
  have rnum : rows.length ≤ 70000 := by rw [wl_len] at rlen; omega
  obtain ⟨B, hB⟩ : ∃ B : En, B = [.im (.lst (dl L)), .im (.int (b : Int)), .im (.int (m : Int)), .im (.int (e : Int)), .im (.int (i : Int))] := ⟨_, rfl⟩
  have d1 : mlc (.one 9) [9] (MM.opt (msl (mvar 0) (MM.opt (mvar 1) intD) (MM.opt (mvar 2) intD)) seqD) (mtrue) (e_piece_of_1) [.im (.lst (dl L)), .im (.int (b : Int)), .im (.int (m : Int)), .im (.int (e : Int)), .im (.int (i : Int)), .no, .no, .no, .no, .no, .no] = some (dl rows, [.im (.lst (dl L)), .im (.int (b : Int)), .im (.int (m : Int)), .im (.int (e : Int)), .im (.int (i : Int)), .no, .no, .no, .no, .no, .no]) := by
    rw [mlc_m (ds := dl ((L.drop b).take (m - b))) (fun d => .str (ml ((stL d).drop (i + 4)))) (by simp only [z_sseq, z_sset, z_sret, z_sif, z_snx, z_sbk, z_sct, z_sdrop, z_sasg, z_spar, z_sown, z_sfor, z_mop2, z_mc, z_mvar, z_MM_opt, z_MM_map, z_mcons, z_mnil, z_pnil, z_pcim, z_pcow, z_acim, z_acsl, z_anil, z_mif, z_mandB, z_morB, z_mnotB, z_mandV, z_morV, z_mnotV, z_mmeth, z_fmeth, z_fop2, z_mdr, z_mdrNe, z_mdrLen, z_mdrPop, z_sdr, z_mappend, z_mextend, z_mpopAt, z_mlenO, z_mnilO, z_msl, z_mcall, z_saug, z_mmethL, z_sdraws, z_mtrue, slots_nil, slots_im, slots_sl, argsE, updE, List.nodup_nil, List.nodup_cons, List.not_mem_nil, List.mem_singleton, not_false_eq_true, and_self, and_true, List.nil_append, List.append_nil, List.cons_append, mtg, Zf.setL, setsE, few, blD_b, truD_b, truD_i, truD_l, truD_t, intL_i, intL_b, seqD_l, seqD_t, seqD_s, seqD_c, negD_i, DS.at, DS.put, DS.row, addD_i, subD_i, eqD_i, neD_i, ltD_i, leD_i, gtD_i, geD_i, eqD_s, neD_s, out_l, out_d, okS_s, okW_nil, okW_cons, okM_no, okM_im, okM_mf, okM_mt, okN_no, okN_im, okN_mu, wipeE, List.all_cons, List.all_nil, Bool.and_true, Bool.true_and, Bool.and_self, decide_true, decide_false, reduceIte, if_true, if_false, List.length_cons, List.length_nil, List.getElem?_cons_zero, List.getElem?_cons_succ, List.set_cons_zero, List.set_cons_succ, List.map_cons, List.map_nil, Bool.false_eq_true, Option.some.injEq, Bool.not_true, Bool.not_false, Nat.reduceAdd, Nat.reduceLT, Nat.reduceLeDiff, z_mpop0, intD_i, s1, seqD, intD]) (by rw [dl_len, List.length_take, List.length_drop]; omega) rfl (fun d hd => by
      obtain ⟨l, hl, rfl⟩ := mem_dl hd
      have e3 := sl_from l (i + 4) (by have := hlen l (hsub _ _ l hl); omega)
      have e3 : slD (.str (ml l)) (some ((i : Int) + 4)) none = some (.str (ml (l.drop (i + 4)))) := by
        rw [show (i : Int) + 4 = ((i + 4 : Nat) : Int) by omega]; exact e3
      unfold e_piece_of_1
      simp only [z_sseq, z_sset, z_sret, z_sif, z_snx, z_sbk, z_sct, z_sdrop, z_sasg, z_spar, z_sown, z_sfor, z_mop2, z_mc, z_mvar, z_MM_opt, z_MM_map, z_mcons, z_mnil, z_pnil, z_pcim, z_pcow, z_acim, z_acsl, z_anil, z_mif, z_mandB, z_morB, z_mnotB, z_mandV, z_morV, z_mnotV, z_mmeth, z_fmeth, z_fop2, z_mdr, z_mdrNe, z_mdrLen, z_mdrPop, z_sdr, z_mappend, z_mextend, z_mpopAt, z_mlenO, z_mnilO, z_msl, z_mcall, z_saug, z_mmethL, z_sdraws, z_mtrue, slots_nil, slots_im, slots_sl, argsE, updE, List.nodup_nil, List.nodup_cons, List.not_mem_nil, List.mem_singleton, not_false_eq_true, and_self, and_true, List.nil_append, List.append_nil, List.cons_append, mtg, Zf.setL, setsE, few, blD_b, truD_b, truD_i, truD_l, truD_t, intL_i, intL_b, seqD_l, seqD_t, seqD_s, seqD_c, negD_i, DS.at, DS.put, DS.row, addD_i, subD_i, eqD_i, neD_i, ltD_i, leD_i, gtD_i, geD_i, eqD_s, neD_s, out_l, out_d, okS_s, okW_nil, okW_cons, okM_no, okM_im, okM_mf, okM_mt, okN_no, okN_im, okN_mu, wipeE, List.all_cons, List.all_nil, Bool.and_true, Bool.true_and, Bool.and_self, decide_true, decide_false, reduceIte, if_true, if_false, List.length_cons, List.length_nil, List.getElem?_cons_zero, List.getElem?_cons_succ, List.set_cons_zero, List.set_cons_succ, List.map_cons, List.map_nil, Bool.false_eq_true, Option.some.injEq, Bool.not_true, Bool.not_false, Nat.reduceAdd, Nat.reduceLT, Nat.reduceLeDiff, z_mpop0, intD_i, e3, stL_ml, intD]), map_dl, hrw]
  have d2 : mlc (.one 10) [10] (MM.opt (mvar 5) seqD) (mtrue) (e_piece_of_2) [.im (.lst (dl L)), .im (.int (b : Int)), .im (.int (m : Int)), .im (.int (e : Int)), .im (.int (i : Int)), .im (.lst (dl rows)), .no, .no, .no, .no, .no] = some (dl (rows.map (· ++ [10])), [.im (.lst (dl L)), .im (.int (b : Int)), .im (.int (m : Int)), .im (.int (e : Int)), .im (.int (i : Int)), .im (.lst (dl rows)), .no, .no, .no, .no, .no]) := by
    rw [mlc_m (ds := dl rows) (fun d => .str (ml (stL d ++ [10]))) (by simp only [z_sseq, z_sset, z_sret, z_sif, z_snx, z_sbk, z_sct, z_sdrop, z_sasg, z_spar, z_sown, z_sfor, z_mop2, z_mc, z_mvar, z_MM_opt, z_MM_map, z_mcons, z_mnil, z_pnil, z_pcim, z_pcow, z_acim, z_acsl, z_anil, z_mif, z_mandB, z_morB, z_mnotB, z_mandV, z_morV, z_mnotV, z_mmeth, z_fmeth, z_fop2, z_mdr, z_mdrNe, z_mdrLen, z_mdrPop, z_sdr, z_mappend, z_mextend, z_mpopAt, z_mlenO, z_mnilO, z_msl, z_mcall, z_saug, z_mmethL, z_sdraws, z_mtrue, slots_nil, slots_im, slots_sl, argsE, updE, List.nodup_nil, List.nodup_cons, List.not_mem_nil, List.mem_singleton, not_false_eq_true, and_self, and_true, List.nil_append, List.append_nil, List.cons_append, mtg, Zf.setL, setsE, few, blD_b, truD_b, truD_i, truD_l, truD_t, intL_i, intL_b, seqD_l, seqD_t, seqD_s, seqD_c, negD_i, DS.at, DS.put, DS.row, addD_i, subD_i, eqD_i, neD_i, ltD_i, leD_i, gtD_i, geD_i, eqD_s, neD_s, out_l, out_d, okS_s, okW_nil, okW_cons, okM_no, okM_im, okM_mf, okM_mt, okN_no, okN_im, okN_mu, wipeE, List.all_cons, List.all_nil, Bool.and_true, Bool.true_and, Bool.and_self, decide_true, decide_false, reduceIte, if_true, if_false, List.length_cons, List.length_nil, List.getElem?_cons_zero, List.getElem?_cons_succ, List.set_cons_zero, List.set_cons_succ, List.map_cons, List.map_nil, Bool.false_eq_true, Option.some.injEq, Bool.not_true, Bool.not_false, Nat.reduceAdd, Nat.reduceLT, Nat.reduceLeDiff, z_mpop0, intD_i, seqD]) (by rw [dl_len]; omega) rfl (fun d hd => by
      obtain ⟨l, hl, rfl⟩ := mem_dl hd
      have e3 := add_nl l (by have := (rsub l hl).2.2; omega)
      unfold e_piece_of_2
      simp only [z_sseq, z_sset, z_sret, z_sif, z_snx, z_sbk, z_sct, z_sdrop, z_sasg, z_spar, z_sown, z_sfor, z_mop2, z_mc, z_mvar, z_MM_opt, z_MM_map, z_mcons, z_mnil, z_pnil, z_pcim, z_pcow, z_acim, z_acsl, z_anil, z_mif, z_mandB, z_morB, z_mnotB, z_mandV, z_morV, z_mnotV, z_mmeth, z_fmeth, z_fop2, z_mdr, z_mdrNe, z_mdrLen, z_mdrPop, z_sdr, z_mappend, z_mextend, z_mpopAt, z_mlenO, z_mnilO, z_msl, z_mcall, z_saug, z_mmethL, z_sdraws, z_mtrue, slots_nil, slots_im, slots_sl, argsE, updE, List.nodup_nil, List.nodup_cons, List.not_mem_nil, List.mem_singleton, not_false_eq_true, and_self, and_true, List.nil_append, List.append_nil, List.cons_append, mtg, Zf.setL, setsE, few, blD_b, truD_b, truD_i, truD_l, truD_t, intL_i, intL_b, seqD_l, seqD_t, seqD_s, seqD_c, negD_i, DS.at, DS.put, DS.row, addD_i, subD_i, eqD_i, neD_i, ltD_i, leD_i, gtD_i, geD_i, eqD_s, neD_s, out_l, out_d, okS_s, okW_nil, okW_cons, okM_no, okM_im, okM_mf, okM_mt, okN_no, okN_im, okN_mu, wipeE, List.all_cons, List.all_nil, Bool.and_true, Bool.true_and, Bool.and_self, decide_true, decide_false, reduceIte, if_true, if_false, List.length_cons, List.length_nil, List.getElem?_cons_zero, List.getElem?_cons_succ, List.set_cons_zero, List.set_cons_succ, List.map_cons, List.map_nil, Bool.false_eq_true, Option.some.injEq, Bool.not_true, Bool.not_false, Nat.reduceAdd, Nat.reduceLT, Nat.reduceLeDiff, z_mpop0, intD_i, e3, stL_ml]), map_dl (fun l => l ++ [10])]
  have j2 := join_wl rows (by omega)
  have d3 : mlc (.one 9) [9] (MM.opt (msl (mvar 0) (MM.opt (mvar 2) intD) (MM.opt (mvar 3) intD)) seqD) (mtrue) (e_piece_of_3) [.im (.lst (dl L)), .im (.int (b : Int)), .im (.int (m : Int)), .im (.int (e : Int)), .im (.int (i : Int)), .im (.lst (dl rows)), .im (.str (ml (wl rows))), .no, .no, .no, .no] = some (dl (want.map (· ++ [10])), [.im (.lst (dl L)), .im (.int (b : Int)), .im (.int (m : Int)), .im (.int (e : Int)), .im (.int (i : Int)), .im (.lst (dl rows)), .im (.str (ml (wl rows))), .no, .no, .no, .no]) := by
    rw [mlc_m (ds := dl ((L.drop m).take (e - m))) (fun d => .str (ml ((stL d).drop i ++ [10]))) (by simp only [z_sseq, z_sset, z_sret, z_sif, z_snx, z_sbk, z_sct, z_sdrop, z_sasg, z_spar, z_sown, z_sfor, z_mop2, z_mc, z_mvar, z_MM_opt, z_MM_map, z_mcons, z_mnil, z_pnil, z_pcim, z_pcow, z_acim, z_acsl, z_anil, z_mif, z_mandB, z_morB, z_mnotB, z_mandV, z_morV, z_mnotV, z_mmeth, z_fmeth, z_fop2, z_mdr, z_mdrNe, z_mdrLen, z_mdrPop, z_sdr, z_mappend, z_mextend, z_mpopAt, z_mlenO, z_mnilO, z_msl, z_mcall, z_saug, z_mmethL, z_sdraws, z_mtrue, slots_nil, slots_im, slots_sl, argsE, updE, List.nodup_nil, List.nodup_cons, List.not_mem_nil, List.mem_singleton, not_false_eq_true, and_self, and_true, List.nil_append, List.append_nil, List.cons_append, mtg, Zf.setL, setsE, few, blD_b, truD_b, truD_i, truD_l, truD_t, intL_i, intL_b, seqD_l, seqD_t, seqD_s, seqD_c, negD_i, DS.at, DS.put, DS.row, addD_i, subD_i, eqD_i, neD_i, ltD_i, leD_i, gtD_i, geD_i, eqD_s, neD_s, out_l, out_d, okS_s, okW_nil, okW_cons, okM_no, okM_im, okM_mf, okM_mt, okN_no, okN_im, okN_mu, wipeE, List.all_cons, List.all_nil, Bool.and_true, Bool.true_and, Bool.and_self, decide_true, decide_false, reduceIte, if_true, if_false, List.length_cons, List.length_nil, List.getElem?_cons_zero, List.getElem?_cons_succ, List.set_cons_zero, List.set_cons_succ, List.map_cons, List.map_nil, Bool.false_eq_true, Option.some.injEq, Bool.not_true, Bool.not_false, Nat.reduceAdd, Nat.reduceLT, Nat.reduceLeDiff, z_mpop0, intD_i, s2, seqD, intD]) (by rw [dl_len, List.length_take, List.length_drop]; omega) rfl (fun d hd => by
      obtain ⟨l, hl, rfl⟩ := mem_dl hd
      have e3 := sl_from l i (by have := hlen l (hsub _ _ l hl); omega)
      have e4 := add_nl (l.drop i) (by rw [List.length_drop]; have := hlen l (hsub _ _ l hl); omega)
      unfold e_piece_of_3
      simp only [z_sseq, z_sset, z_sret, z_sif, z_snx, z_sbk, z_sct, z_sdrop, z_sasg, z_spar, z_sown, z_sfor, z_mop2, z_mc, z_mvar, z_MM_opt, z_MM_map, z_mcons, z_mnil, z_pnil, z_pcim, z_pcow, z_acim, z_acsl, z_anil, z_mif, z_mandB, z_morB, z_mnotB, z_mandV, z_morV, z_mnotV, z_mmeth, z_fmeth, z_fop2, z_mdr, z_mdrNe, z_mdrLen, z_mdrPop, z_sdr, z_mappend, z_mextend, z_mpopAt, z_mlenO, z_mnilO, z_msl, z_mcall, z_saug, z_mmethL, z_sdraws, z_mtrue, slots_nil, slots_im, slots_sl, argsE, updE, List.nodup_nil, List.nodup_cons, List.not_mem_nil, List.mem_singleton, not_false_eq_true, and_self, and_true, List.nil_append, List.append_nil, List.cons_append, mtg, Zf.setL, setsE, few, blD_b, truD_b, truD_i, truD_l, truD_t, intL_i, intL_b, seqD_l, seqD_t, seqD_s, seqD_c, negD_i, DS.at, DS.put, DS.row, addD_i, subD_i, eqD_i, neD_i, ltD_i, leD_i, gtD_i, geD_i, eqD_s, neD_s, out_l, out_d, okS_s, okW_nil, okW_cons, okM_no, okM_im, okM_mf, okM_mt, okN_no, okN_im, okN_mu, wipeE, List.all_cons, List.all_nil, Bool.and_true, Bool.true_and, Bool.and_self, decide_true, decide_false, reduceIte, if_true, if_false, List.length_cons, List.length_nil, List.getElem?_cons_zero, List.getElem?_cons_succ, List.set_cons_zero, List.set_cons_succ, List.map_cons, List.map_nil, Bool.false_eq_true, Option.some.injEq, Bool.not_true, Bool.not_false, Nat.reduceAdd, Nat.reduceLT, Nat.reduceLeDiff, z_mpop0, intD_i, e3, e4, stL_ml, intD]), map_dl (fun l => l.drop i ++ [10]), hwt, List.map_map]
    rfl
  have j3 := join_wl want (by omega)
  have o1 := options_no (wl rows) (.int ((b : Int) + 1)) (by omega) (by
    intro p hp
    rw [sp_wl (fun p hp => (rsub p hp).1)] at hp
    rcases List.mem_append.mp hp with hp | hp
    · exact hnd p hp
    · rw [List.mem_singleton.mp hp]; exact nd_no (by simp))
  have d4 : mlc (.one 10) [10] (MM.opt (mvar 5) seqD) (mtrue) (e_piece_of_4) [.im (.lst (dl L)), .im (.int (b : Int)), .im (.int (m : Int)), .im (.int (e : Int)), .im (.int (i : Int)), .im (.lst (dl rows)), .im (.str (ml (wl rows))), .im (.str (ml (wl want))), .im (.dct []), .no, .no] = some ((rows.map comR).map .bl, [.im (.lst (dl L)), .im (.int (b : Int)), .im (.int (m : Int)), .im (.int (e : Int)), .im (.int (i : Int)), .im (.lst (dl rows)), .im (.str (ml (wl rows))), .im (.str (ml (wl want))), .im (.dct []), .no, .no]) := by
    rw [mlc_m (ds := dl rows) (fun d => .bl (comR (stL d))) (by simp only [z_sseq, z_sset, z_sret, z_sif, z_snx, z_sbk, z_sct, z_sdrop, z_sasg, z_spar, z_sown, z_sfor, z_mop2, z_mc, z_mvar, z_MM_opt, z_MM_map, z_mcons, z_mnil, z_pnil, z_pcim, z_pcow, z_acim, z_acsl, z_anil, z_mif, z_mandB, z_morB, z_mnotB, z_mandV, z_morV, z_mnotV, z_mmeth, z_fmeth, z_fop2, z_mdr, z_mdrNe, z_mdrLen, z_mdrPop, z_sdr, z_mappend, z_mextend, z_mpopAt, z_mlenO, z_mnilO, z_msl, z_mcall, z_saug, z_mmethL, z_sdraws, z_mtrue, slots_nil, slots_im, slots_sl, argsE, updE, List.nodup_nil, List.nodup_cons, List.not_mem_nil, List.mem_singleton, not_false_eq_true, and_self, and_true, List.nil_append, List.append_nil, List.cons_append, mtg, Zf.setL, setsE, few, blD_b, truD_b, truD_i, truD_l, truD_t, intL_i, intL_b, seqD_l, seqD_t, seqD_s, seqD_c, negD_i, DS.at, DS.put, DS.row, addD_i, subD_i, eqD_i, neD_i, ltD_i, leD_i, gtD_i, geD_i, eqD_s, neD_s, out_l, out_d, okS_s, okW_nil, okW_cons, okM_no, okM_im, okM_mf, okM_mt, okN_no, okN_im, okN_mu, wipeE, List.all_cons, List.all_nil, Bool.and_true, Bool.true_and, Bool.and_self, decide_true, decide_false, reduceIte, if_true, if_false, List.length_cons, List.length_nil, List.getElem?_cons_zero, List.getElem?_cons_succ, List.set_cons_zero, List.set_cons_succ, List.map_cons, List.map_nil, Bool.false_eq_true, Option.some.injEq, Bool.not_true, Bool.not_false, Nat.reduceAdd, Nat.reduceLT, Nat.reduceLeDiff, z_mpop0, intD_i, seqD]) (by rw [dl_len]; omega) rfl (fun d hd => by
      obtain ⟨l, hl, rfl⟩ := mem_dl hd
      rw [stL_ml]
      exact comR_ok l (rsub l hl).2.1 (by have := (rsub l hl).2.2; omega) _ rfl)]
    congr 2
    unfold dl
    rw [List.map_map, List.map_map]; rfl
  have a1 : allL [.lst ((rows.map comR).map .bl)] = some (.bl false) := by
    show (match bolsD ((rows.map comR).map .bl) with
      | some ns => some (D.bl (ns.all id))
      | none => none) = _
    rw [bolsD_map]
    have : (rows.map comR).all id = false := by
      obtain ⟨p, hp, hc⟩ := hex
      rw [List.all_eq_false]
      exact ⟨comR p, List.mem_map.mpr ⟨p, hp, rfl⟩, by rw [hc]; decide⟩
    show some (D.bl ((rows.map comR).all id)) = _
    rw [this]
  have er := error_ok (wl want) (by omega)
  rw [errD_wl (fun p hp => (wsub p hp).1)] at er
  obtain ⟨r, ini⟩ := init_ok rows want ((b : Int) + 1) (i : Int) rne (fun p hp => (rsub p hp).1) hnd (by omega)
  obtain ⟨E, hE⟩ : ∃ E : En, E = [.im (.lst (dl L)), .im (.int (b : Int)), .im (.int (m : Int)), .im (.int (e : Int)), .im (.int (i : Int)), .im (.lst (dl rows)), .im (.str (ml (wl rows))), .im (.str (ml (wl want))), .im (.dct []), .no, .no] := ⟨_, rfl⟩
  have mk : mmake 0 2 4 (fun ds es => ds ++ es) F_Example___init__ (mcons (mvar 6) (mcons (mvar 7) (mnil))) (mcons (mcall F_error_of [] (acim (mvar 7) (anil))) (mcons (mop2 addD (mvar 1) (mc (.int 1))) (mcons (mvar 4) (mcons (mvar 8) (mnil))))) E = some (exaL rows want ((b : Int) + 1) (i : Int), E) := by
    exact mmake_ok (e1 := E) (e2 := E) (ds := [.str (ml (wl rows)), .str (ml (wl want))]) (zs := [errW want, .int ((b : Int) + 1), .int (i : Int), .dct []]) (by subst hE; simp only [z_sseq, z_sset, z_sret, z_sif, z_snx, z_sbk, z_sct, z_sdrop, z_sasg, z_spar, z_sown, z_sfor, z_mop2, z_mc, z_mvar, z_MM_opt, z_MM_map, z_mcons, z_mnil, z_pnil, z_pcim, z_pcow, z_acim, z_acsl, z_anil, z_mif, z_mandB, z_morB, z_mnotB, z_mandV, z_morV, z_mnotV, z_mmeth, z_fmeth, z_fop2, z_mdr, z_mdrNe, z_mdrLen, z_mdrPop, z_sdr, z_mappend, z_mextend, z_mpopAt, z_mlenO, z_mnilO, z_msl, z_mcall, z_saug, z_mmethL, z_sdraws, z_mtrue, slots_nil, slots_im, slots_sl, argsE, updE, List.nodup_nil, List.nodup_cons, List.not_mem_nil, List.mem_singleton, not_false_eq_true, and_self, and_true, List.nil_append, List.append_nil, List.cons_append, mtg, Zf.setL, setsE, few, blD_b, truD_b, truD_i, truD_l, truD_t, intL_i, intL_b, seqD_l, seqD_t, seqD_s, seqD_c, negD_i, DS.at, DS.put, DS.row, addD_i, subD_i, eqD_i, neD_i, ltD_i, leD_i, gtD_i, geD_i, eqD_s, neD_s, out_l, out_d, okS_s, okW_nil, okW_cons, okM_no, okM_im, okM_mf, okM_mt, okN_no, okN_im, okN_mu, wipeE, List.all_cons, List.all_nil, Bool.and_true, Bool.true_and, Bool.and_self, decide_true, decide_false, reduceIte, if_true, if_false, List.length_cons, List.length_nil, List.getElem?_cons_zero, List.getElem?_cons_succ, List.set_cons_zero, List.set_cons_succ, List.map_cons, List.map_nil, Bool.false_eq_true, Option.some.injEq, Bool.not_true, Bool.not_false, Nat.reduceAdd, Nat.reduceLT, Nat.reduceLeDiff, z_mpop0, intD_i]) (by subst hE; simp only [z_sseq, z_sset, z_sret, z_sif, z_snx, z_sbk, z_sct, z_sdrop, z_sasg, z_spar, z_sown, z_sfor, z_mop2, z_mc, z_mvar, z_MM_opt, z_MM_map, z_mcons, z_mnil, z_pnil, z_pcim, z_pcow, z_acim, z_acsl, z_anil, z_mif, z_mandB, z_morB, z_mnotB, z_mandV, z_morV, z_mnotV, z_mmeth, z_fmeth, z_fop2, z_mdr, z_mdrNe, z_mdrLen, z_mdrPop, z_sdr, z_mappend, z_mextend, z_mpopAt, z_mlenO, z_mnilO, z_msl, z_mcall, z_saug, z_mmethL, z_sdraws, z_mtrue, slots_nil, slots_im, slots_sl, argsE, updE, List.nodup_nil, List.nodup_cons, List.not_mem_nil, List.mem_singleton, not_false_eq_true, and_self, and_true, List.nil_append, List.append_nil, List.cons_append, mtg, Zf.setL, setsE, few, blD_b, truD_b, truD_i, truD_l, truD_t, intL_i, intL_b, seqD_l, seqD_t, seqD_s, seqD_c, negD_i, DS.at, DS.put, DS.row, addD_i, subD_i, eqD_i, neD_i, ltD_i, leD_i, gtD_i, geD_i, eqD_s, neD_s, out_l, out_d, okS_s, okW_nil, okW_cons, okM_no, okM_im, okM_mf, okM_mt, okN_no, okN_im, okN_mu, wipeE, List.all_cons, List.all_nil, Bool.and_true, Bool.true_and, Bool.and_self, decide_true, decide_false, reduceIte, if_true, if_false, List.length_cons, List.length_nil, List.getElem?_cons_zero, List.getElem?_cons_succ, List.set_cons_zero, List.set_cons_succ, List.map_cons, List.map_nil, Bool.false_eq_true, Option.some.injEq, Bool.not_true, Bool.not_false, Nat.reduceAdd, Nat.reduceLT, Nat.reduceLeDiff, z_mpop0, intD_i, er]) ⟨rfl, rfl⟩ ini
  have body : m_piece_of [.im (.lst (dl L)), .im (.int (b : Int)), .im (.int (m : Int)), .im (.int (e : Int)), .no, .no, .no, .no, .no, .no, .no] = some (.rt (exaL rows want ((b : Int) + 1) (i : Int)) E) := by
    unfold m_piece_of
    refine sseq_nx (e1 := [.im (.lst (dl L)), .im (.int (b : Int)), .im (.int (m : Int)), .im (.int (e : Int)), .no, .no, .no, .no, .no, .no, .no]) (by simp only [z_sseq, z_sset, z_sret, z_sif, z_snx, z_sbk, z_sct, z_sdrop, z_sasg, z_spar, z_sown, z_sfor, z_mop2, z_mc, z_mvar, z_MM_opt, z_MM_map, z_mcons, z_mnil, z_pnil, z_pcim, z_pcow, z_acim, z_acsl, z_anil, z_mif, z_mandB, z_morB, z_mnotB, z_mandV, z_morV, z_mnotV, z_mmeth, z_fmeth, z_fop2, z_mdr, z_mdrNe, z_mdrLen, z_mdrPop, z_sdr, z_mappend, z_mextend, z_mpopAt, z_mlenO, z_mnilO, z_msl, z_mcall, z_saug, z_mmethL, z_sdraws, z_mtrue, slots_nil, slots_im, slots_sl, argsE, updE, List.nodup_nil, List.nodup_cons, List.not_mem_nil, List.mem_singleton, not_false_eq_true, and_self, and_true, List.nil_append, List.append_nil, List.cons_append, mtg, Zf.setL, setsE, few, blD_b, truD_b, truD_i, truD_l, truD_t, intL_i, intL_b, seqD_l, seqD_t, seqD_s, seqD_c, negD_i, DS.at, DS.put, DS.row, addD_i, subD_i, eqD_i, neD_i, ltD_i, leD_i, gtD_i, geD_i, eqD_s, neD_s, out_l, out_d, okS_s, okW_nil, okW_cons, okM_no, okM_im, okM_mf, okM_mt, okN_no, okN_im, okN_mu, wipeE, List.all_cons, List.all_nil, Bool.and_true, Bool.true_and, Bool.and_self, decide_true, decide_false, reduceIte, if_true, if_false, List.length_cons, List.length_nil, List.getElem?_cons_zero, List.getElem?_cons_succ, List.set_cons_zero, List.set_cons_succ, List.map_cons, List.map_nil, Bool.false_eq_true, Option.some.injEq, Bool.not_true, Bool.not_false, Nat.reduceAdd, Nat.reduceLT, Nat.reduceLeDiff, z_mpop0, intD_i, k0]) ?_
    refine sseq_nx (e1 := [.im (.lst (dl L)), .im (.int (b : Int)), .im (.int (m : Int)), .im (.int (e : Int)), .im (.int (i : Int)), .no, .no, .no, .no, .no, .no]) (by simp only [z_sseq, z_sset, z_sret, z_sif, z_snx, z_sbk, z_sct, z_sdrop, z_sasg, z_spar, z_sown, z_sfor, z_mop2, z_mc, z_mvar, z_MM_opt, z_MM_map, z_mcons, z_mnil, z_pnil, z_pcim, z_pcow, z_acim, z_acsl, z_anil, z_mif, z_mandB, z_morB, z_mnotB, z_mandV, z_morV, z_mnotV, z_mmeth, z_fmeth, z_fop2, z_mdr, z_mdrNe, z_mdrLen, z_mdrPop, z_sdr, z_mappend, z_mextend, z_mpopAt, z_mlenO, z_mnilO, z_msl, z_mcall, z_saug, z_mmethL, z_sdraws, z_mtrue, slots_nil, slots_im, slots_sl, argsE, updE, List.nodup_nil, List.nodup_cons, List.not_mem_nil, List.mem_singleton, not_false_eq_true, and_self, and_true, List.nil_append, List.append_nil, List.cons_append, mtg, Zf.setL, setsE, few, blD_b, truD_b, truD_i, truD_l, truD_t, intL_i, intL_b, seqD_l, seqD_t, seqD_s, seqD_c, negD_i, DS.at, DS.put, DS.row, addD_i, subD_i, eqD_i, neD_i, ltD_i, leD_i, gtD_i, geD_i, eqD_s, neD_s, out_l, out_d, okS_s, okW_nil, okW_cons, okM_no, okM_im, okM_mf, okM_mt, okN_no, okN_im, okN_mu, wipeE, List.all_cons, List.all_nil, Bool.and_true, Bool.true_and, Bool.and_self, decide_true, decide_false, reduceIte, if_true, if_false, List.length_cons, List.length_nil, List.getElem?_cons_zero, List.getElem?_cons_succ, List.set_cons_zero, List.set_cons_succ, List.map_cons, List.map_nil, Bool.false_eq_true, Option.some.injEq, Bool.not_true, Bool.not_false, Nat.reduceAdd, Nat.reduceLT, Nat.reduceLeDiff, z_mpop0, intD_i, x1, x2]) ?_
    refine sseq_nx (e1 := [.im (.lst (dl L)), .im (.int (b : Int)), .im (.int (m : Int)), .im (.int (e : Int)), .im (.int (i : Int)), .im (.lst (dl rows)), .no, .no, .no, .no, .no]) (by simp only [z_sseq, z_sset, z_sret, z_sif, z_snx, z_sbk, z_sct, z_sdrop, z_sasg, z_spar, z_sown, z_sfor, z_mop2, z_mc, z_mvar, z_MM_opt, z_MM_map, z_mcons, z_mnil, z_pnil, z_pcim, z_pcow, z_acim, z_acsl, z_anil, z_mif, z_mandB, z_morB, z_mnotB, z_mandV, z_morV, z_mnotV, z_mmeth, z_fmeth, z_fop2, z_mdr, z_mdrNe, z_mdrLen, z_mdrPop, z_sdr, z_mappend, z_mextend, z_mpopAt, z_mlenO, z_mnilO, z_msl, z_mcall, z_saug, z_mmethL, z_sdraws, z_mtrue, slots_nil, slots_im, slots_sl, argsE, updE, List.nodup_nil, List.nodup_cons, List.not_mem_nil, List.mem_singleton, not_false_eq_true, and_self, and_true, List.nil_append, List.append_nil, List.cons_append, mtg, Zf.setL, setsE, few, blD_b, truD_b, truD_i, truD_l, truD_t, intL_i, intL_b, seqD_l, seqD_t, seqD_s, seqD_c, negD_i, DS.at, DS.put, DS.row, addD_i, subD_i, eqD_i, neD_i, ltD_i, leD_i, gtD_i, geD_i, eqD_s, neD_s, out_l, out_d, okS_s, okW_nil, okW_cons, okM_no, okM_im, okM_mf, okM_mt, okN_no, okN_im, okN_mu, wipeE, List.all_cons, List.all_nil, Bool.and_true, Bool.true_and, Bool.and_self, decide_true, decide_false, reduceIte, if_true, if_false, List.length_cons, List.length_nil, List.getElem?_cons_zero, List.getElem?_cons_succ, List.set_cons_zero, List.set_cons_succ, List.map_cons, List.map_nil, Bool.false_eq_true, Option.some.injEq, Bool.not_true, Bool.not_false, Nat.reduceAdd, Nat.reduceLT, Nat.reduceLeDiff, z_mpop0, intD_i, d1]) ?_
    refine sseq_nx (e1 := [.im (.lst (dl L)), .im (.int (b : Int)), .im (.int (m : Int)), .im (.int (e : Int)), .im (.int (i : Int)), .im (.lst (dl rows)), .im (.str (ml (wl rows))), .no, .no, .no, .no]) (by simp only [z_sseq, z_sset, z_sret, z_sif, z_snx, z_sbk, z_sct, z_sdrop, z_sasg, z_spar, z_sown, z_sfor, z_mop2, z_mc, z_mvar, z_MM_opt, z_MM_map, z_mcons, z_mnil, z_pnil, z_pcim, z_pcow, z_acim, z_acsl, z_anil, z_mif, z_mandB, z_morB, z_mnotB, z_mandV, z_morV, z_mnotV, z_mmeth, z_fmeth, z_fop2, z_mdr, z_mdrNe, z_mdrLen, z_mdrPop, z_sdr, z_mappend, z_mextend, z_mpopAt, z_mlenO, z_mnilO, z_msl, z_mcall, z_saug, z_mmethL, z_sdraws, z_mtrue, slots_nil, slots_im, slots_sl, argsE, updE, List.nodup_nil, List.nodup_cons, List.not_mem_nil, List.mem_singleton, not_false_eq_true, and_self, and_true, List.nil_append, List.append_nil, List.cons_append, mtg, Zf.setL, setsE, few, blD_b, truD_b, truD_i, truD_l, truD_t, intL_i, intL_b, seqD_l, seqD_t, seqD_s, seqD_c, negD_i, DS.at, DS.put, DS.row, addD_i, subD_i, eqD_i, neD_i, ltD_i, leD_i, gtD_i, geD_i, eqD_s, neD_s, out_l, out_d, okS_s, okW_nil, okW_cons, okM_no, okM_im, okM_mf, okM_mt, okN_no, okN_im, okN_mu, wipeE, List.all_cons, List.all_nil, Bool.and_true, Bool.true_and, Bool.and_self, decide_true, decide_false, reduceIte, if_true, if_false, List.length_cons, List.length_nil, List.getElem?_cons_zero, List.getElem?_cons_succ, List.set_cons_zero, List.set_cons_succ, List.map_cons, List.map_nil, Bool.false_eq_true, Option.some.injEq, Bool.not_true, Bool.not_false, Nat.reduceAdd, Nat.reduceLT, Nat.reduceLeDiff, z_mpop0, intD_i, d2, j2]) ?_
    refine sseq_nx (e1 := [.im (.lst (dl L)), .im (.int (b : Int)), .im (.int (m : Int)), .im (.int (e : Int)), .im (.int (i : Int)), .im (.lst (dl rows)), .im (.str (ml (wl rows))), .im (.str (ml (wl want))), .no, .no, .no]) (by simp only [z_sseq, z_sset, z_sret, z_sif, z_snx, z_sbk, z_sct, z_sdrop, z_sasg, z_spar, z_sown, z_sfor, z_mop2, z_mc, z_mvar, z_MM_opt, z_MM_map, z_mcons, z_mnil, z_pnil, z_pcim, z_pcow, z_acim, z_acsl, z_anil, z_mif, z_mandB, z_morB, z_mnotB, z_mandV, z_morV, z_mnotV, z_mmeth, z_fmeth, z_fop2, z_mdr, z_mdrNe, z_mdrLen, z_mdrPop, z_sdr, z_mappend, z_mextend, z_mpopAt, z_mlenO, z_mnilO, z_msl, z_mcall, z_saug, z_mmethL, z_sdraws, z_mtrue, slots_nil, slots_im, slots_sl, argsE, updE, List.nodup_nil, List.nodup_cons, List.not_mem_nil, List.mem_singleton, not_false_eq_true, and_self, and_true, List.nil_append, List.append_nil, List.cons_append, mtg, Zf.setL, setsE, few, blD_b, truD_b, truD_i, truD_l, truD_t, intL_i, intL_b, seqD_l, seqD_t, seqD_s, seqD_c, negD_i, DS.at, DS.put, DS.row, addD_i, subD_i, eqD_i, neD_i, ltD_i, leD_i, gtD_i, geD_i, eqD_s, neD_s, out_l, out_d, okS_s, okW_nil, okW_cons, okM_no, okM_im, okM_mf, okM_mt, okN_no, okN_im, okN_mu, wipeE, List.all_cons, List.all_nil, Bool.and_true, Bool.true_and, Bool.and_self, decide_true, decide_false, reduceIte, if_true, if_false, List.length_cons, List.length_nil, List.getElem?_cons_zero, List.getElem?_cons_succ, List.set_cons_zero, List.set_cons_succ, List.map_cons, List.map_nil, Bool.false_eq_true, Option.some.injEq, Bool.not_true, Bool.not_false, Nat.reduceAdd, Nat.reduceLT, Nat.reduceLeDiff, z_mpop0, intD_i, d3, j3]) ?_
    refine sseq_nx (e1 := E) (by rw [hE]; simp only [z_sseq, z_sset, z_sret, z_sif, z_snx, z_sbk, z_sct, z_sdrop, z_sasg, z_spar, z_sown, z_sfor, z_mop2, z_mc, z_mvar, z_MM_opt, z_MM_map, z_mcons, z_mnil, z_pnil, z_pcim, z_pcow, z_acim, z_acsl, z_anil, z_mif, z_mandB, z_morB, z_mnotB, z_mandV, z_morV, z_mnotV, z_mmeth, z_fmeth, z_fop2, z_mdr, z_mdrNe, z_mdrLen, z_mdrPop, z_sdr, z_mappend, z_mextend, z_mpopAt, z_mlenO, z_mnilO, z_msl, z_mcall, z_saug, z_mmethL, z_sdraws, z_mtrue, slots_nil, slots_im, slots_sl, argsE, updE, List.nodup_nil, List.nodup_cons, List.not_mem_nil, List.mem_singleton, not_false_eq_true, and_self, and_true, List.nil_append, List.append_nil, List.cons_append, mtg, Zf.setL, setsE, few, blD_b, truD_b, truD_i, truD_l, truD_t, intL_i, intL_b, seqD_l, seqD_t, seqD_s, seqD_c, negD_i, DS.at, DS.put, DS.row, addD_i, subD_i, eqD_i, neD_i, ltD_i, leD_i, gtD_i, geD_i, eqD_s, neD_s, out_l, out_d, okS_s, okW_nil, okW_cons, okM_no, okM_im, okM_mf, okM_mt, okN_no, okN_im, okN_mu, wipeE, List.all_cons, List.all_nil, Bool.and_true, Bool.true_and, Bool.and_self, decide_true, decide_false, reduceIte, if_true, if_false, List.length_cons, List.length_nil, List.getElem?_cons_zero, List.getElem?_cons_succ, List.set_cons_zero, List.set_cons_succ, List.map_cons, List.map_nil, Bool.false_eq_true, Option.some.injEq, Bool.not_true, Bool.not_false, Nat.reduceAdd, Nat.reduceLT, Nat.reduceLeDiff, z_mpop0, intD_i, o1]) ?_
    have te : mnotB (MM.opt (MM.opt (mcons (MM.map (mlc (.one 10) [10] (MM.opt (mvar 5) seqD) (mtrue) (e_piece_of_4)) .lst) (mnil)) allL) truD) E = some (true, E) := by
      rw [hE]; simp only [z_sseq, z_sset, z_sret, z_sif, z_snx, z_sbk, z_sct, z_sdrop, z_sasg, z_spar, z_sown, z_sfor, z_mop2, z_mc, z_mvar, z_MM_opt, z_MM_map, z_mcons, z_mnil, z_pnil, z_pcim, z_pcow, z_acim, z_acsl, z_anil, z_mif, z_mandB, z_morB, z_mnotB, z_mandV, z_morV, z_mnotV, z_mmeth, z_fmeth, z_fop2, z_mdr, z_mdrNe, z_mdrLen, z_mdrPop, z_sdr, z_mappend, z_mextend, z_mpopAt, z_mlenO, z_mnilO, z_msl, z_mcall, z_saug, z_mmethL, z_sdraws, z_mtrue, slots_nil, slots_im, slots_sl, argsE, updE, List.nodup_nil, List.nodup_cons, List.not_mem_nil, List.mem_singleton, not_false_eq_true, and_self, and_true, List.nil_append, List.append_nil, List.cons_append, mtg, Zf.setL, setsE, few, blD_b, truD_b, truD_i, truD_l, truD_t, intL_i, intL_b, seqD_l, seqD_t, seqD_s, seqD_c, negD_i, DS.at, DS.put, DS.row, addD_i, subD_i, eqD_i, neD_i, ltD_i, leD_i, gtD_i, geD_i, eqD_s, neD_s, out_l, out_d, okS_s, okW_nil, okW_cons, okM_no, okM_im, okM_mf, okM_mt, okN_no, okN_im, okN_mu, wipeE, List.all_cons, List.all_nil, Bool.and_true, Bool.true_and, Bool.and_self, decide_true, decide_false, reduceIte, if_true, if_false, List.length_cons, List.length_nil, List.getElem?_cons_zero, List.getElem?_cons_succ, List.set_cons_zero, List.set_cons_succ, List.map_cons, List.map_nil, Bool.false_eq_true, Option.some.injEq, Bool.not_true, Bool.not_false, Nat.reduceAdd, Nat.reduceLT, Nat.reduceLeDiff, z_mpop0, intD_i, d4, a1]
    rw [z_sseq, sif_t te, z_sret, mk]
  rw [hE] at body
  exact fnM_rt (n := 11) (args := [.im (.lst (dl L)), .im (.int (b : Int)), .im (.int (m : Int)), .im (.int (e : Int))]) (m := m_piece_of) body
end Zz

set_option Elab.async false
set_option linter.all false
set_option maxRecDepth 100000
set_option maxHeartbeats 1000000
/-! texts.py: parsed, step by step -/
namespace Zz
open PySem PySem.Spec L2 Zf
/-- lines of the want of an example: neither blank nor a prompt -/
def isW (l : List Nat) : Bool := nb l && !isP l
def cnt (g : List Nat → Bool) (L : List (List Nat)) (a : Nat) : Nat := ((L.drop a).takeWhile g).length
theorem cnt_le (g : List Nat → Bool) (L : List (List Nat)) (a : Nat) (h : a ≤ L.length) : a + cnt g L a ≤ L.length := by
  have := tw_le' g (L.drop a)
  rw [List.length_drop] at this
  unfold cnt
  omega
where
  tw_le' (g : List Nat → Bool) : ∀ l : List (List Nat), (l.takeWhile g).length ≤ l.length
    | [] => Nat.le_refl _
    | a :: l => by
      rw [List.takeWhile_cons]
      split
      · have := tw_le' g l; simp only [List.length_cons]; omega
      · simp
/-- a row is walked over while its lines are so -/
theorem inc_loop {L : List (List Nat)} {g : List Nat → Bool} {T : MM Bool} {B : SM} (E : Nat → En) (hT : ∀ a l, L[a]? = some l → T (E a) = some (g l, E a)) (hN : T (E L.length) = some (false, E L.length)) (hB : ∀ a, a < L.length → B (E a) = some (.nx (E (a + 1)))) : ∀ (n fuel a : Nat), L.length - a = n → a ≤ L.length → n < fuel → swhile T B fuel (E a) = some (.nx (E (a + cnt g L a)))
  | n, 0, a, _, _, hf => by omega
  | n, fuel + 1, a, hn, hle, hf => by
    by_cases q : a < L.length
    · obtain ⟨l, hl, _⟩ := at_i (L := L) q
      have hd : L.drop a = l :: L.drop (a + 1) := by
        obtain ⟨hi, rfl⟩ := List.getElem?_eq_some_iff.mp hl
        exact List.drop_eq_getElem_cons hi
      have h1 := hT a l hl
      cases z : g l with
      | true =>
        rw [z] at h1
        rw [swhile_t h1 (hB a q), inc_loop E hT hN hB (n - 1) fuel (a + 1) (by omega) (by omega) (by omega)]
        have : a + cnt g L a = a + 1 + cnt g L (a + 1) := by
          unfold cnt
          rw [hd, List.takeWhile_cons, z]
          simp only [if_true, List.length_cons]
          omega
        rw [this]
      | false =>
        rw [z] at h1
        rw [swhile_f h1]
        have : a + cnt g L a = a := by
          unfold cnt
          rw [hd, List.takeWhile_cons, z]
          simp
        rw [this]
    · have ha : a = L.length := by omega
      subst ha
      rw [swhile_f hN]
      have : L.length + cnt g L L.length = L.length := by unfold cnt; rw [List.drop_length]; rfl
      rw [this]
theorem ltD_n {a n : Nat} : ltD (.int (a : Int)) (.int (n : Int)) = some (.bl (decide (a < n))) := by
  show some (D.bl (decide ((a : Int) < (n : Int)))) = _
  congr 2
  exact decide_eq_decide.mpr (by omega)
theorem len_dl (L : List (List Nat)) : lenL [.lst (dl L)] = some (.int (L.length : Int)) := by
  show some (D.int ((dl L).length : Int)) = _
  rw [dl_len]
/-- where the reading of a text stands -/
def PE (x : List Nat) (R L : List (List Nat)) (P : List D) (a k : Nat) (t6 t7 : Sl) : En := [.im (.str (ml x)), .im (.lst (dl R)), .im (.lst (dl L)), .mu false (.ml P), .im (.int (a : Int)), .im (.int (k : Int)), t6, t7, .no, .no]
theorem flat_le (R : List (List Nat)) (a n : Nat) (h : (R.map List.length).sum ≤ 1000000) : (((R.drop a).take n).map List.length).sum ≤ 1000000 := Nat.le_trans (sum_part R a n) h
section
variable {x : List Nat} {R L : List (List Nat)} {P : List D} {a k : Nat} {t6 t7 : Sl}
theorem more_ok (hS : (L.map List.length).sum + L.length ≤ 70000) (h6 : okM t6 = true) (ha : a ≤ L.length) : swhile (mandB (MM.opt (mop2 ltD (mvar 4) (MM.opt (mcons (mvar 2) (mnil)) lenL)) blD) (MM.opt (mmeth startsM (mmeth (stripM Txt.lstripChars) (mop2 ixD (mvar 2) (mvar 4)) (mcons (mc (.str " ")) (mnil))) (mcons (mc (.str "...")) (mnil))) truD)) b_parsed_2 100000 (PE x R L P a k t6 t7) = some (.nx (PE x R L P (a + cnt isM L a) k t6 t7)) := by
  have hlen : ∀ l ∈ L, l.length ≤ 70000 := fun l hl => by have := mem_sum hl; omega
  refine inc_loop (g := isM) (fun a => PE x R L P a k t6 t7) (fun a l hl => ?_) ?_ (fun a ha => ?_) _ 100000 a rfl ha (by omega)
  · have hlt := (List.getElem?_eq_some_iff.mp hl).1
    have hm := hlen l (List.mem_of_getElem? hl)
    have e1 := ltD_n (a := a) (n := L.length)
    rw [decide_eq_true hlt] at e1
    have e2 := len_dl L
    have e3 := ix_dl hl
    have e4 := ls32 l (by omega)
    have e5 := startsD (st32 l) [46, 46, 46]
    rw [← dot3_ml] at e5
    have e5 : startsM (ml (st32 l)) [.str ("..." : Str)] = some (.bl (isM l)) := e5
    unfold PE
    simp only [z_sseq, z_sset, z_sret, z_sif, z_snx, z_sbk, z_sct, z_sdrop, z_sasg, z_spar, z_sown, z_sfor, z_mop2, z_mc, z_mvar, z_MM_opt, z_MM_map, z_mcons, z_mnil, z_pnil, z_pcim, z_pcow, z_acim, z_acsl, z_anil, z_mif, z_mandB, z_morB, z_mnotB, z_mandV, z_morV, z_mnotV, z_mmeth, z_fmeth, z_fop2, z_mdr, z_mdrNe, z_mdrLen, z_mdrPop, z_sdr, z_mappend, z_mextend, z_mpopAt, z_mlenO, z_mnilO, z_msl, z_mcall, z_saug, z_mmethL, z_sdraws, z_mtrue, slots_nil, slots_im, slots_sl, argsE, updE, List.nodup_nil, List.nodup_cons, List.not_mem_nil, List.mem_singleton, not_false_eq_true, and_self, and_true, List.nil_append, List.append_nil, List.cons_append, mtg, Zf.setL, setsE, few, blD_b, truD_b, truD_i, truD_l, truD_t, intL_i, intL_b, seqD_l, seqD_t, seqD_s, seqD_c, negD_i, DS.at, DS.put, DS.row, addD_i, subD_i, eqD_i, neD_i, ltD_i, leD_i, gtD_i, geD_i, eqD_s, neD_s, out_l, out_d, okS_s, okW_nil, okW_cons, okM_no, okM_im, okM_mf, okM_mt, okN_no, okN_im, okN_mu, wipeE, List.all_cons, List.all_nil, Bool.and_true, Bool.true_and, Bool.and_self, decide_true, decide_false, reduceIte, if_true, if_false, List.length_cons, List.length_nil, List.getElem?_cons_zero, List.getElem?_cons_succ, List.set_cons_zero, List.set_cons_succ, List.map_cons, List.map_nil, Bool.false_eq_true, Option.some.injEq, Bool.not_true, Bool.not_false, Nat.reduceAdd, Nat.reduceLT, Nat.reduceLeDiff, z_mpop0, intD_i, e1, e2, e3, e4, e5]
  · have e1 := ltD_n (a := L.length) (n := L.length)
    rw [decide_eq_false (by omega)] at e1
    have e2 := len_dl L
    unfold PE
    simp only [z_sseq, z_sset, z_sret, z_sif, z_snx, z_sbk, z_sct, z_sdrop, z_sasg, z_spar, z_sown, z_sfor, z_mop2, z_mc, z_mvar, z_MM_opt, z_MM_map, z_mcons, z_mnil, z_pnil, z_pcim, z_pcow, z_acim, z_acsl, z_anil, z_mif, z_mandB, z_morB, z_mnotB, z_mandV, z_morV, z_mnotV, z_mmeth, z_fmeth, z_fop2, z_mdr, z_mdrNe, z_mdrLen, z_mdrPop, z_sdr, z_mappend, z_mextend, z_mpopAt, z_mlenO, z_mnilO, z_msl, z_mcall, z_saug, z_mmethL, z_sdraws, z_mtrue, slots_nil, slots_im, slots_sl, argsE, updE, List.nodup_nil, List.nodup_cons, List.not_mem_nil, List.mem_singleton, not_false_eq_true, and_self, and_true, List.nil_append, List.append_nil, List.cons_append, mtg, Zf.setL, setsE, few, blD_b, truD_b, truD_i, truD_l, truD_t, intL_i, intL_b, seqD_l, seqD_t, seqD_s, seqD_c, negD_i, DS.at, DS.put, DS.row, addD_i, subD_i, eqD_i, neD_i, ltD_i, leD_i, gtD_i, geD_i, eqD_s, neD_s, out_l, out_d, okS_s, okW_nil, okW_cons, okM_no, okM_im, okM_mf, okM_mt, okN_no, okN_im, okN_mu, wipeE, List.all_cons, List.all_nil, Bool.and_true, Bool.true_and, Bool.and_self, decide_true, decide_false, reduceIte, if_true, if_false, List.length_cons, List.length_nil, List.getElem?_cons_zero, List.getElem?_cons_succ, List.set_cons_zero, List.set_cons_succ, List.map_cons, List.map_nil, Bool.false_eq_true, Option.some.injEq, Bool.not_true, Bool.not_false, Nat.reduceAdd, Nat.reduceLT, Nat.reduceLeDiff, z_mpop0, intD_i, e1, e2]
  · have e1 : addI (.int (a : Int)) (.int 1) = some (.int ((a + 1 : Nat) : Int)) := rfl
    unfold PE b_parsed_2
    simp only [z_sseq, z_sset, z_sret, z_sif, z_snx, z_sbk, z_sct, z_sdrop, z_sasg, z_spar, z_sown, z_sfor, z_mop2, z_mc, z_mvar, z_MM_opt, z_MM_map, z_mcons, z_mnil, z_pnil, z_pcim, z_pcow, z_acim, z_acsl, z_anil, z_mif, z_mandB, z_morB, z_mnotB, z_mandV, z_morV, z_mnotV, z_mmeth, z_fmeth, z_fop2, z_mdr, z_mdrNe, z_mdrLen, z_mdrPop, z_sdr, z_mappend, z_mextend, z_mpopAt, z_mlenO, z_mnilO, z_msl, z_mcall, z_saug, z_mmethL, z_sdraws, z_mtrue, slots_nil, slots_im, slots_sl, argsE, updE, List.nodup_nil, List.nodup_cons, List.not_mem_nil, List.mem_singleton, not_false_eq_true, and_self, and_true, List.nil_append, List.append_nil, List.cons_append, mtg, Zf.setL, setsE, few, blD_b, truD_b, truD_i, truD_l, truD_t, intL_i, intL_b, seqD_l, seqD_t, seqD_s, seqD_c, negD_i, DS.at, DS.put, DS.row, addD_i, subD_i, eqD_i, neD_i, ltD_i, leD_i, gtD_i, geD_i, eqD_s, neD_s, out_l, out_d, okS_s, okW_nil, okW_cons, okM_no, okM_im, okM_mf, okM_mt, okN_no, okN_im, okN_mu, wipeE, List.all_cons, List.all_nil, Bool.and_true, Bool.true_and, Bool.and_self, decide_true, decide_false, reduceIte, if_true, if_false, List.length_cons, List.length_nil, List.getElem?_cons_zero, List.getElem?_cons_succ, List.set_cons_zero, List.set_cons_succ, List.map_cons, List.map_nil, Bool.false_eq_true, Option.some.injEq, Bool.not_true, Bool.not_false, Nat.reduceAdd, Nat.reduceLT, Nat.reduceLeDiff, z_mpop0, intD_i, e1]
theorem wants_ok (hS : (L.map List.length).sum + L.length ≤ 70000) (h9 : ∀ l ∈ L, 9 ∉ l) (ha : a ≤ L.length) : swhile (mandB (MM.opt (mop2 ltD (mvar 4) (MM.opt (mcons (mvar 2) (mnil)) lenL)) blD) (mandB (mnotB (MM.opt (mcall F_is_blank [] (acim (mop2 ixD (mvar 2) (mvar 4)) (anil))) truD)) (mnotB (MM.opt (mcall F_is_prompt [] (acim (mop2 ixD (mvar 2) (mvar 4)) (anil))) truD)))) b_parsed_3 100000 (PE x R L P a k t6 t7) = some (.nx (PE x R L P (a + cnt isW L a) k t6 t7)) := by
  have hlen : ∀ l ∈ L, l.length ≤ 70000 := fun l hl => by have := mem_sum hl; omega
  refine inc_loop (g := isW) (fun a => PE x R L P a k t6 t7) (fun a l hl => ?_) ?_ (fun a ha => ?_) _ 100000 a rfl ha (by omega)
  · have hlt := (List.getElem?_eq_some_iff.mp hl).1
    have hm := hlen l (List.mem_of_getElem? hl)
    have e1 := ltD_n (a := a) (n := L.length)
    rw [decide_eq_true hlt] at e1
    have e2 := len_dl L
    have e3 := ix_dl hl
    have e4 := blank_ok l (h9 l (List.mem_of_getElem? hl)) (by omega)
    have e5 := prompt_ok l (by omega)
    unfold PE isW
    cases q : nb l with
    | true =>
      rw [q] at e4
      cases q2 : isP l with
      | true => rw [q2] at e5; simp only [z_sseq, z_sset, z_sret, z_sif, z_snx, z_sbk, z_sct, z_sdrop, z_sasg, z_spar, z_sown, z_sfor, z_mop2, z_mc, z_mvar, z_MM_opt, z_MM_map, z_mcons, z_mnil, z_pnil, z_pcim, z_pcow, z_acim, z_acsl, z_anil, z_mif, z_mandB, z_morB, z_mnotB, z_mandV, z_morV, z_mnotV, z_mmeth, z_fmeth, z_fop2, z_mdr, z_mdrNe, z_mdrLen, z_mdrPop, z_sdr, z_mappend, z_mextend, z_mpopAt, z_mlenO, z_mnilO, z_msl, z_mcall, z_saug, z_mmethL, z_sdraws, z_mtrue, slots_nil, slots_im, slots_sl, argsE, updE, List.nodup_nil, List.nodup_cons, List.not_mem_nil, List.mem_singleton, not_false_eq_true, and_self, and_true, List.nil_append, List.append_nil, List.cons_append, mtg, Zf.setL, setsE, few, blD_b, truD_b, truD_i, truD_l, truD_t, intL_i, intL_b, seqD_l, seqD_t, seqD_s, seqD_c, negD_i, DS.at, DS.put, DS.row, addD_i, subD_i, eqD_i, neD_i, ltD_i, leD_i, gtD_i, geD_i, eqD_s, neD_s, out_l, out_d, okS_s, okW_nil, okW_cons, okM_no, okM_im, okM_mf, okM_mt, okN_no, okN_im, okN_mu, wipeE, List.all_cons, List.all_nil, Bool.and_true, Bool.true_and, Bool.and_self, decide_true, decide_false, reduceIte, if_true, if_false, List.length_cons, List.length_nil, List.getElem?_cons_zero, List.getElem?_cons_succ, List.set_cons_zero, List.set_cons_succ, List.map_cons, List.map_nil, Bool.false_eq_true, Option.some.injEq, Bool.not_true, Bool.not_false, Nat.reduceAdd, Nat.reduceLT, Nat.reduceLeDiff, z_mpop0, intD_i, e1, e2, e3, e4, e5]
      | false => rw [q2] at e5; simp only [z_sseq, z_sset, z_sret, z_sif, z_snx, z_sbk, z_sct, z_sdrop, z_sasg, z_spar, z_sown, z_sfor, z_mop2, z_mc, z_mvar, z_MM_opt, z_MM_map, z_mcons, z_mnil, z_pnil, z_pcim, z_pcow, z_acim, z_acsl, z_anil, z_mif, z_mandB, z_morB, z_mnotB, z_mandV, z_morV, z_mnotV, z_mmeth, z_fmeth, z_fop2, z_mdr, z_mdrNe, z_mdrLen, z_mdrPop, z_sdr, z_mappend, z_mextend, z_mpopAt, z_mlenO, z_mnilO, z_msl, z_mcall, z_saug, z_mmethL, z_sdraws, z_mtrue, slots_nil, slots_im, slots_sl, argsE, updE, List.nodup_nil, List.nodup_cons, List.not_mem_nil, List.mem_singleton, not_false_eq_true, and_self, and_true, List.nil_append, List.append_nil, List.cons_append, mtg, Zf.setL, setsE, few, blD_b, truD_b, truD_i, truD_l, truD_t, intL_i, intL_b, seqD_l, seqD_t, seqD_s, seqD_c, negD_i, DS.at, DS.put, DS.row, addD_i, subD_i, eqD_i, neD_i, ltD_i, leD_i, gtD_i, geD_i, eqD_s, neD_s, out_l, out_d, okS_s, okW_nil, okW_cons, okM_no, okM_im, okM_mf, okM_mt, okN_no, okN_im, okN_mu, wipeE, List.all_cons, List.all_nil, Bool.and_true, Bool.true_and, Bool.and_self, decide_true, decide_false, reduceIte, if_true, if_false, List.length_cons, List.length_nil, List.getElem?_cons_zero, List.getElem?_cons_succ, List.set_cons_zero, List.set_cons_succ, List.map_cons, List.map_nil, Bool.false_eq_true, Option.some.injEq, Bool.not_true, Bool.not_false, Nat.reduceAdd, Nat.reduceLT, Nat.reduceLeDiff, z_mpop0, intD_i, e1, e2, e3, e4, e5]
    | false => rw [q] at e4; simp only [z_sseq, z_sset, z_sret, z_sif, z_snx, z_sbk, z_sct, z_sdrop, z_sasg, z_spar, z_sown, z_sfor, z_mop2, z_mc, z_mvar, z_MM_opt, z_MM_map, z_mcons, z_mnil, z_pnil, z_pcim, z_pcow, z_acim, z_acsl, z_anil, z_mif, z_mandB, z_morB, z_mnotB, z_mandV, z_morV, z_mnotV, z_mmeth, z_fmeth, z_fop2, z_mdr, z_mdrNe, z_mdrLen, z_mdrPop, z_sdr, z_mappend, z_mextend, z_mpopAt, z_mlenO, z_mnilO, z_msl, z_mcall, z_saug, z_mmethL, z_sdraws, z_mtrue, slots_nil, slots_im, slots_sl, argsE, updE, List.nodup_nil, List.nodup_cons, List.not_mem_nil, List.mem_singleton, not_false_eq_true, and_self, and_true, List.nil_append, List.append_nil, List.cons_append, mtg, Zf.setL, setsE, few, blD_b, truD_b, truD_i, truD_l, truD_t, intL_i, intL_b, seqD_l, seqD_t, seqD_s, seqD_c, negD_i, DS.at, DS.put, DS.row, addD_i, subD_i, eqD_i, neD_i, ltD_i, leD_i, gtD_i, geD_i, eqD_s, neD_s, out_l, out_d, okS_s, okW_nil, okW_cons, okM_no, okM_im, okM_mf, okM_mt, okN_no, okN_im, okN_mu, wipeE, List.all_cons, List.all_nil, Bool.and_true, Bool.true_and, Bool.and_self, decide_true, decide_false, reduceIte, if_true, if_false, List.length_cons, List.length_nil, List.getElem?_cons_zero, List.getElem?_cons_succ, List.set_cons_zero, List.set_cons_succ, List.map_cons, List.map_nil, Bool.false_eq_true, Option.some.injEq, Bool.not_true, Bool.not_false, Nat.reduceAdd, Nat.reduceLT, Nat.reduceLeDiff, z_mpop0, intD_i, e1, e2, e3, e4]; rfl
  · have e1 := ltD_n (a := L.length) (n := L.length)
    rw [decide_eq_false (by omega)] at e1
    have e2 := len_dl L
    unfold PE
    simp only [z_sseq, z_sset, z_sret, z_sif, z_snx, z_sbk, z_sct, z_sdrop, z_sasg, z_spar, z_sown, z_sfor, z_mop2, z_mc, z_mvar, z_MM_opt, z_MM_map, z_mcons, z_mnil, z_pnil, z_pcim, z_pcow, z_acim, z_acsl, z_anil, z_mif, z_mandB, z_morB, z_mnotB, z_mandV, z_morV, z_mnotV, z_mmeth, z_fmeth, z_fop2, z_mdr, z_mdrNe, z_mdrLen, z_mdrPop, z_sdr, z_mappend, z_mextend, z_mpopAt, z_mlenO, z_mnilO, z_msl, z_mcall, z_saug, z_mmethL, z_sdraws, z_mtrue, slots_nil, slots_im, slots_sl, argsE, updE, List.nodup_nil, List.nodup_cons, List.not_mem_nil, List.mem_singleton, not_false_eq_true, and_self, and_true, List.nil_append, List.append_nil, List.cons_append, mtg, Zf.setL, setsE, few, blD_b, truD_b, truD_i, truD_l, truD_t, intL_i, intL_b, seqD_l, seqD_t, seqD_s, seqD_c, negD_i, DS.at, DS.put, DS.row, addD_i, subD_i, eqD_i, neD_i, ltD_i, leD_i, gtD_i, geD_i, eqD_s, neD_s, out_l, out_d, okS_s, okW_nil, okW_cons, okM_no, okM_im, okM_mf, okM_mt, okN_no, okN_im, okN_mu, wipeE, List.all_cons, List.all_nil, Bool.and_true, Bool.true_and, Bool.and_self, decide_true, decide_false, reduceIte, if_true, if_false, List.length_cons, List.length_nil, List.getElem?_cons_zero, List.getElem?_cons_succ, List.set_cons_zero, List.set_cons_succ, List.map_cons, List.map_nil, Bool.false_eq_true, Option.some.injEq, Bool.not_true, Bool.not_false, Nat.reduceAdd, Nat.reduceLT, Nat.reduceLeDiff, z_mpop0, intD_i, e1, e2]
  · have e1 : addI (.int (a : Int)) (.int 1) = some (.int ((a + 1 : Nat) : Int)) := rfl
    unfold PE b_parsed_3
    simp only [z_sseq, z_sset, z_sret, z_sif, z_snx, z_sbk, z_sct, z_sdrop, z_sasg, z_spar, z_sown, z_sfor, z_mop2, z_mc, z_mvar, z_MM_opt, z_MM_map, z_mcons, z_mnil, z_pnil, z_pcim, z_pcow, z_acim, z_acsl, z_anil, z_mif, z_mandB, z_morB, z_mnotB, z_mandV, z_morV, z_mnotV, z_mmeth, z_fmeth, z_fop2, z_mdr, z_mdrNe, z_mdrLen, z_mdrPop, z_sdr, z_mappend, z_mextend, z_mpopAt, z_mlenO, z_mnilO, z_msl, z_mcall, z_saug, z_mmethL, z_sdraws, z_mtrue, slots_nil, slots_im, slots_sl, argsE, updE, List.nodup_nil, List.nodup_cons, List.not_mem_nil, List.mem_singleton, not_false_eq_true, and_self, and_true, List.nil_append, List.append_nil, List.cons_append, mtg, Zf.setL, setsE, few, blD_b, truD_b, truD_i, truD_l, truD_t, intL_i, intL_b, seqD_l, seqD_t, seqD_s, seqD_c, negD_i, DS.at, DS.put, DS.row, addD_i, subD_i, eqD_i, neD_i, ltD_i, leD_i, gtD_i, geD_i, eqD_s, neD_s, out_l, out_d, okS_s, okW_nil, okW_cons, okM_no, okM_im, okM_mf, okM_mt, okN_no, okN_im, okN_mu, wipeE, List.all_cons, List.all_nil, Bool.and_true, Bool.true_and, Bool.and_self, decide_true, decide_false, reduceIte, if_true, if_false, List.length_cons, List.length_nil, List.getElem?_cons_zero, List.getElem?_cons_succ, List.set_cons_zero, List.set_cons_succ, List.map_cons, List.map_nil, Bool.false_eq_true, Option.some.injEq, Bool.not_true, Bool.not_false, Nat.reduceAdd, Nat.reduceLT, Nat.reduceLeDiff, z_mpop0, intD_i, e1]
theorem step_no {l : List Nat} (hl : L[a]? = some l) (hlen : l.length ≤ 70000) (hp : isP l = false) : b_parsed_4 (PE x R L P a k t6 t7) = some (.ct (PE x R L P (a + 1) k t6 t7)) := by
  have e3 := ix_dl hl
  have e5 := prompt_ok l (by omega)
  rw [hp] at e5
  have e1 : addI (.int (a : Int)) (.int 1) = some (.int ((a + 1 : Nat) : Int)) := rfl
  unfold PE b_parsed_4
  simp only [z_sseq, z_sset, z_sret, z_sif, z_snx, z_sbk, z_sct, z_sdrop, z_sasg, z_spar, z_sown, z_sfor, z_mop2, z_mc, z_mvar, z_MM_opt, z_MM_map, z_mcons, z_mnil, z_pnil, z_pcim, z_pcow, z_acim, z_acsl, z_anil, z_mif, z_mandB, z_morB, z_mnotB, z_mandV, z_morV, z_mnotV, z_mmeth, z_fmeth, z_fop2, z_mdr, z_mdrNe, z_mdrLen, z_mdrPop, z_sdr, z_mappend, z_mextend, z_mpopAt, z_mlenO, z_mnilO, z_msl, z_mcall, z_saug, z_mmethL, z_sdraws, z_mtrue, slots_nil, slots_im, slots_sl, argsE, updE, List.nodup_nil, List.nodup_cons, List.not_mem_nil, List.mem_singleton, not_false_eq_true, and_self, and_true, List.nil_append, List.append_nil, List.cons_append, mtg, Zf.setL, setsE, few, blD_b, truD_b, truD_i, truD_l, truD_t, intL_i, intL_b, seqD_l, seqD_t, seqD_s, seqD_c, negD_i, DS.at, DS.put, DS.row, addD_i, subD_i, eqD_i, neD_i, ltD_i, leD_i, gtD_i, geD_i, eqD_s, neD_s, out_l, out_d, okS_s, okW_nil, okW_cons, okM_no, okM_im, okM_mf, okM_mt, okN_no, okN_im, okN_mu, wipeE, List.all_cons, List.all_nil, Bool.and_true, Bool.true_and, Bool.and_self, decide_true, decide_false, reduceIte, if_true, if_false, List.length_cons, List.length_nil, List.getElem?_cons_zero, List.getElem?_cons_succ, List.set_cons_zero, List.set_cons_succ, List.map_cons, List.map_nil, Bool.false_eq_true, Option.some.injEq, Bool.not_true, Bool.not_false, Nat.reduceAdd, Nat.reduceLT, Nat.reduceLeDiff, z_mpop0, intD_i, e1, e3, e5]
theorem step_ex {l : List Nat} {m e i : Nat} {rows want : List (List Nat)} (hS : (L.map List.length).sum + L.length ≤ 70000) (hR : (R.map List.length).sum ≤ 1000000) (hRL : R.length = L.length) (hP : P.length ≤ 200000) (h9 : ∀ l ∈ L, 9 ∉ l) (h10 : ∀ l ∈ L, 10 ∉ l) (h6 : okM t6 = true) (h7 : okM t7 = true) (hka : k ≤ a) (hl : L[a]? = some l) (hp : isP l = true) (hm : a + 1 + cnt isM L (a + 1) = m) (he : m + cnt isW L m = e) (c : Pc L a m e i rows want) : b_parsed_4 (PE x R L P a k t6 t7) = some (.nx (PE x R L (P ++ [.str (ml ((R.drop k).take (a - k)).flatten), exaL rows want ((a : Int) + 1) (i : Int)]) e e (.im (.int (a : Int))) (.im (.int (m : Int))))) := by
  have hlt := (List.getElem?_eq_some_iff.mp hl).1
  have hlm := mem_sum (List.mem_of_getElem? hl)
  have e3 := ix_dl hl
  have e5 := prompt_ok l (by omega)
  rw [hp] at e5
  have e1 : addI (.int (a : Int)) (.int 1) = some (.int ((a + 1 : Nat) : Int)) := rfl
  have w1 := more_ok (x := x) (R := R) (P := P) (k := k) (t6 := .im (.int (a : Int))) (t7 := t7) (a := a + 1) hS rfl (by omega)
  rw [hm] at w1
  have hmL := cnt_le isM L (a + 1) (by omega)
  have w2 := wants_ok (x := x) (R := R) (P := P) (k := k) (t6 := .im (.int (a : Int))) (t7 := .im (.int (m : Int))) (a := m) hS h9 (by omega)
  rw [he] at w2
  have s1 := sl_dl_ab R k a hka (by omega)
  have j1 := join_0 ((R.drop k).take (a - k)) (flat_le R k _ hR)
  have pc := piece_ok c hS h9 h10
  have q1 : P.length < 1000000 := by omega
  have q2 : (P ++ [D.str (ml ((R.drop k).take (a - k)).flatten)]).length < 1000000 := by rw [List.length_append, List.length_singleton]; omega
  unfold b_parsed_4
  refine sseq_nx (e1 := PE x R L P a k t6 t7) (by unfold PE; simp only [z_sseq, z_sset, z_sret, z_sif, z_snx, z_sbk, z_sct, z_sdrop, z_sasg, z_spar, z_sown, z_sfor, z_mop2, z_mc, z_mvar, z_MM_opt, z_MM_map, z_mcons, z_mnil, z_pnil, z_pcim, z_pcow, z_acim, z_acsl, z_anil, z_mif, z_mandB, z_morB, z_mnotB, z_mandV, z_morV, z_mnotV, z_mmeth, z_fmeth, z_fop2, z_mdr, z_mdrNe, z_mdrLen, z_mdrPop, z_sdr, z_mappend, z_mextend, z_mpopAt, z_mlenO, z_mnilO, z_msl, z_mcall, z_saug, z_mmethL, z_sdraws, z_mtrue, slots_nil, slots_im, slots_sl, argsE, updE, List.nodup_nil, List.nodup_cons, List.not_mem_nil, List.mem_singleton, not_false_eq_true, and_self, and_true, List.nil_append, List.append_nil, List.cons_append, mtg, Zf.setL, setsE, few, blD_b, truD_b, truD_i, truD_l, truD_t, intL_i, intL_b, seqD_l, seqD_t, seqD_s, seqD_c, negD_i, DS.at, DS.put, DS.row, addD_i, subD_i, eqD_i, neD_i, ltD_i, leD_i, gtD_i, geD_i, eqD_s, neD_s, out_l, out_d, okS_s, okW_nil, okW_cons, okM_no, okM_im, okM_mf, okM_mt, okN_no, okN_im, okN_mu, wipeE, List.all_cons, List.all_nil, Bool.and_true, Bool.true_and, Bool.and_self, decide_true, decide_false, reduceIte, if_true, if_false, List.length_cons, List.length_nil, List.getElem?_cons_zero, List.getElem?_cons_succ, List.set_cons_zero, List.set_cons_succ, List.map_cons, List.map_nil, Bool.false_eq_true, Option.some.injEq, Bool.not_true, Bool.not_false, Nat.reduceAdd, Nat.reduceLT, Nat.reduceLeDiff, z_mpop0, intD_i, e3, e5]) ?_
  refine sseq_nx (e1 := PE x R L P a k (.im (.int (a : Int))) t7) (by unfold PE; simp only [z_sseq, z_sset, z_sret, z_sif, z_snx, z_sbk, z_sct, z_sdrop, z_sasg, z_spar, z_sown, z_sfor, z_mop2, z_mc, z_mvar, z_MM_opt, z_MM_map, z_mcons, z_mnil, z_pnil, z_pcim, z_pcow, z_acim, z_acsl, z_anil, z_mif, z_mandB, z_morB, z_mnotB, z_mandV, z_morV, z_mnotV, z_mmeth, z_fmeth, z_fop2, z_mdr, z_mdrNe, z_mdrLen, z_mdrPop, z_sdr, z_mappend, z_mextend, z_mpopAt, z_mlenO, z_mnilO, z_msl, z_mcall, z_saug, z_mmethL, z_sdraws, z_mtrue, slots_nil, slots_im, slots_sl, argsE, updE, List.nodup_nil, List.nodup_cons, List.not_mem_nil, List.mem_singleton, not_false_eq_true, and_self, and_true, List.nil_append, List.append_nil, List.cons_append, mtg, Zf.setL, setsE, few, blD_b, truD_b, truD_i, truD_l, truD_t, intL_i, intL_b, seqD_l, seqD_t, seqD_s, seqD_c, negD_i, DS.at, DS.put, DS.row, addD_i, subD_i, eqD_i, neD_i, ltD_i, leD_i, gtD_i, geD_i, eqD_s, neD_s, out_l, out_d, okS_s, okW_nil, okW_cons, okM_no, okM_im, okM_mf, okM_mt, okN_no, okN_im, okN_mu, wipeE, List.all_cons, List.all_nil, Bool.and_true, Bool.true_and, Bool.and_self, decide_true, decide_false, reduceIte, if_true, if_false, List.length_cons, List.length_nil, List.getElem?_cons_zero, List.getElem?_cons_succ, List.set_cons_zero, List.set_cons_succ, List.map_cons, List.map_nil, Bool.false_eq_true, Option.some.injEq, Bool.not_true, Bool.not_false, Nat.reduceAdd, Nat.reduceLT, Nat.reduceLeDiff, z_mpop0, intD_i, h6]) ?_
  refine sseq_nx (e1 := PE x R L P (a + 1) k (.im (.int (a : Int))) t7) (by unfold PE; simp only [z_sseq, z_sset, z_sret, z_sif, z_snx, z_sbk, z_sct, z_sdrop, z_sasg, z_spar, z_sown, z_sfor, z_mop2, z_mc, z_mvar, z_MM_opt, z_MM_map, z_mcons, z_mnil, z_pnil, z_pcim, z_pcow, z_acim, z_acsl, z_anil, z_mif, z_mandB, z_morB, z_mnotB, z_mandV, z_morV, z_mnotV, z_mmeth, z_fmeth, z_fop2, z_mdr, z_mdrNe, z_mdrLen, z_mdrPop, z_sdr, z_mappend, z_mextend, z_mpopAt, z_mlenO, z_mnilO, z_msl, z_mcall, z_saug, z_mmethL, z_sdraws, z_mtrue, slots_nil, slots_im, slots_sl, argsE, updE, List.nodup_nil, List.nodup_cons, List.not_mem_nil, List.mem_singleton, not_false_eq_true, and_self, and_true, List.nil_append, List.append_nil, List.cons_append, mtg, Zf.setL, setsE, few, blD_b, truD_b, truD_i, truD_l, truD_t, intL_i, intL_b, seqD_l, seqD_t, seqD_s, seqD_c, negD_i, DS.at, DS.put, DS.row, addD_i, subD_i, eqD_i, neD_i, ltD_i, leD_i, gtD_i, geD_i, eqD_s, neD_s, out_l, out_d, okS_s, okW_nil, okW_cons, okM_no, okM_im, okM_mf, okM_mt, okN_no, okN_im, okN_mu, wipeE, List.all_cons, List.all_nil, Bool.and_true, Bool.true_and, Bool.and_self, decide_true, decide_false, reduceIte, if_true, if_false, List.length_cons, List.length_nil, List.getElem?_cons_zero, List.getElem?_cons_succ, List.set_cons_zero, List.set_cons_succ, List.map_cons, List.map_nil, Bool.false_eq_true, Option.some.injEq, Bool.not_true, Bool.not_false, Nat.reduceAdd, Nat.reduceLT, Nat.reduceLeDiff, z_mpop0, intD_i, e1]) ?_
  refine sseq_nx w1 ?_
  refine sseq_nx (e1 := PE x R L P m k (.im (.int (a : Int))) (.im (.int (m : Int)))) (by unfold PE; simp only [z_sseq, z_sset, z_sret, z_sif, z_snx, z_sbk, z_sct, z_sdrop, z_sasg, z_spar, z_sown, z_sfor, z_mop2, z_mc, z_mvar, z_MM_opt, z_MM_map, z_mcons, z_mnil, z_pnil, z_pcim, z_pcow, z_acim, z_acsl, z_anil, z_mif, z_mandB, z_morB, z_mnotB, z_mandV, z_morV, z_mnotV, z_mmeth, z_fmeth, z_fop2, z_mdr, z_mdrNe, z_mdrLen, z_mdrPop, z_sdr, z_mappend, z_mextend, z_mpopAt, z_mlenO, z_mnilO, z_msl, z_mcall, z_saug, z_mmethL, z_sdraws, z_mtrue, slots_nil, slots_im, slots_sl, argsE, updE, List.nodup_nil, List.nodup_cons, List.not_mem_nil, List.mem_singleton, not_false_eq_true, and_self, and_true, List.nil_append, List.append_nil, List.cons_append, mtg, Zf.setL, setsE, few, blD_b, truD_b, truD_i, truD_l, truD_t, intL_i, intL_b, seqD_l, seqD_t, seqD_s, seqD_c, negD_i, DS.at, DS.put, DS.row, addD_i, subD_i, eqD_i, neD_i, ltD_i, leD_i, gtD_i, geD_i, eqD_s, neD_s, out_l, out_d, okS_s, okW_nil, okW_cons, okM_no, okM_im, okM_mf, okM_mt, okN_no, okN_im, okN_mu, wipeE, List.all_cons, List.all_nil, Bool.and_true, Bool.true_and, Bool.and_self, decide_true, decide_false, reduceIte, if_true, if_false, List.length_cons, List.length_nil, List.getElem?_cons_zero, List.getElem?_cons_succ, List.set_cons_zero, List.set_cons_succ, List.map_cons, List.map_nil, Bool.false_eq_true, Option.some.injEq, Bool.not_true, Bool.not_false, Nat.reduceAdd, Nat.reduceLT, Nat.reduceLeDiff, z_mpop0, intD_i, h7]) ?_
  refine sseq_nx w2 ?_
  refine sseq_nx (e1 := PE x R L (P ++ [.str (ml ((R.drop k).take (a - k)).flatten)]) e k (.im (.int (a : Int))) (.im (.int (m : Int)))) (by unfold PE; simp only [z_sseq, z_sset, z_sret, z_sif, z_snx, z_sbk, z_sct, z_sdrop, z_sasg, z_spar, z_sown, z_sfor, z_mop2, z_mc, z_mvar, z_MM_opt, z_MM_map, z_mcons, z_mnil, z_pnil, z_pcim, z_pcow, z_acim, z_acsl, z_anil, z_mif, z_mandB, z_morB, z_mnotB, z_mandV, z_morV, z_mnotV, z_mmeth, z_fmeth, z_fop2, z_mdr, z_mdrNe, z_mdrLen, z_mdrPop, z_sdr, z_mappend, z_mextend, z_mpopAt, z_mlenO, z_mnilO, z_msl, z_mcall, z_saug, z_mmethL, z_sdraws, z_mtrue, slots_nil, slots_im, slots_sl, argsE, updE, List.nodup_nil, List.nodup_cons, List.not_mem_nil, List.mem_singleton, not_false_eq_true, and_self, and_true, List.nil_append, List.append_nil, List.cons_append, mtg, Zf.setL, setsE, few, blD_b, truD_b, truD_i, truD_l, truD_t, intL_i, intL_b, seqD_l, seqD_t, seqD_s, seqD_c, negD_i, DS.at, DS.put, DS.row, addD_i, subD_i, eqD_i, neD_i, ltD_i, leD_i, gtD_i, geD_i, eqD_s, neD_s, out_l, out_d, okS_s, okW_nil, okW_cons, okM_no, okM_im, okM_mf, okM_mt, okN_no, okN_im, okN_mu, wipeE, List.all_cons, List.all_nil, Bool.and_true, Bool.true_and, Bool.and_self, decide_true, decide_false, reduceIte, if_true, if_false, List.length_cons, List.length_nil, List.getElem?_cons_zero, List.getElem?_cons_succ, List.set_cons_zero, List.set_cons_succ, List.map_cons, List.map_nil, Bool.false_eq_true, Option.some.injEq, Bool.not_true, Bool.not_false, Nat.reduceAdd, Nat.reduceLT, Nat.reduceLeDiff, z_mpop0, intD_i, s1, j1, q1, intD]) ?_
  refine sseq_nx (e1 := PE x R L (P ++ [.str (ml ((R.drop k).take (a - k)).flatten), exaL rows want ((a : Int) + 1) (i : Int)]) e k (.im (.int (a : Int))) (.im (.int (m : Int)))) (by
    unfold PE
    simp only [z_sseq, z_sset, z_sret, z_sif, z_snx, z_sbk, z_sct, z_sdrop, z_sasg, z_spar, z_sown, z_sfor, z_mop2, z_mc, z_mvar, z_MM_opt, z_MM_map, z_mcons, z_mnil, z_pnil, z_pcim, z_pcow, z_acim, z_acsl, z_anil, z_mif, z_mandB, z_morB, z_mnotB, z_mandV, z_morV, z_mnotV, z_mmeth, z_fmeth, z_fop2, z_mdr, z_mdrNe, z_mdrLen, z_mdrPop, z_sdr, z_mappend, z_mextend, z_mpopAt, z_mlenO, z_mnilO, z_msl, z_mcall, z_saug, z_mmethL, z_sdraws, z_mtrue, slots_nil, slots_im, slots_sl, argsE, updE, List.nodup_nil, List.nodup_cons, List.not_mem_nil, List.mem_singleton, not_false_eq_true, and_self, and_true, List.nil_append, List.append_nil, List.cons_append, mtg, Zf.setL, setsE, few, blD_b, truD_b, truD_i, truD_l, truD_t, intL_i, intL_b, seqD_l, seqD_t, seqD_s, seqD_c, negD_i, DS.at, DS.put, DS.row, addD_i, subD_i, eqD_i, neD_i, ltD_i, leD_i, gtD_i, geD_i, eqD_s, neD_s, out_l, out_d, okS_s, okW_nil, okW_cons, okM_no, okM_im, okM_mf, okM_mt, okN_no, okN_im, okN_mu, wipeE, List.all_cons, List.all_nil, Bool.and_true, Bool.true_and, Bool.and_self, decide_true, decide_false, reduceIte, if_true, if_false, List.length_cons, List.length_nil, List.getElem?_cons_zero, List.getElem?_cons_succ, List.set_cons_zero, List.set_cons_succ, List.map_cons, List.map_nil, Bool.false_eq_true, Option.some.injEq, Bool.not_true, Bool.not_false, Nat.reduceAdd, Nat.reduceLT, Nat.reduceLeDiff, z_mpop0, intD_i, pc, q2]
    rw [List.append_assoc]; rfl) ?_
  unfold PE
  simp only [z_sseq, z_sset, z_sret, z_sif, z_snx, z_sbk, z_sct, z_sdrop, z_sasg, z_spar, z_sown, z_sfor, z_mop2, z_mc, z_mvar, z_MM_opt, z_MM_map, z_mcons, z_mnil, z_pnil, z_pcim, z_pcow, z_acim, z_acsl, z_anil, z_mif, z_mandB, z_morB, z_mnotB, z_mandV, z_morV, z_mnotV, z_mmeth, z_fmeth, z_fop2, z_mdr, z_mdrNe, z_mdrLen, z_mdrPop, z_sdr, z_mappend, z_mextend, z_mpopAt, z_mlenO, z_mnilO, z_msl, z_mcall, z_saug, z_mmethL, z_sdraws, z_mtrue, slots_nil, slots_im, slots_sl, argsE, updE, List.nodup_nil, List.nodup_cons, List.not_mem_nil, List.mem_singleton, not_false_eq_true, and_self, and_true, List.nil_append, List.append_nil, List.cons_append, mtg, Zf.setL, setsE, few, blD_b, truD_b, truD_i, truD_l, truD_t, intL_i, intL_b, seqD_l, seqD_t, seqD_s, seqD_c, negD_i, DS.at, DS.put, DS.row, addD_i, subD_i, eqD_i, neD_i, ltD_i, leD_i, gtD_i, geD_i, eqD_s, neD_s, out_l, out_d, okS_s, okW_nil, okW_cons, okM_no, okM_im, okM_mf, okM_mt, okN_no, okN_im, okN_mu, wipeE, List.all_cons, List.all_nil, Bool.and_true, Bool.true_and, Bool.and_self, decide_true, decide_false, reduceIte, if_true, if_false, List.length_cons, List.length_nil, List.getElem?_cons_zero, List.getElem?_cons_succ, List.set_cons_zero, List.set_cons_succ, List.map_cons, List.map_nil, Bool.false_eq_true, Option.some.injEq, Bool.not_true, Bool.not_false, Nat.reduceAdd, Nat.reduceLT, Nat.reduceLeDiff, z_mpop0, intD_i]
end
end Zz

set_option Elab.async false
set_option linter.all false
set_option maxRecDepth 100000
set_option maxHeartbeats 1000000
/-! tools for the laws (those of Lw that need nothing of checker.py) -/
namespace Zz
open PySem PySem.Spec L2 Zf
theorem dok_le {s : DS} {c c' : Int} (h : DOk s c) (hc : c ≤ c') : DOk s c' := ⟨h.1, Int.le_trans h.2.1 hc, h.2.2⟩
theorem lcL_t2 {i j : Nat} {me : MM D} {e : En} (hi : e[i]? = some .no) (hj : e[j]? = some .no) (hij : i ≠ j) (f : D → D) : ∀ ds : List D, (∀ d ∈ ds, ∃ a b, d = .tup [a, b] ∧ me ((e.set i (.im a)).set j (.im b)) = some (f d, (e.set i (.im a)).set j (.im b))) → lcL (.tup [i, j]) [i, j] mtrue me ds e = some (ds.map f, e)
  | [], _ => rfl
  | d :: ds, h => by
    have hl := (List.getElem?_eq_some_iff.mp hi).1
    have hl2 := (List.getElem?_eq_some_iff.mp hj).1
    obtain ⟨a, b, rfl, h2⟩ := h d List.mem_cons_self
    have ih := lcL_t2 hi hj hij f ds (fun x hx => h x (List.mem_cons_of_mem _ hx))
    have ho : okS e i = true := by rw [okS_s, hi]; rfl
    have ho2 : okS (e.set i (.im a)) j = true := by rw [okS_s, List.getElem?_set_ne hij, hj]; rfl
    have ht : mtg (.tup [i, j]) (.tup [a, b]) e = some ((e.set i (.im a)).set j (.im b)) := by
      simp only [mtg, Zf.setL, if_pos ho, if_pos ho2]
    have hw : okW ((e.set i (.im a)).set j (.im b)) [i, j] = true := by
      rw [okW_cons, okW_cons, okW_nil, List.getElem?_set_self (by rw [List.length_set]; exact hl2), List.getElem?_set_ne hij.symm, List.getElem?_set_self hl]; rfl
    have hp : wipeE ((e.set i (.im a)).set j (.im b)) [i, j] = e := by
      show (((e.set i (.im a)).set j (.im b)).set j .no).set i .no = e
      rw [List.set_set, List.set_comm _ _ hij.symm, List.set_set]
      exact (by
        have h1 : e.set i .no = e := by
          have := set_no (s := .no) hi
          rw [List.set_set] at this
          exact this
        have h2 : e.set j .no = e := by
          have := set_no (s := .no) hj
          rw [List.set_set] at this
          exact this
        rw [h1, h2])
    have hm : mtrue ((e.set i (.im a)).set j (.im b)) = some (true, (e.set i (.im a)).set j (.im b)) := rfl
    simp only [lcL, ht, hm, h2, if_pos hw, hp, ih, List.map_cons]
theorem mlc_t2 {i j : Nat} {mi : MM (List D)} {me : MM D} {e e1 e2 : En} {ds : List D} (f : D → D) (hm : mi e = some (ds, e1)) (hn : ds.length ≤ 100000) (hw : okW e1 [i, j] = true) (hp : wipeE e1 [i, j] = e2) (hi : e2[i]? = some .no) (hj : e2[j]? = some .no) (hij : i ≠ j) (h : ∀ d ∈ ds, ∃ a b, d = .tup [a, b] ∧ me ((e2.set i (.im a)).set j (.im b)) = some (f d, (e2.set i (.im a)).set j (.im b))) :
    mlc (.tup [i, j]) [i, j] mi mtrue me e = some (ds.map f, e2) := by
  unfold mlc
  simp only [hm, if_pos (And.intro hn hw), hp, lcL_t2 hi hj hij f ds h]
theorem lcL_t3 {i j k : Nat} {me : MM D} {e : En} (hi : e[i]? = some .no) (hj : e[j]? = some .no) (hk : e[k]? = some .no) (hij : i ≠ j) (hik : i ≠ k) (hjk : j ≠ k) (f : D → D) : ∀ ds : List D, (∀ d ∈ ds, ∃ a b c, d = .tup [a, b, c] ∧ me (((e.set i (.im a)).set j (.im b)).set k (.im c)) = some (f d, ((e.set i (.im a)).set j (.im b)).set k (.im c))) → lcL (.tup [i, j, k]) [i, j, k] mtrue me ds e = some (ds.map f, e)
  | [], _ => rfl
  | d :: ds, h => by
    have hl := (List.getElem?_eq_some_iff.mp hi).1
    have hl2 := (List.getElem?_eq_some_iff.mp hj).1
    have hl3 := (List.getElem?_eq_some_iff.mp hk).1
    obtain ⟨a, b, c, rfl, h2⟩ := h d List.mem_cons_self
    have ih := lcL_t3 hi hj hk hij hik hjk f ds (fun x hx => h x (List.mem_cons_of_mem _ hx))
    have ho : okS e i = true := by rw [okS_s, hi]; rfl
    have ho2 : okS (e.set i (.im a)) j = true := by rw [okS_s, List.getElem?_set_ne hij, hj]; rfl
    have ho3 : okS ((e.set i (.im a)).set j (.im b)) k = true := by rw [okS_s, List.getElem?_set_ne hjk, List.getElem?_set_ne hik, hk]; rfl
    have ht : mtg (.tup [i, j, k]) (.tup [a, b, c]) e = some (((e.set i (.im a)).set j (.im b)).set k (.im c)) := by
      simp only [mtg, Zf.setL, if_pos ho, if_pos ho2, if_pos ho3]
    have hw : okW (((e.set i (.im a)).set j (.im b)).set k (.im c)) [i, j, k] = true := by
      rw [okW_cons, okW_cons, okW_cons, okW_nil, List.getElem?_set_self (by rw [List.length_set, List.length_set]; exact hl3), List.getElem?_set_ne hjk.symm, List.getElem?_set_self (by rw [List.length_set]; exact hl2), List.getElem?_set_ne hik.symm, List.getElem?_set_ne hij.symm, List.getElem?_set_self hl]; rfl
    have hno : ∀ {n : Nat}, e[n]? = some .no → e.set n .no = e := fun {n} h => by
      have := set_no (s := .no) h
      rw [List.set_set] at this
      exact this
    have hp : wipeE (((e.set i (.im a)).set j (.im b)).set k (.im c)) [i, j, k] = e := by
      show (((((e.set i (.im a)).set j (.im b)).set k (.im c)).set k .no).set j .no).set i .no = e
      rw [List.set_set, List.set_comm (i := k) (j := j) _ _ hjk.symm, List.set_set, List.set_comm (i := k) (j := i) _ _ hik.symm, List.set_comm (i := j) (j := i) _ _ hij.symm, List.set_set, hno hi, hno hj, hno hk]
    have hm : mtrue (((e.set i (.im a)).set j (.im b)).set k (.im c)) = some (true, ((e.set i (.im a)).set j (.im b)).set k (.im c)) := rfl
    simp only [lcL, ht, hm, h2, if_pos hw, hp, ih, List.map_cons]
theorem mlc_t3 {i j k : Nat} {mi : MM (List D)} {me : MM D} {e e1 e2 : En} {ds : List D} (f : D → D) (hm : mi e = some (ds, e1)) (hn : ds.length ≤ 100000) (hw : okW e1 [i, j, k] = true) (hp : wipeE e1 [i, j, k] = e2) (hi : e2[i]? = some .no) (hj : e2[j]? = some .no) (hk : e2[k]? = some .no) (hij : i ≠ j) (hik : i ≠ k) (hjk : j ≠ k) (h : ∀ d ∈ ds, ∃ a b c, d = .tup [a, b, c] ∧ me (((e2.set i (.im a)).set j (.im b)).set k (.im c)) = some (f d, ((e2.set i (.im a)).set j (.im b)).set k (.im c))) :
    mlc (.tup [i, j, k]) [i, j, k] mi mtrue me e = some (ds.map f, e2) := by
  unfold mlc
  simp only [hm, if_pos (And.intro hn hw), hp, lcL_t3 hi hj hk hij hik hjk f ds h]
theorem mlc_m' {i : Nat} {mi : MM (List D)} {me : MM D} {e e1 e2 : En} {ds : List D} (f : D → D) (hm : mi e = some (ds, e1)) (hn : ds.length ≤ 100000) (hw : okW e1 [i] = true) (hp : wipeE e1 [i] = e2) (hi : e2[i]? = some .no) (h : ∀ d ∈ ds, me (e2.set i (.im d)) = some (f d, e2.set i (.im d))) :
    mlc (.one i) [i] mi mtrue me e = some (ds.map f, e2) := by
  have h0 := lcL_fm hi (mt := mtrue) (fun _ => true) f ds (fun d hd => ⟨rfl, fun _ => h d hd⟩)
  have e3 : ds.filter (fun _ => true) = ds := List.filter_eq_self.mpr fun _ _ => rfl
  rw [e3] at h0
  unfold mlc
  simp only [hm, if_pos (And.intro hn hw), hp, h0]
theorem mlc_draw {σ : Type} {i : Nat} {mi : MM (List D)} {me : MM D} {e e0 : En} {n : Nat} (E : σ → En) (I : Nat → σ → Prop) (Q : D → Prop) (s : σ) (hs : I 0 s) (hm : mi e = some (rngD 0 n, e0)) (he0 : wipeE e0 [i] = E s) (hn : n ≤ 100000) (hw : okW e0 [i] = true) (hno : ∀ s, (E s)[i]? = some .no)
    (h : ∀ (s : σ) (m : Nat), m < n → I m s → ∃ d s', me ((E s).set i (.im (.int m))) = some (d, (E s').set i (.im (.int m))) ∧ Q d ∧ I (m + 1) s') :
    ∃ (ys : List D) (s' : σ), mlc (.one i) [i] mi mtrue me e = some (ys, E s') ∧ ys.length = n ∧ (∀ y ∈ ys, Q y) ∧ I n s' := by
  obtain ⟨ys, e', h1, ⟨s', hs', rfl⟩, h3, h4⟩ := lcL_inv (t := .one i) (own := [i]) (mt := mtrue) (me := me) (fun m e => ∃ s', I m s' ∧ e = E s') (fun _ y => Q y) (rngD 0 n) 0 (E s) ⟨s, hs, rfl⟩ (by
    intro m x e hi hp
    obtain ⟨s1, hs1, rfl⟩ := hp
    obtain ⟨rfl, hin⟩ := rng_at hi
    rw [Nat.zero_add] at hs1 ⊢
    obtain ⟨d, s2, h1, h2, h3⟩ := h s1 m hin hs1
    have hl := (List.getElem?_eq_some_iff.mp (hno s1)).1
    have hl2 := (List.getElem?_eq_some_iff.mp (hno s2)).1
    have ho : okS (E s1) i = true := by rw [okS_s, hno s1]; rfl
    refine ⟨_, _, _, d, (by simp only [mtg, if_pos ho]), rfl, h1, ?_, ⟨s2, h3, ?_⟩, h2⟩
    · rw [okW_cons, List.getElem?_set_self hl2, okW_nil]; rfl
    · exact set_no (hno s2))
  rw [rng_len] at hs' h3
  refine ⟨ys, s', ?_, h3, fun y hy => ?_, by simpa using hs'⟩
  · unfold mlc
    have : (rngD 0 n).length ≤ 100000 := by rw [rng_len]; exact hn
    simp only [hm, if_pos (And.intro this hw), he0, h1]
  · obtain ⟨m, hm, rfl⟩ := List.getElem_of_mem hy
    exact h4 m _ (List.getElem?_eq_getElem hm)
def Fz (t : Sl) (P : List D) : Prop := t = .mu false (.ml P) ∨ t = .im (.lst P)
theorem neD_bb (b : Bool) : neD (.bl b) (.bl b) = some (.bl false) := by cases b <;> rfl
theorem eqD_bb (b : Bool) : eqD (.bl b) (.bl b) = some (.bl true) := by cases b <;> rfl
theorem okM_N {t : Sl} (h : okN t = true) : okM t = true := by cases t <;> first | rfl | cases h
theorem mlc_fm' {i : Nat} {mi : MM (List D)} {mt : MM Bool} {me : MM D} {e e1 e2 : En} {ds : List D} (p : D → Bool) (f : D → D) (hm : mi e = some (ds, e1)) (hn : ds.length ≤ 100000) (hw : okW e1 [i] = true) (hp : wipeE e1 [i] = e2) (hi : e2[i]? = some .no) (h : ∀ d ∈ ds, mt (e2.set i (.im d)) = some (p d, e2.set i (.im d)) ∧ (p d = true → me (e2.set i (.im d)) = some (f d, e2.set i (.im d)))) :
    mlc (.one i) [i] mi mt me e = some ((ds.filter p).map f, e2) := by
  have h0 := lcL_fm hi p f ds h
  unfold mlc
  simp only [hm, if_pos (And.intro hn hw), hp, h0]
end Zz

set_option Elab.async false
set_option linter.all false
set_option maxRecDepth 100000
set_option maxHeartbeats 1000000
/-! texts.py: parsed, examples_of -/
namespace Zz
open PySem PySem.Spec L2 Zf
def keepD : D → Bool
  | .str z => !decide (z = ("" : Str))
  | _ => true
def isEx : D → Bool
  | .obj c _ => decide (c = 0)
  | _ => false
/-- texts, examples, comments -/
def PcD (d : D) : Prop := (∃ z, d = .str z) ∨ ∃ c fs, d = .obj c fs ∧ (c = 0 ∨ c = 1)
theorem cut_m1 (l : List Nat) : cutS (ml l) none (some (-1)) = ml l.dropLast := by
  unfold cutS HT.sIx
  simp only
  rw [if_pos (by omega), ml_len, ls_ml, List.drop_zero, Nat.sub_zero, List.dropLast_eq_take]
  refine congrArg ml ?_
  congr 1
  omega
theorem sl_m1 (l : List Nat) (h : l.length ≤ 100000) : slD (.str (ml l)) none (some (-1)) = some (.str (ml l.dropLast)) := by
  have : (ml l).length ≤ 100000 := by rw [ml_len]; exact h
  simp only [slD, if_pos this, cut_m1]
theorem endsD (l : List Nat) : endsM (ml l) [.str ("\n" : Str)] = some (.bl (decide (l.getLast? = some 10))) := by
  simp only [endsM]
  rw [show ("\n" : Str) = ⟨#[10]⟩ by decide, ends_one, ls_ml]
def cutL (l : List Nat) : List Nat := if l.getLast? = some 10 then l.dropLast else l
theorem cutL_ok (l : List Nat) (h : l.length ≤ 90000) (E : En) (hE : E[8]? = some (.im (.str (ml l)))) : e_parsed_1 E = some (.str (ml (cutL l)), E) := by
  have e1 := endsD l
  have e2 := sl_m1 l (by omega)
  have hneg : negD (.int 1) = some (.int (-1)) := rfl
  unfold e_parsed_1 cutL
  by_cases q : l.getLast? = some 10
  · rw [decide_eq_true q] at e1
    rw [if_pos q]
    simp only [z_sseq, z_sset, z_sret, z_sif, z_snx, z_sbk, z_sct, z_sdrop, z_sasg, z_spar, z_sown, z_sfor, z_mop2, z_mc, z_mvar, z_MM_opt, z_MM_map, z_mcons, z_mnil, z_pnil, z_pcim, z_pcow, z_acim, z_acsl, z_anil, z_mif, z_mandB, z_morB, z_mnotB, z_mandV, z_morV, z_mnotV, z_mmeth, z_fmeth, z_fop2, z_mdr, z_mdrNe, z_mdrLen, z_mdrPop, z_sdr, z_mappend, z_mextend, z_mpopAt, z_mlenO, z_mnilO, z_msl, z_mcall, z_saug, z_mmethL, z_sdraws, z_mtrue, slots_nil, slots_im, slots_sl, argsE, updE, List.nodup_nil, List.nodup_cons, List.not_mem_nil, List.mem_singleton, not_false_eq_true, and_self, and_true, List.nil_append, List.append_nil, List.cons_append, mtg, Zf.setL, setsE, few, blD_b, truD_b, truD_i, truD_l, truD_t, intL_i, intL_b, seqD_l, seqD_t, seqD_s, seqD_c, negD_i, DS.at, DS.put, DS.row, addD_i, subD_i, eqD_i, neD_i, ltD_i, leD_i, gtD_i, geD_i, eqD_s, neD_s, out_l, out_d, okS_s, okW_nil, okW_cons, okM_no, okM_im, okM_mf, okM_mt, okN_no, okN_im, okN_mu, wipeE, List.all_cons, List.all_nil, Bool.and_true, Bool.true_and, Bool.and_self, decide_true, decide_false, reduceIte, if_true, if_false, List.length_cons, List.length_nil, List.getElem?_cons_zero, List.getElem?_cons_succ, List.set_cons_zero, List.set_cons_succ, List.map_cons, List.map_nil, Bool.false_eq_true, Option.some.injEq, Bool.not_true, Bool.not_false, Nat.reduceAdd, Nat.reduceLT, Nat.reduceLeDiff, z_mpop0, intD_i, hE, e1, e2, hneg, intD]
  · rw [decide_eq_false q] at e1
    rw [if_neg q]
    simp only [z_sseq, z_sset, z_sret, z_sif, z_snx, z_sbk, z_sct, z_sdrop, z_sasg, z_spar, z_sown, z_sfor, z_mop2, z_mc, z_mvar, z_MM_opt, z_MM_map, z_mcons, z_mnil, z_pnil, z_pcim, z_pcow, z_acim, z_acsl, z_anil, z_mif, z_mandB, z_morB, z_mnotB, z_mandV, z_morV, z_mnotV, z_mmeth, z_fmeth, z_fop2, z_mdr, z_mdrNe, z_mdrLen, z_mdrPop, z_sdr, z_mappend, z_mextend, z_mpopAt, z_mlenO, z_mnilO, z_msl, z_mcall, z_saug, z_mmethL, z_sdraws, z_mtrue, slots_nil, slots_im, slots_sl, argsE, updE, List.nodup_nil, List.nodup_cons, List.not_mem_nil, List.mem_singleton, not_false_eq_true, and_self, and_true, List.nil_append, List.append_nil, List.cons_append, mtg, Zf.setL, setsE, few, blD_b, truD_b, truD_i, truD_l, truD_t, intL_i, intL_b, seqD_l, seqD_t, seqD_s, seqD_c, negD_i, DS.at, DS.put, DS.row, addD_i, subD_i, eqD_i, neD_i, ltD_i, leD_i, gtD_i, geD_i, eqD_s, neD_s, out_l, out_d, okS_s, okW_nil, okW_cons, okM_no, okM_im, okM_mf, okM_mt, okN_no, okN_im, okN_mu, wipeE, List.all_cons, List.all_nil, Bool.and_true, Bool.true_and, Bool.and_self, decide_true, decide_false, reduceIte, if_true, if_false, List.length_cons, List.length_nil, List.getElem?_cons_zero, List.getElem?_cons_succ, List.set_cons_zero, List.set_cons_succ, List.map_cons, List.map_nil, Bool.false_eq_true, Option.some.injEq, Bool.not_true, Bool.not_false, Nat.reduceAdd, Nat.reduceLT, Nat.reduceLeDiff, z_mpop0, intD_i, hE, e1]
theorem cutL_rows {A : List (List Nat)} {z : List Nat} (hz : 10 ∉ z) : (rowsL A z).map cutL = A ++ tl z := by
  unfold rowsL
  rw [List.map_append, List.map_map]
  congr 1
  · refine (List.map_congr_left fun p _ => ?_).trans (List.map_id' A)
    show cutL (p ++ [10]) = p
    unfold cutL
    rw [if_pos (by simp), List.dropLast_concat]
  · unfold tl
    by_cases q : z = []
    · rw [if_pos q]; rfl
    · rw [if_neg q]
      show [cutL z] = [z]
      unfold cutL
      rw [if_neg]
      intro h
      exact hz (List.mem_of_getLast? h)
theorem keep_ok (d : D) (hd : PcD d) (E : En) (hE : E[9]? = some (.im d)) : t_parsed_5 E = some (keepD d, E) := by
  have hv : mvar 9 E = some (d, E) := by rw [z_mvar, hE]
  unfold t_parsed_5
  rw [z_MM_opt, z_mop2, hv]
  rcases hd with ⟨z, rfl⟩ | ⟨c, fs, rfl, rfl | rfl⟩ <;> rfl
theorem isEx_ok (d : D) (hd : PcD d) (E : En) (hE : E[1]? = some (.im d)) : t_examples_of_1 E = some (isEx d, E) := by
  have hv : mvar 1 E = some (d, E) := by rw [z_mvar, hE]
  rcases hd with ⟨z, rfl⟩ | ⟨c, fs, rfl, rfl | rfl⟩
  · unfold t_examples_of_1
    rw [z_MM_opt, z_MM_opt, hv]; rfl
  · unfold t_examples_of_1
    rw [z_MM_opt, z_MM_opt, hv]; rfl
  · unfold t_examples_of_1
    rw [z_MM_opt, z_MM_opt, hv]; rfl
theorem rows_sum (A : List (List Nat)) (z : List Nat) : ((rowsL A z).map List.length).sum ≤ (A.map List.length).sum + A.length + z.length := by
  unfold rowsL
  rw [List.map_append, List.sum_append, List.map_map]
  have h1 : (A.map (List.length ∘ fun x => x ++ [10])).sum = (A.map List.length).sum + A.length := by
    induction A with
    | nil => rfl
    | cons p A ih => simp only [List.map_cons, List.sum_cons, List.length_cons, Function.comp, List.length_append, List.length_nil] at ih ⊢; omega
  have h2 : ((tl z).map List.length).sum ≤ z.length := by
    unfold tl
    split <;> simp
  omega
/-- the texts that parsed is about -/
structure Lv (x : List Nat) (A : List (List Nat)) (z : List Nat) : Prop where
  len : x.length ≤ 5000
  eq : sp 10 (lv x) = A ++ [z]
theorem sp_lv (x : List Nat) : sp 10 (lv x) = lvl (lines x) := sp_jn (lvl (lines x)) (by unfold lvl; intro h; exact lines_ne x (List.map_eq_nil_iff.mp h)) (lvl_sub (lines_no10 x))
theorem Lv.no {x : List Nat} {A : List (List Nat)} {z : List Nat} (h : Lv x A z) : ∀ l ∈ A ++ [z], 10 ∉ l ∧ 9 ∉ l := fun l hl => by
  rw [← h.eq, sp_lv] at hl
  exact ⟨lvl_sub (lines_no10 x) l hl, lvl_sub (lines_no9 x) l hl⟩
theorem Lv.sum {x : List Nat} {A : List (List Nat)} {z : List Nat} (h : Lv x A z) : (A.map List.length).sum + z.length + A.length ≤ 60000 := by
  have h1 := sp_sum 10 (lv x)
  have h2 := lv_len x
  have := h.len
  rw [h.eq, List.map_append, List.sum_append, List.length_append] at h1
  simp only [List.map_cons, List.map_nil, List.sum_cons, List.sum_nil, List.length_singleton] at h1
  omega
theorem Lv.sumL {x : List Nat} {A : List (List Nat)} {z : List Nat} (h : Lv x A z) : ((A ++ tl z).map List.length).sum + (A ++ tl z).length ≤ 70000 := by
  have := h.sum
  rw [List.map_append, List.sum_append, List.length_append]
  have h2 : ((tl z).map List.length).sum ≤ z.length ∧ (tl z).length ≤ 1 := by
    unfold tl
    split <;> simp
  omega
theorem Lv.noL {x : List Nat} {A : List (List Nat)} {z : List Nat} (h : Lv x A z) : ∀ l ∈ A ++ tl z, 10 ∉ l ∧ 9 ∉ l := fun l hl => by
  refine h.no l ?_
  rcases List.mem_append.mp hl with hl | hl
  · exact List.mem_append_left _ hl
  · unfold tl at hl
    split at hl
    · cases hl
    · exact List.mem_append_right _ hl
theorem Lv.rl {A : List (List Nat)} {z : List Nat} : (rowsL A z).length = (A ++ tl z).length := by
  unfold rowsL
  rw [List.length_append, List.length_append, List.length_map]
theorem parsed_ok {x : List Nat} {A : List (List Nat)} {z : List Nat} {P : List D} {k : Nat} {t6 t7 : Sl} (h : Lv x A z) (hP : P.length ≤ 90000) (hPc : ∀ d ∈ P, PcD d) (hrun : swhile (MM.opt (mop2 ltD (mvar 4) (MM.opt (mcons (mvar 2) (mnil)) lenL)) blD) b_parsed_4 100000 (PE x (rowsL A z) (A ++ tl z) [] 0 0 .no .no) = some (.nx (PE x (rowsL A z) (A ++ tl z) P (A ++ tl z).length k t6 t7))) : F_parsed [.im (.str (ml x))] = some (.lst ((P ++ [D.str (ml ((rowsL A z).drop k).flatten)]).filter keepD), [.im (.str (ml x))]) := by
  have l1 := levelled_ok (ml x) (by rw [ml_len]; have := h.len; omega)
  rw [ls_ml] at l1
  have hl2 := lv_len x
  have hx := h.len
  have r1 := rows_ok (lv x) A z (by omega) h.eq
  have hsum := h.sum
  have hrs := rows_sum A z
  have hrl := Lv.rl (A := A) (z := z)
  have hLs := h.sumL
  have hq0 : few [] = some [] := rfl
  have d1 : mlc (.one 8) [8] (MM.opt (mvar 1) seqD) (mtrue) (e_parsed_1) [.im (.str (ml x)), .im (.lst (dl (rowsL A z))), .no, .no, .no, .no, .no, .no, .no, .no] = some (dl (A ++ tl z), [.im (.str (ml x)), .im (.lst (dl (rowsL A z))), .no, .no, .no, .no, .no, .no, .no, .no]) := by
    rw [mlc_m (ds := dl (rowsL A z)) (fun d => .str (ml (cutL (stL d)))) (by simp only [z_sseq, z_sset, z_sret, z_sif, z_snx, z_sbk, z_sct, z_sdrop, z_sasg, z_spar, z_sown, z_sfor, z_mop2, z_mc, z_mvar, z_MM_opt, z_MM_map, z_mcons, z_mnil, z_pnil, z_pcim, z_pcow, z_acim, z_acsl, z_anil, z_mif, z_mandB, z_morB, z_mnotB, z_mandV, z_morV, z_mnotV, z_mmeth, z_fmeth, z_fop2, z_mdr, z_mdrNe, z_mdrLen, z_mdrPop, z_sdr, z_mappend, z_mextend, z_mpopAt, z_mlenO, z_mnilO, z_msl, z_mcall, z_saug, z_mmethL, z_sdraws, z_mtrue, slots_nil, slots_im, slots_sl, argsE, updE, List.nodup_nil, List.nodup_cons, List.not_mem_nil, List.mem_singleton, not_false_eq_true, and_self, and_true, List.nil_append, List.append_nil, List.cons_append, mtg, Zf.setL, setsE, few, blD_b, truD_b, truD_i, truD_l, truD_t, intL_i, intL_b, seqD_l, seqD_t, seqD_s, seqD_c, negD_i, DS.at, DS.put, DS.row, addD_i, subD_i, eqD_i, neD_i, ltD_i, leD_i, gtD_i, geD_i, eqD_s, neD_s, out_l, out_d, okS_s, okW_nil, okW_cons, okM_no, okM_im, okM_mf, okM_mt, okN_no, okN_im, okN_mu, wipeE, List.all_cons, List.all_nil, Bool.and_true, Bool.true_and, Bool.and_self, decide_true, decide_false, reduceIte, if_true, if_false, List.length_cons, List.length_nil, List.getElem?_cons_zero, List.getElem?_cons_succ, List.set_cons_zero, List.set_cons_succ, List.map_cons, List.map_nil, Bool.false_eq_true, Option.some.injEq, Bool.not_true, Bool.not_false, Nat.reduceAdd, Nat.reduceLT, Nat.reduceLeDiff, z_mpop0, intD_i, seqD]) (by rw [dl_len]; omega) rfl (fun d hd => by
      obtain ⟨l, hl, rfl⟩ := mem_dl hd
      have := mem_sum hl
      rw [stL_ml]
      exact cutL_ok l (by omega) _ rfl), map_dl, cutL_rows (h.no z (by simp)).1]
  have s1 := sl_dl_from (rowsL A z) k
  have j1 := join_0 ((rowsL A z).drop k) (by
    have : (((rowsL A z).drop k).map List.length).sum ≤ ((rowsL A z).map List.length).sum := by
      conv => rhs; rw [← List.take_append_drop k (rowsL A z), List.map_append, List.sum_append]
      omega
    omega)
  have q1 : P.length < 1000000 := by omega
  obtain ⟨Q, hQ⟩ : ∃ Q, Q = P ++ [D.str (ml ((rowsL A z).drop k).flatten)] := ⟨_, rfl⟩
  have hQl : Q.length ≤ 100000 := by rw [hQ, List.length_append, List.length_singleton]; omega
  have hQc : ∀ d ∈ Q, PcD d := fun d hd => by
    rw [hQ] at hd
    rcases List.mem_append.mp hd with hd | hd
    · exact hPc d hd
    · exact .inl ⟨_, List.mem_singleton.mp hd⟩
  obtain ⟨n, hn⟩ : ∃ n, n = (A ++ tl z).length := ⟨_, rfl⟩
  rw [← hn] at hrun
  have d2 : mlc (.one 9) [9] (MM.opt (mvar 3) seqD) (t_parsed_5) (mvar 9) (PE x (rowsL A z) (A ++ tl z) Q n k t6 t7) = some (Q.filter keepD, [.im (.str (ml x)), .im (.lst (dl (rowsL A z))), .im (.lst (dl (A ++ tl z))), .im (.lst Q), .im (.int (n : Int)), .im (.int (k : Int)), t6, t7, .no, .no]) := by
    rw [mlc_fm' (ds := Q) (e1 := [.im (.str (ml x)), .im (.lst (dl (rowsL A z))), .im (.lst (dl (A ++ tl z))), .im (.lst Q), .im (.int (n : Int)), .im (.int (k : Int)), t6, t7, .no, .no]) (e2 := [.im (.str (ml x)), .im (.lst (dl (rowsL A z))), .im (.lst (dl (A ++ tl z))), .im (.lst Q), .im (.int (n : Int)), .im (.int (k : Int)), t6, t7, .no, .no]) keepD (fun d => d) (by unfold PE; simp only [z_sseq, z_sset, z_sret, z_sif, z_snx, z_sbk, z_sct, z_sdrop, z_sasg, z_spar, z_sown, z_sfor, z_mop2, z_mc, z_mvar, z_MM_opt, z_MM_map, z_mcons, z_mnil, z_pnil, z_pcim, z_pcow, z_acim, z_acsl, z_anil, z_mif, z_mandB, z_morB, z_mnotB, z_mandV, z_morV, z_mnotV, z_mmeth, z_fmeth, z_fop2, z_mdr, z_mdrNe, z_mdrLen, z_mdrPop, z_sdr, z_mappend, z_mextend, z_mpopAt, z_mlenO, z_mnilO, z_msl, z_mcall, z_saug, z_mmethL, z_sdraws, z_mtrue, slots_nil, slots_im, slots_sl, argsE, updE, List.nodup_nil, List.nodup_cons, List.not_mem_nil, List.mem_singleton, not_false_eq_true, and_self, and_true, List.nil_append, List.append_nil, List.cons_append, mtg, Zf.setL, setsE, few, blD_b, truD_b, truD_i, truD_l, truD_t, intL_i, intL_b, seqD_l, seqD_t, seqD_s, seqD_c, negD_i, DS.at, DS.put, DS.row, addD_i, subD_i, eqD_i, neD_i, ltD_i, leD_i, gtD_i, geD_i, eqD_s, neD_s, out_l, out_d, okS_s, okW_nil, okW_cons, okM_no, okM_im, okM_mf, okM_mt, okN_no, okN_im, okN_mu, wipeE, List.all_cons, List.all_nil, Bool.and_true, Bool.true_and, Bool.and_self, decide_true, decide_false, reduceIte, if_true, if_false, List.length_cons, List.length_nil, List.getElem?_cons_zero, List.getElem?_cons_succ, List.set_cons_zero, List.set_cons_succ, List.map_cons, List.map_nil, Bool.false_eq_true, Option.some.injEq, Bool.not_true, Bool.not_false, Nat.reduceAdd, Nat.reduceLT, Nat.reduceLeDiff, z_mpop0, intD_i, seqD]) hQl rfl rfl rfl (fun d hd => ⟨keep_ok d (hQc d hd) _ rfl, fun _ => rfl⟩), List.map_id']
  have body : m_parsed [.im (.str (ml x)), .no, .no, .no, .no, .no, .no, .no, .no, .no] = some (.rt (.lst (Q.filter keepD)) [.im (.str (ml x)), .im (.lst (dl (rowsL A z))), .im (.lst (dl (A ++ tl z))), .im (.lst Q), .im (.int (n : Int)), .im (.int (k : Int)), t6, t7, .no, .no]) := by
    unfold m_parsed
    refine sseq_nx (e1 := [.im (.str (ml x)), .im (.lst (dl (rowsL A z))), .no, .no, .no, .no, .no, .no, .no, .no]) (by simp only [z_sseq, z_sset, z_sret, z_sif, z_snx, z_sbk, z_sct, z_sdrop, z_sasg, z_spar, z_sown, z_sfor, z_mop2, z_mc, z_mvar, z_MM_opt, z_MM_map, z_mcons, z_mnil, z_pnil, z_pcim, z_pcow, z_acim, z_acsl, z_anil, z_mif, z_mandB, z_morB, z_mnotB, z_mandV, z_morV, z_mnotV, z_mmeth, z_fmeth, z_fop2, z_mdr, z_mdrNe, z_mdrLen, z_mdrPop, z_sdr, z_mappend, z_mextend, z_mpopAt, z_mlenO, z_mnilO, z_msl, z_mcall, z_saug, z_mmethL, z_sdraws, z_mtrue, slots_nil, slots_im, slots_sl, argsE, updE, List.nodup_nil, List.nodup_cons, List.not_mem_nil, List.mem_singleton, not_false_eq_true, and_self, and_true, List.nil_append, List.append_nil, List.cons_append, mtg, Zf.setL, setsE, few, blD_b, truD_b, truD_i, truD_l, truD_t, intL_i, intL_b, seqD_l, seqD_t, seqD_s, seqD_c, negD_i, DS.at, DS.put, DS.row, addD_i, subD_i, eqD_i, neD_i, ltD_i, leD_i, gtD_i, geD_i, eqD_s, neD_s, out_l, out_d, okS_s, okW_nil, okW_cons, okM_no, okM_im, okM_mf, okM_mt, okN_no, okN_im, okN_mu, wipeE, List.all_cons, List.all_nil, Bool.and_true, Bool.true_and, Bool.and_self, decide_true, decide_false, reduceIte, if_true, if_false, List.length_cons, List.length_nil, List.getElem?_cons_zero, List.getElem?_cons_succ, List.set_cons_zero, List.set_cons_succ, List.map_cons, List.map_nil, Bool.false_eq_true, Option.some.injEq, Bool.not_true, Bool.not_false, Nat.reduceAdd, Nat.reduceLT, Nat.reduceLeDiff, z_mpop0, intD_i, l1, r1]) ?_
    refine sseq_nx (e1 := [.im (.str (ml x)), .im (.lst (dl (rowsL A z))), .im (.lst (dl (A ++ tl z))), .no, .no, .no, .no, .no, .no, .no]) (by simp only [z_sseq, z_sset, z_sret, z_sif, z_snx, z_sbk, z_sct, z_sdrop, z_sasg, z_spar, z_sown, z_sfor, z_mop2, z_mc, z_mvar, z_MM_opt, z_MM_map, z_mcons, z_mnil, z_pnil, z_pcim, z_pcow, z_acim, z_acsl, z_anil, z_mif, z_mandB, z_morB, z_mnotB, z_mandV, z_morV, z_mnotV, z_mmeth, z_fmeth, z_fop2, z_mdr, z_mdrNe, z_mdrLen, z_mdrPop, z_sdr, z_mappend, z_mextend, z_mpopAt, z_mlenO, z_mnilO, z_msl, z_mcall, z_saug, z_mmethL, z_sdraws, z_mtrue, slots_nil, slots_im, slots_sl, argsE, updE, List.nodup_nil, List.nodup_cons, List.not_mem_nil, List.mem_singleton, not_false_eq_true, and_self, and_true, List.nil_append, List.append_nil, List.cons_append, mtg, Zf.setL, setsE, few, blD_b, truD_b, truD_i, truD_l, truD_t, intL_i, intL_b, seqD_l, seqD_t, seqD_s, seqD_c, negD_i, DS.at, DS.put, DS.row, addD_i, subD_i, eqD_i, neD_i, ltD_i, leD_i, gtD_i, geD_i, eqD_s, neD_s, out_l, out_d, okS_s, okW_nil, okW_cons, okM_no, okM_im, okM_mf, okM_mt, okN_no, okN_im, okN_mu, wipeE, List.all_cons, List.all_nil, Bool.and_true, Bool.true_and, Bool.and_self, decide_true, decide_false, reduceIte, if_true, if_false, List.length_cons, List.length_nil, List.getElem?_cons_zero, List.getElem?_cons_succ, List.set_cons_zero, List.set_cons_succ, List.map_cons, List.map_nil, Bool.false_eq_true, Option.some.injEq, Bool.not_true, Bool.not_false, Nat.reduceAdd, Nat.reduceLT, Nat.reduceLeDiff, z_mpop0, intD_i, d1]) ?_
    refine sseq_nx (e1 := PE x (rowsL A z) (A ++ tl z) [] 0 0 .no .no) (by unfold PE; simp only [z_sseq, z_sset, z_sret, z_sif, z_snx, z_sbk, z_sct, z_sdrop, z_sasg, z_spar, z_sown, z_sfor, z_mop2, z_mc, z_mvar, z_MM_opt, z_MM_map, z_mcons, z_mnil, z_pnil, z_pcim, z_pcow, z_acim, z_acsl, z_anil, z_mif, z_mandB, z_morB, z_mnotB, z_mandV, z_morV, z_mnotV, z_mmeth, z_fmeth, z_fop2, z_mdr, z_mdrNe, z_mdrLen, z_mdrPop, z_sdr, z_mappend, z_mextend, z_mpopAt, z_mlenO, z_mnilO, z_msl, z_mcall, z_saug, z_mmethL, z_sdraws, z_mtrue, slots_nil, slots_im, slots_sl, argsE, updE, List.nodup_nil, List.nodup_cons, List.not_mem_nil, List.mem_singleton, not_false_eq_true, and_self, and_true, List.nil_append, List.append_nil, List.cons_append, mtg, Zf.setL, setsE, few, blD_b, truD_b, truD_i, truD_l, truD_t, intL_i, intL_b, seqD_l, seqD_t, seqD_s, seqD_c, negD_i, DS.at, DS.put, DS.row, addD_i, subD_i, eqD_i, neD_i, ltD_i, leD_i, gtD_i, geD_i, eqD_s, neD_s, out_l, out_d, okS_s, okW_nil, okW_cons, okM_no, okM_im, okM_mf, okM_mt, okN_no, okN_im, okN_mu, wipeE, List.all_cons, List.all_nil, Bool.and_true, Bool.true_and, Bool.and_self, decide_true, decide_false, reduceIte, if_true, if_false, List.length_cons, List.length_nil, List.getElem?_cons_zero, List.getElem?_cons_succ, List.set_cons_zero, List.set_cons_succ, List.map_cons, List.map_nil, Bool.false_eq_true, Option.some.injEq, Bool.not_true, Bool.not_false, Nat.reduceAdd, Nat.reduceLT, Nat.reduceLeDiff, z_mpop0, intD_i, hq0]; rfl) ?_
    refine sseq_nx hrun ?_
    refine sseq_nx (e1 := PE x (rowsL A z) (A ++ tl z) Q n k t6 t7) (by unfold PE; simp only [z_sseq, z_sset, z_sret, z_sif, z_snx, z_sbk, z_sct, z_sdrop, z_sasg, z_spar, z_sown, z_sfor, z_mop2, z_mc, z_mvar, z_MM_opt, z_MM_map, z_mcons, z_mnil, z_pnil, z_pcim, z_pcow, z_acim, z_acsl, z_anil, z_mif, z_mandB, z_morB, z_mnotB, z_mandV, z_morV, z_mnotV, z_mmeth, z_fmeth, z_fop2, z_mdr, z_mdrNe, z_mdrLen, z_mdrPop, z_sdr, z_mappend, z_mextend, z_mpopAt, z_mlenO, z_mnilO, z_msl, z_mcall, z_saug, z_mmethL, z_sdraws, z_mtrue, slots_nil, slots_im, slots_sl, argsE, updE, List.nodup_nil, List.nodup_cons, List.not_mem_nil, List.mem_singleton, not_false_eq_true, and_self, and_true, List.nil_append, List.append_nil, List.cons_append, mtg, Zf.setL, setsE, few, blD_b, truD_b, truD_i, truD_l, truD_t, intL_i, intL_b, seqD_l, seqD_t, seqD_s, seqD_c, negD_i, DS.at, DS.put, DS.row, addD_i, subD_i, eqD_i, neD_i, ltD_i, leD_i, gtD_i, geD_i, eqD_s, neD_s, out_l, out_d, okS_s, okW_nil, okW_cons, okM_no, okM_im, okM_mf, okM_mt, okN_no, okN_im, okN_mu, wipeE, List.all_cons, List.all_nil, Bool.and_true, Bool.true_and, Bool.and_self, decide_true, decide_false, reduceIte, if_true, if_false, List.length_cons, List.length_nil, List.getElem?_cons_zero, List.getElem?_cons_succ, List.set_cons_zero, List.set_cons_succ, List.map_cons, List.map_nil, Bool.false_eq_true, Option.some.injEq, Bool.not_true, Bool.not_false, Nat.reduceAdd, Nat.reduceLT, Nat.reduceLeDiff, z_mpop0, intD_i, s1, j1, q1, intD, ← hQ]) ?_
    rw [z_sret, z_MM_map, d2]
  rw [hQ] at body
  exact fnM_rt (n := 10) (args := [.im (.str (ml x))]) (m := m_parsed) body
theorem examples_ok {x : List Nat} {xs : List D} (h : F_parsed [.im (.str (ml x))] = some (.lst xs, [.im (.str (ml x))])) (hl : xs.length ≤ 100000) (hx : ∀ d ∈ xs, PcD d) : F_examples_of [.im (.str (ml x))] = some (.lst (xs.filter isEx), [.im (.str (ml x))]) := by
  have d2 : mlc (.one 1) [1] (MM.opt (mcall F_parsed [] (acim (mvar 0) (anil))) seqD) (t_examples_of_1) (mvar 1) [.im (.str (ml x)), .no] = some (xs.filter isEx, [.im (.str (ml x)), .no]) := by
    rw [mlc_fm (ds := xs) isEx (fun d => d) (by simp only [z_sseq, z_sset, z_sret, z_sif, z_snx, z_sbk, z_sct, z_sdrop, z_sasg, z_spar, z_sown, z_sfor, z_mop2, z_mc, z_mvar, z_MM_opt, z_MM_map, z_mcons, z_mnil, z_pnil, z_pcim, z_pcow, z_acim, z_acsl, z_anil, z_mif, z_mandB, z_morB, z_mnotB, z_mandV, z_morV, z_mnotV, z_mmeth, z_fmeth, z_fop2, z_mdr, z_mdrNe, z_mdrLen, z_mdrPop, z_sdr, z_mappend, z_mextend, z_mpopAt, z_mlenO, z_mnilO, z_msl, z_mcall, z_saug, z_mmethL, z_sdraws, z_mtrue, slots_nil, slots_im, slots_sl, argsE, updE, List.nodup_nil, List.nodup_cons, List.not_mem_nil, List.mem_singleton, not_false_eq_true, and_self, and_true, List.nil_append, List.append_nil, List.cons_append, mtg, Zf.setL, setsE, few, blD_b, truD_b, truD_i, truD_l, truD_t, intL_i, intL_b, seqD_l, seqD_t, seqD_s, seqD_c, negD_i, DS.at, DS.put, DS.row, addD_i, subD_i, eqD_i, neD_i, ltD_i, leD_i, gtD_i, geD_i, eqD_s, neD_s, out_l, out_d, okS_s, okW_nil, okW_cons, okM_no, okM_im, okM_mf, okM_mt, okN_no, okN_im, okN_mu, wipeE, List.all_cons, List.all_nil, Bool.and_true, Bool.true_and, Bool.and_self, decide_true, decide_false, reduceIte, if_true, if_false, List.length_cons, List.length_nil, List.getElem?_cons_zero, List.getElem?_cons_succ, List.set_cons_zero, List.set_cons_succ, List.map_cons, List.map_nil, Bool.false_eq_true, Option.some.injEq, Bool.not_true, Bool.not_false, Nat.reduceAdd, Nat.reduceLT, Nat.reduceLeDiff, z_mpop0, intD_i, h, seqD]) hl rfl (fun d hd => ⟨isEx_ok d (hx d hd) _ rfl, fun _ => rfl⟩), List.map_id']
  have body : m_examples_of [.im (.str (ml x)), .no] = some (.rt (.lst (xs.filter isEx)) [.im (.str (ml x)), .no]) := by
    unfold m_examples_of
    rw [z_sret, z_MM_map, d2]
  exact fnM_rt (n := 2) (args := [.im (.str (ml x))]) (m := m_examples_of) body
end Zz

set_option Elab.async false
set_option linter.all false
set_option maxRecDepth 100000
set_option maxHeartbeats 1000000
namespace Zz
open PySem PySem.Spec L2 Zf
/-! what the law compares by -/
def SN (x : D) : Prop := x = .non ∨ ∃ z, x = .str z
theorem eq_sn {x : D} (h : SN x) : eqD x x = some (.bl true) ∧ isiDs ["list", "tuple"] x = some (.bl false) ∧ isiDs ["bool", "int"] x = some (.bl false) ∧ isiD "bool" x = some (.bl false) := by
  rcases h with rfl | ⟨z, rfl⟩
  · exact ⟨rfl, rfl, rfl, rfl⟩
  · refine ⟨?_, rfl, rfl, rfl⟩
    show some (D.bl (decide (z = z))) = _
    rw [decide_eq_true rfl]
theorem isB_ff : isBD (.bl false) (.bl false) = some (.bl true) := rfl
theorem same_r1 {x : D} (h : SN x) : F_law_same_r1 [.im x, .im x] = some (.bl true, [.im x, .im x]) := by
  obtain ⟨e1, e2, e3, e4⟩ := eq_sn h
  have body : m_law_same_r1 [.im x, .im x, .no, .no] = some (.rt (.bl true) [.im x, .im x, .no, .no]) := by
    unfold m_law_same_r1
    simp only [z_sseq, z_sset, z_sret, z_sif, z_snx, z_sbk, z_sct, z_sdrop, z_sasg, z_spar, z_sown, z_sfor, z_mop2, z_mc, z_mvar, z_MM_opt, z_MM_map, z_mcons, z_mnil, z_pnil, z_pcim, z_pcow, z_acim, z_acsl, z_anil, z_mif, z_mandB, z_morB, z_mnotB, z_mandV, z_morV, z_mnotV, z_mmeth, z_fmeth, z_fop2, z_mdr, z_mdrNe, z_mdrLen, z_mdrPop, z_sdr, z_mappend, z_mextend, z_mpopAt, z_mlenO, z_mnilO, z_msl, z_mcall, z_saug, z_mmethL, z_sdraws, z_mtrue, slots_nil, slots_im, slots_sl, argsE, updE, List.nodup_nil, List.nodup_cons, List.not_mem_nil, List.mem_singleton, not_false_eq_true, and_self, and_true, List.nil_append, List.append_nil, List.cons_append, mtg, Zf.setL, setsE, few, blD_b, truD_b, truD_i, truD_l, truD_t, intL_i, intL_b, seqD_l, seqD_t, seqD_s, seqD_c, negD_i, DS.at, DS.put, DS.row, addD_i, subD_i, eqD_i, neD_i, ltD_i, leD_i, gtD_i, geD_i, eqD_s, neD_s, out_l, out_d, okS_s, okW_nil, okW_cons, okM_no, okM_im, okM_mf, okM_mt, okN_no, okN_im, okN_mu, wipeE, List.all_cons, List.all_nil, Bool.and_true, Bool.true_and, Bool.and_self, decide_true, decide_false, reduceIte, if_true, if_false, List.length_cons, List.length_nil, List.getElem?_cons_zero, List.getElem?_cons_succ, List.set_cons_zero, List.set_cons_succ, List.map_cons, List.map_nil, Bool.false_eq_true, Option.some.injEq, Bool.not_true, Bool.not_false, Nat.reduceAdd, Nat.reduceLT, Nat.reduceLeDiff, z_mpop0, intD_i, e1, e2, e3, e4, isB_ff]
  exact fnM_rt (n := 4) (args := [.im x, .im x]) (m := m_law_same_r1) body
theorem same_sn {x : D} (h : SN x) : F_law_same [.im x, .im x] = some (.bl true, [.im x, .im x]) := by
  obtain ⟨e1, e2, e3, e4⟩ := eq_sn h
  have body : m_law_same [.im x, .im x, .no, .no] = some (.rt (.bl true) [.im x, .im x, .no, .no]) := by
    unfold m_law_same
    simp only [z_sseq, z_sset, z_sret, z_sif, z_snx, z_sbk, z_sct, z_sdrop, z_sasg, z_spar, z_sown, z_sfor, z_mop2, z_mc, z_mvar, z_MM_opt, z_MM_map, z_mcons, z_mnil, z_pnil, z_pcim, z_pcow, z_acim, z_acsl, z_anil, z_mif, z_mandB, z_morB, z_mnotB, z_mandV, z_morV, z_mnotV, z_mmeth, z_fmeth, z_fop2, z_mdr, z_mdrNe, z_mdrLen, z_mdrPop, z_sdr, z_mappend, z_mextend, z_mpopAt, z_mlenO, z_mnilO, z_msl, z_mcall, z_saug, z_mmethL, z_sdraws, z_mtrue, slots_nil, slots_im, slots_sl, argsE, updE, List.nodup_nil, List.nodup_cons, List.not_mem_nil, List.mem_singleton, not_false_eq_true, and_self, and_true, List.nil_append, List.append_nil, List.cons_append, mtg, Zf.setL, setsE, few, blD_b, truD_b, truD_i, truD_l, truD_t, intL_i, intL_b, seqD_l, seqD_t, seqD_s, seqD_c, negD_i, DS.at, DS.put, DS.row, addD_i, subD_i, eqD_i, neD_i, ltD_i, leD_i, gtD_i, geD_i, eqD_s, neD_s, out_l, out_d, okS_s, okW_nil, okW_cons, okM_no, okM_im, okM_mf, okM_mt, okN_no, okN_im, okN_mu, wipeE, List.all_cons, List.all_nil, Bool.and_true, Bool.true_and, Bool.and_self, decide_true, decide_false, reduceIte, if_true, if_false, List.length_cons, List.length_nil, List.getElem?_cons_zero, List.getElem?_cons_succ, List.set_cons_zero, List.set_cons_succ, List.map_cons, List.map_nil, Bool.false_eq_true, Option.some.injEq, Bool.not_true, Bool.not_false, Nat.reduceAdd, Nat.reduceLT, Nat.reduceLeDiff, z_mpop0, intD_i, e1, e2, e3, e4, isB_ff]
  exact fnM_rt (n := 4) (args := [.im x, .im x]) (m := m_law_same) body
theorem same_one {x : D} (h : SN x) : F_law_same [.im (.lst [x]), .im (.lst [x])] = some (.bl true, [.im (.lst [x]), .im (.lst [x])]) := by
  have r1 := same_r1 h
  have c1 : mlc (.tup [2, 3]) [2, 3] (MM.opt (mcons (mvar 0) (mcons (mvar 1) (mnil))) zipL) (mtrue) (e_law_same_1) [.im (.lst [x]), .im (.lst [x]), .no, .no] = some ([.bl true], [.im (.lst [x]), .im (.lst [x]), .no, .no]) := by
    rw [mlc_t2 (ds := [.tup [x, x]]) (e1 := [.im (.lst [x]), .im (.lst [x]), .no, .no]) (e2 := [.im (.lst [x]), .im (.lst [x]), .no, .no]) (fun _ => .bl true) (by simp only [z_sseq, z_sset, z_sret, z_sif, z_snx, z_sbk, z_sct, z_sdrop, z_sasg, z_spar, z_sown, z_sfor, z_mop2, z_mc, z_mvar, z_MM_opt, z_MM_map, z_mcons, z_mnil, z_pnil, z_pcim, z_pcow, z_acim, z_acsl, z_anil, z_mif, z_mandB, z_morB, z_mnotB, z_mandV, z_morV, z_mnotV, z_mmeth, z_fmeth, z_fop2, z_mdr, z_mdrNe, z_mdrLen, z_mdrPop, z_sdr, z_mappend, z_mextend, z_mpopAt, z_mlenO, z_mnilO, z_msl, z_mcall, z_saug, z_mmethL, z_sdraws, z_mtrue, slots_nil, slots_im, slots_sl, argsE, updE, List.nodup_nil, List.nodup_cons, List.not_mem_nil, List.mem_singleton, not_false_eq_true, and_self, and_true, List.nil_append, List.append_nil, List.cons_append, mtg, Zf.setL, setsE, few, blD_b, truD_b, truD_i, truD_l, truD_t, intL_i, intL_b, seqD_l, seqD_t, seqD_s, seqD_c, negD_i, DS.at, DS.put, DS.row, addD_i, subD_i, eqD_i, neD_i, ltD_i, leD_i, gtD_i, geD_i, eqD_s, neD_s, out_l, out_d, okS_s, okW_nil, okW_cons, okM_no, okM_im, okM_mf, okM_mt, okN_no, okN_im, okN_mu, wipeE, List.all_cons, List.all_nil, Bool.and_true, Bool.true_and, Bool.and_self, decide_true, decide_false, reduceIte, if_true, if_false, List.length_cons, List.length_nil, List.getElem?_cons_zero, List.getElem?_cons_succ, List.set_cons_zero, List.set_cons_succ, List.map_cons, List.map_nil, Bool.false_eq_true, Option.some.injEq, Bool.not_true, Bool.not_false, Nat.reduceAdd, Nat.reduceLT, Nat.reduceLeDiff, z_mpop0, intD_i]; rfl) (by simp) rfl rfl rfl rfl (by decide) (fun d hd => by
      have hd := List.mem_singleton.mp hd
      refine ⟨x, x, hd, ?_⟩
      unfold e_law_same_1
      simp only [z_sseq, z_sset, z_sret, z_sif, z_snx, z_sbk, z_sct, z_sdrop, z_sasg, z_spar, z_sown, z_sfor, z_mop2, z_mc, z_mvar, z_MM_opt, z_MM_map, z_mcons, z_mnil, z_pnil, z_pcim, z_pcow, z_acim, z_acsl, z_anil, z_mif, z_mandB, z_morB, z_mnotB, z_mandV, z_morV, z_mnotV, z_mmeth, z_fmeth, z_fop2, z_mdr, z_mdrNe, z_mdrLen, z_mdrPop, z_sdr, z_mappend, z_mextend, z_mpopAt, z_mlenO, z_mnilO, z_msl, z_mcall, z_saug, z_mmethL, z_sdraws, z_mtrue, slots_nil, slots_im, slots_sl, argsE, updE, List.nodup_nil, List.nodup_cons, List.not_mem_nil, List.mem_singleton, not_false_eq_true, and_self, and_true, List.nil_append, List.append_nil, List.cons_append, mtg, Zf.setL, setsE, few, blD_b, truD_b, truD_i, truD_l, truD_t, intL_i, intL_b, seqD_l, seqD_t, seqD_s, seqD_c, negD_i, DS.at, DS.put, DS.row, addD_i, subD_i, eqD_i, neD_i, ltD_i, leD_i, gtD_i, geD_i, eqD_s, neD_s, out_l, out_d, okS_s, okW_nil, okW_cons, okM_no, okM_im, okM_mf, okM_mt, okN_no, okN_im, okN_mu, wipeE, List.all_cons, List.all_nil, Bool.and_true, Bool.true_and, Bool.and_self, decide_true, decide_false, reduceIte, if_true, if_false, List.length_cons, List.length_nil, List.getElem?_cons_zero, List.getElem?_cons_succ, List.set_cons_zero, List.set_cons_succ, List.map_cons, List.map_nil, Bool.false_eq_true, Option.some.injEq, Bool.not_true, Bool.not_false, Nat.reduceAdd, Nat.reduceLT, Nat.reduceLeDiff, z_mpop0, intD_i, r1])]
    rfl
  have i1 : isiDs ["list", "tuple"] (.lst [x]) = some (.bl true) := rfl
  have i2 : isiD "list" (.lst [x]) = some (.bl true) := rfl
  have i3 : isiD "tuple" (.lst [x]) = some (.bl false) := rfl
  have n1 : neD (.bl true) (.bl true) = some (.bl false) := rfl
  have n2 : neD (.bl false) (.bl false) = some (.bl false) := rfl
  have l1 : lenL [.lst [x]] = some (.int 1) := rfl
  have q1 : eqD (.int 1) (.int 1) = some (.bl true) := rfl
  have a1 : allL [.lst [.bl true]] = some (.bl true) := rfl
  have body : m_law_same [.im (.lst [x]), .im (.lst [x]), .no, .no] = some (.rt (.bl true) [.im (.lst [x]), .im (.lst [x]), .no, .no]) := by
    unfold m_law_same
    simp only [z_sseq, z_sset, z_sret, z_sif, z_snx, z_sbk, z_sct, z_sdrop, z_sasg, z_spar, z_sown, z_sfor, z_mop2, z_mc, z_mvar, z_MM_opt, z_MM_map, z_mcons, z_mnil, z_pnil, z_pcim, z_pcow, z_acim, z_acsl, z_anil, z_mif, z_mandB, z_morB, z_mnotB, z_mandV, z_morV, z_mnotV, z_mmeth, z_fmeth, z_fop2, z_mdr, z_mdrNe, z_mdrLen, z_mdrPop, z_sdr, z_mappend, z_mextend, z_mpopAt, z_mlenO, z_mnilO, z_msl, z_mcall, z_saug, z_mmethL, z_sdraws, z_mtrue, slots_nil, slots_im, slots_sl, argsE, updE, List.nodup_nil, List.nodup_cons, List.not_mem_nil, List.mem_singleton, not_false_eq_true, and_self, and_true, List.nil_append, List.append_nil, List.cons_append, mtg, Zf.setL, setsE, few, blD_b, truD_b, truD_i, truD_l, truD_t, intL_i, intL_b, seqD_l, seqD_t, seqD_s, seqD_c, negD_i, DS.at, DS.put, DS.row, addD_i, subD_i, eqD_i, neD_i, ltD_i, leD_i, gtD_i, geD_i, eqD_s, neD_s, out_l, out_d, okS_s, okW_nil, okW_cons, okM_no, okM_im, okM_mf, okM_mt, okN_no, okN_im, okN_mu, wipeE, List.all_cons, List.all_nil, Bool.and_true, Bool.true_and, Bool.and_self, decide_true, decide_false, reduceIte, if_true, if_false, List.length_cons, List.length_nil, List.getElem?_cons_zero, List.getElem?_cons_succ, List.set_cons_zero, List.set_cons_succ, List.map_cons, List.map_nil, Bool.false_eq_true, Option.some.injEq, Bool.not_true, Bool.not_false, Nat.reduceAdd, Nat.reduceLT, Nat.reduceLeDiff, z_mpop0, intD_i, i1, i2, i3, n1, n2, l1, q1, a1, c1]
  exact fnM_rt (n := 4) (args := [.im (.lst [x]), .im (.lst [x])]) (m := m_law_same) body
/-! the menus -/
def hd1 : Str := "Traceback (most recent call last):"
def hd2 : Str := "Traceback (innermost last):"
def hd1c : Str := cutS hd1 none (some (-1))
def HM : List Str := [hd1, hd2, hd1, hd2, hd1, hd2] ++ [hd1 ++ ("   " : Str), hd1 ++ (" x" : Str), (" " : Str) ++ hd2, hd1c, hd1 ++ ("\t" : Str), hd2 ++ (" " : Str)] ++ [("traceback (most recent call last):" : Str), ("x" : Str), hd1 ++ ("E" : Str)]
def LM1 : List Str := ["    ...", "  File a", "E: m", "9", "_x", "<BLANKLINE>", "-a", "a.b.C", "", " ", "Z", "z"]
def LM2 : List Str := ["0 0", "...", "(x)"]
def lawW (l : List Nat) : Bool := Txt.isalnum (ml (l.take 1)) || decide (ml (l.take 1) = ("_" : Str))
def mB (z : Str) : Bool := decide (z.length ≤ 50) && (!z.cps.toList.contains 10 && (!isP z.cps.toList && ((lawW z.cps.toList == we z.cps.toList) && (PyData.strOk z && (decide (Txt.stripChars z (" " : Str) = ("" : Str)) == !nb z.cps.toList)))))
theorem hm_ok : HM.all (fun z => mB z && !isM z.cps.toList) = true := by decide +kernel
theorem lm_ok : (LM1 ++ LM2).all (fun z => mB z && !z.cps.toList.contains 9) = true := by decide +kernel
structure ML (l : List Nat) : Prop where
  len : l.length ≤ 50
  n10 : 10 ∉ l
  np : isP l = false
  w : lawW l = we l
  ok : PyData.strOk (ml l) = true
  sp : decide (Txt.stripChars (ml l) (" " : Str) = ("" : Str)) = !nb l
theorem ml_of {z : Str} (h : mB z = true) : ML z.cps.toList := by
  unfold mB at h
  simp only [Bool.and_eq_true, Bool.not_eq_true', decide_eq_true_eq, beq_iff_eq] at h
  obtain ⟨h1, h2, h3, h4, h5, h6⟩ := h
  refine ⟨by rw [ls_len]; exact h1, fun q => ?_, h3, h4, h5, h6⟩
  have := List.contains_iff_mem.mpr q
  rw [h2] at this; cases this
theorem hm_of {d : D} (h : d ∈ HM.map D.str) : ∃ l, d = .str (ml l) ∧ ML l ∧ isM l = false := by
  obtain ⟨z, hz, rfl⟩ := List.mem_map.mp h
  have := List.all_eq_true.mp hm_ok z hz
  rw [Bool.and_eq_true, Bool.not_eq_true'] at this
  exact ⟨z.cps.toList, rfl, ml_of this.1, this.2⟩
theorem lm_of {d : D} (h : d ∈ (LM1 ++ LM2).map D.str) : ∃ l, d = .str (ml l) ∧ ML l ∧ 9 ∉ l := by
  obtain ⟨z, hz, rfl⟩ := List.mem_map.mp h
  have := List.all_eq_true.mp lm_ok z hz
  rw [Bool.and_eq_true, Bool.not_eq_true'] at this
  refine ⟨z.cps.toList, rfl, ml_of this.1, fun q => ?_⟩
  have q := List.contains_iff_mem.mpr q
  rw [this.2] at q; cases q
/-- the first line -/
theorem head_ok (s : DS) (c : Int) (hs : DOk s c) (hc : c ≤ 1000000) : ∃ l s', F_law_head [.mu true (.dr s)] = some (.str (ml l), [.mu true (.dr s')]) ∧ ML l ∧ isM l = false ∧ DOk s' (c + 1) := by
  obtain ⟨d, s', e1, hm, hs'⟩ := pick_ok s (HM.map D.str) c hs (by decide) (by decide) hc
  obtain ⟨l, rfl, h1, h2⟩ := hm_of hm
  refine ⟨l, s', ?_, h1, h2, hs'⟩
  have a1 : addD (.str hd1) (.str ("   " : Str)) = some (.str (hd1 ++ ("   " : Str))) := addD_s (by decide)
  have a2 : addD (.str hd1) (.str (" x" : Str)) = some (.str (hd1 ++ (" x" : Str))) := addD_s (by decide)
  have a3 : addD (.str (" " : Str)) (.str hd2) = some (.str ((" " : Str) ++ hd2)) := addD_s (by decide)
  have a4 : addD (.str hd1) (.str ("\t" : Str)) = some (.str (hd1 ++ ("\t" : Str))) := addD_s (by decide)
  have a5 : addD (.str hd2) (.str (" " : Str)) = some (.str (hd2 ++ (" " : Str))) := addD_s (by decide)
  have a6 : addD (.str hd1) (.str ("E" : Str)) = some (.str (hd1 ++ ("E" : Str))) := addD_s (by decide)
  have a7 : slD (.str hd1) none (some (-1)) = some (.str hd1c) := by
    have : hd1.length ≤ 100000 := by decide
    simp only [slD, if_pos this]; rfl
  have i0 : ixD (.lst [.str hd1, .str hd2]) (.int 0) = some (.str hd1) := rfl
  have i1 : ixD (.lst [.str hd1, .str hd2]) (.int 1) = some (.str hd2) := rfl
  have hneg : negD (.int 1) = some (.int (-1)) := rfl
  have q0 : few [.str ("Traceback (most recent call last):" : Str), .str ("Traceback (innermost last):" : Str)] = some [.str hd1, .str hd2] := rfl
  have q1 : few [.str (hd1 ++ ("   " : Str)), .str (hd1 ++ (" x" : Str)), .str ((" " : Str) ++ hd2), .str hd1c, .str (hd1 ++ ("\t" : Str)), .str (hd2 ++ (" " : Str))] = some [.str (hd1 ++ ("   " : Str)), .str (hd1 ++ (" x" : Str)), .str ((" " : Str) ++ hd2), .str hd1c, .str (hd1 ++ ("\t" : Str)), .str (hd2 ++ (" " : Str))] := rfl
  have q2 : few [.str ("traceback (most recent call last):" : Str), .str ("x" : Str), .str (hd1 ++ ("E" : Str))] = some [.str ("traceback (most recent call last):" : Str), .str ("x" : Str), .str (hd1 ++ ("E" : Str))] := rfl
  have m1 : mulF (.lst [.str hd1, .str hd2]) (.int 3) = some [.str hd1, .str hd2, .str hd1, .str hd2, .str hd1, .str hd2] := rfl
  obtain ⟨S, hS⟩ : ∃ S : List D, S = [.str (hd1 ++ ("   " : Str)), .str (hd1 ++ (" x" : Str)), .str ((" " : Str) ++ hd2), .str hd1c, .str (hd1 ++ ("\t" : Str)), .str (hd2 ++ (" " : Str))] := ⟨_, rfl⟩
  rw [← hS] at q1
  have s1 : MM.map (MM.opt (mcons (mop2 addD (mop2 ixD (mvar 1) (mc (.int 0))) (mc (.str "   "))) (mcons (mop2 addD (mop2 ixD (mvar 1) (mc (.int 0))) (mc (.str " x"))) (mcons (mop2 addD (mc (.str " ")) (mop2 ixD (mvar 1) (mc (.int 1)))) (mcons (msl (mop2 ixD (mvar 1) (mc (.int 0))) (fun env => some (none, env)) (MM.opt (MM.opt (mc (.int 1)) negD) intD)) (mcons (mop2 addD (mop2 ixD (mvar 1) (mc (.int 0))) (mc (.str "\t"))) (mcons (mop2 addD (mop2 ixD (mvar 1) (mc (.int 1))) (mc (.str " "))) (mnil))))))) few) D.lst [.mu true (.dr s), .im (.lst [.str hd1, .str hd2]), .no] = some (.lst S, [.mu true (.dr s), .im (.lst [.str hd1, .str hd2]), .no]) := by
    simp only [z_sseq, z_sset, z_sret, z_sif, z_snx, z_sbk, z_sct, z_sdrop, z_sasg, z_spar, z_sown, z_sfor, z_mop2, z_mc, z_mvar, z_MM_opt, z_MM_map, z_mcons, z_mnil, z_pnil, z_pcim, z_pcow, z_acim, z_acsl, z_anil, z_mif, z_mandB, z_morB, z_mnotB, z_mandV, z_morV, z_mnotV, z_mmeth, z_fmeth, z_fop2, z_mdr, z_mdrNe, z_mdrLen, z_mdrPop, z_sdr, z_mappend, z_mextend, z_mpopAt, z_mlenO, z_mnilO, z_msl, z_mcall, z_saug, z_mmethL, z_sdraws, z_mtrue, slots_nil, slots_im, slots_sl, argsE, updE, List.nodup_nil, List.nodup_cons, List.not_mem_nil, List.mem_singleton, not_false_eq_true, and_self, and_true, List.nil_append, List.append_nil, List.cons_append, mtg, Zf.setL, setsE, few, blD_b, truD_b, truD_i, truD_l, truD_t, intL_i, intL_b, seqD_l, seqD_t, seqD_s, seqD_c, negD_i, DS.at, DS.put, DS.row, addD_i, subD_i, eqD_i, neD_i, ltD_i, leD_i, gtD_i, geD_i, eqD_s, neD_s, out_l, out_d, okS_s, okW_nil, okW_cons, okM_no, okM_im, okM_mf, okM_mt, okN_no, okN_im, okN_mu, wipeE, List.all_cons, List.all_nil, Bool.and_true, Bool.true_and, Bool.and_self, decide_true, decide_false, reduceIte, if_true, if_false, List.length_cons, List.length_nil, List.getElem?_cons_zero, List.getElem?_cons_succ, List.set_cons_zero, List.set_cons_succ, List.map_cons, List.map_nil, Bool.false_eq_true, Option.some.injEq, Bool.not_true, Bool.not_false, Nat.reduceAdd, Nat.reduceLT, Nat.reduceLeDiff, z_mpop0, intD_i, i0, i1, a1, a2, a3, a4, a5, a7, hneg, intD]
    rw [← hS]
  have p1 : addD (.lst [.str hd1, .str hd2, .str hd1, .str hd2, .str hd1, .str hd2]) (.lst S) = some (.lst (.str hd1 :: .str hd2 :: .str hd1 :: .str hd2 :: .str hd1 :: .str hd2 :: S)) := by subst hS; rfl
  have p2 : addD (.lst (.str hd1 :: .str hd2 :: .str hd1 :: .str hd2 :: .str hd1 :: .str hd2 :: S)) (.lst [.str ("traceback (most recent call last):" : Str), .str ("x" : Str), .str (hd1 ++ ("E" : Str))]) = some (.lst (HM.map D.str)) := by subst hS; rfl
  have body : m_law_head [.mu true (.dr s), .no, .no] = some (.rt (.str (ml l)) [.mu true (.dr s'), .im (.lst [.str hd1, .str hd2]), .im (.lst S)]) := by
    unfold m_law_head
    refine sseq_nx (e1 := [.mu true (.dr s), .im (.lst [.str hd1, .str hd2]), .no]) (by simp only [z_sseq, z_sset, z_sret, z_sif, z_snx, z_sbk, z_sct, z_sdrop, z_sasg, z_spar, z_sown, z_sfor, z_mop2, z_mc, z_mvar, z_MM_opt, z_MM_map, z_mcons, z_mnil, z_pnil, z_pcim, z_pcow, z_acim, z_acsl, z_anil, z_mif, z_mandB, z_morB, z_mnotB, z_mandV, z_morV, z_mnotV, z_mmeth, z_fmeth, z_fop2, z_mdr, z_mdrNe, z_mdrLen, z_mdrPop, z_sdr, z_mappend, z_mextend, z_mpopAt, z_mlenO, z_mnilO, z_msl, z_mcall, z_saug, z_mmethL, z_sdraws, z_mtrue, slots_nil, slots_im, slots_sl, argsE, updE, List.nodup_nil, List.nodup_cons, List.not_mem_nil, List.mem_singleton, not_false_eq_true, and_self, and_true, List.nil_append, List.append_nil, List.cons_append, mtg, Zf.setL, setsE, few, blD_b, truD_b, truD_i, truD_l, truD_t, intL_i, intL_b, seqD_l, seqD_t, seqD_s, seqD_c, negD_i, DS.at, DS.put, DS.row, addD_i, subD_i, eqD_i, neD_i, ltD_i, leD_i, gtD_i, geD_i, eqD_s, neD_s, out_l, out_d, okS_s, okW_nil, okW_cons, okM_no, okM_im, okM_mf, okM_mt, okN_no, okN_im, okN_mu, wipeE, List.all_cons, List.all_nil, Bool.and_true, Bool.true_and, Bool.and_self, decide_true, decide_false, reduceIte, if_true, if_false, List.length_cons, List.length_nil, List.getElem?_cons_zero, List.getElem?_cons_succ, List.set_cons_zero, List.set_cons_succ, List.map_cons, List.map_nil, Bool.false_eq_true, Option.some.injEq, Bool.not_true, Bool.not_false, Nat.reduceAdd, Nat.reduceLT, Nat.reduceLeDiff, z_mpop0, intD_i, q0]; rfl) ?_
    refine sseq_nx (e1 := [.mu true (.dr s), .im (.lst [.str hd1, .str hd2]), .im (.lst S)]) (by rw [z_sset, s1]; simp only [z_sseq, z_sset, z_sret, z_sif, z_snx, z_sbk, z_sct, z_sdrop, z_sasg, z_spar, z_sown, z_sfor, z_mop2, z_mc, z_mvar, z_MM_opt, z_MM_map, z_mcons, z_mnil, z_pnil, z_pcim, z_pcow, z_acim, z_acsl, z_anil, z_mif, z_mandB, z_morB, z_mnotB, z_mandV, z_morV, z_mnotV, z_mmeth, z_fmeth, z_fop2, z_mdr, z_mdrNe, z_mdrLen, z_mdrPop, z_sdr, z_mappend, z_mextend, z_mpopAt, z_mlenO, z_mnilO, z_msl, z_mcall, z_saug, z_mmethL, z_sdraws, z_mtrue, slots_nil, slots_im, slots_sl, argsE, updE, List.nodup_nil, List.nodup_cons, List.not_mem_nil, List.mem_singleton, not_false_eq_true, and_self, and_true, List.nil_append, List.append_nil, List.cons_append, mtg, Zf.setL, setsE, few, blD_b, truD_b, truD_i, truD_l, truD_t, intL_i, intL_b, seqD_l, seqD_t, seqD_s, seqD_c, negD_i, DS.at, DS.put, DS.row, addD_i, subD_i, eqD_i, neD_i, ltD_i, leD_i, gtD_i, geD_i, eqD_s, neD_s, out_l, out_d, okS_s, okW_nil, okW_cons, okM_no, okM_im, okM_mf, okM_mt, okN_no, okN_im, okN_mu, wipeE, List.all_cons, List.all_nil, Bool.and_true, Bool.true_and, Bool.and_self, decide_true, decide_false, reduceIte, if_true, if_false, List.length_cons, List.length_nil, List.getElem?_cons_zero, List.getElem?_cons_succ, List.set_cons_zero, List.set_cons_succ, List.map_cons, List.map_nil, Bool.false_eq_true, Option.some.injEq, Bool.not_true, Bool.not_false, Nat.reduceAdd, Nat.reduceLT, Nat.reduceLeDiff, z_mpop0, intD_i]) ?_
    simp only [z_sseq, z_sset, z_sret, z_sif, z_snx, z_sbk, z_sct, z_sdrop, z_sasg, z_spar, z_sown, z_sfor, z_mop2, z_mc, z_mvar, z_MM_opt, z_MM_map, z_mcons, z_mnil, z_pnil, z_pcim, z_pcow, z_acim, z_acsl, z_anil, z_mif, z_mandB, z_morB, z_mnotB, z_mandV, z_morV, z_mnotV, z_mmeth, z_fmeth, z_fop2, z_mdr, z_mdrNe, z_mdrLen, z_mdrPop, z_sdr, z_mappend, z_mextend, z_mpopAt, z_mlenO, z_mnilO, z_msl, z_mcall, z_saug, z_mmethL, z_sdraws, z_mtrue, slots_nil, slots_im, slots_sl, argsE, updE, List.nodup_nil, List.nodup_cons, List.not_mem_nil, List.mem_singleton, not_false_eq_true, and_self, and_true, List.nil_append, List.append_nil, List.cons_append, mtg, Zf.setL, setsE, few, blD_b, truD_b, truD_i, truD_l, truD_t, intL_i, intL_b, seqD_l, seqD_t, seqD_s, seqD_c, negD_i, DS.at, DS.put, DS.row, addD_i, subD_i, eqD_i, neD_i, ltD_i, leD_i, gtD_i, geD_i, eqD_s, neD_s, out_l, out_d, okS_s, okW_nil, okW_cons, okM_no, okM_im, okM_mf, okM_mt, okN_no, okN_im, okN_mu, wipeE, List.all_cons, List.all_nil, Bool.and_true, Bool.true_and, Bool.and_self, decide_true, decide_false, reduceIte, if_true, if_false, List.length_cons, List.length_nil, List.getElem?_cons_zero, List.getElem?_cons_succ, List.set_cons_zero, List.set_cons_succ, List.map_cons, List.map_nil, Bool.false_eq_true, Option.some.injEq, Bool.not_true, Bool.not_false, Nat.reduceAdd, Nat.reduceLT, Nat.reduceLeDiff, z_mpop0, intD_i, i0, a6, q2, m1, p1, p2, e1]
  exact fnM_rt (n := 3) (args := [.mu true (.dr s)]) (m := m_law_head) body
/-! the law's own look -/
theorem heads_ok (p : List Nat) : ninD (.str (ml (trimR is32 p))) (.tup [.str ("Traceback (most recent call last):" : Str), .str ("Traceback (innermost last):" : Str)]) = some (.bl (!isHd p)) := by
  refine (nin_tup (ml (trimR is32 p)) ["Traceback (most recent call last):", "Traceback (innermost last):"]).trans ?_
  congr 3
  unfold isHd
  rw [Bool.eq_iff_iff, Bool.or_eq_true, decide_eq_true_eq, decide_eq_true_eq, decide_eq_true_eq]
  constructor
  · intro h
    rcases List.mem_cons.mp h with h | h
    · exact .inl (by rw [← ls_ml (trimR is32 p), h]; rfl)
    · exact .inr (by rw [← ls_ml (trimR is32 p), List.mem_singleton.mp h]; rfl)
  · rintro (h | h)
    · rw [h]; exact List.mem_cons_self
    · rw [h]; exact List.mem_cons_of_mem _ (List.mem_singleton.mpr rfl)
theorem sum50 : ∀ {ls : List (List Nat)}, (∀ l ∈ ls, ML l) → (ls.map List.length).sum ≤ 50 * ls.length
  | [], _ => by simp
  | l :: ls, h => by
    have := sum50 (ls := ls) fun x hx => h x (List.mem_cons_of_mem _ hx)
    have := (h l List.mem_cons_self).len
    simp only [List.map_cons, List.sum_cons, List.length_cons]
    omega
theorem lerr_loop (hh : D) (ls : List (List Nat)) (hm : ∀ l ∈ ls, ML l) (hn : ls.length ≤ 100) : ∀ (k a : Nat) (t : Sl), okM t = true → a + k = ls.length → ∃ t', (match eT (ls.drop a) with
    | some r => forL (.one 2) b_law_error_2 (rngD (a : Int) k) [.im (.lst (dl ls)), .im hh, t, .no] = some (.rt (.str (ml (wl r))) [.im (.lst (dl ls)), .im hh, t', .no])
    | none => forL (.one 2) b_law_error_2 (rngD (a : Int) k) [.im (.lst (dl ls)), .im hh, t, .no] = some (.nx [.im (.lst (dl ls)), .im hh, t', .no]))
  | 0, a, t, ht, ha => by
    rw [List.drop_of_length_le (by omega)]
    exact ⟨t, rfl⟩
  | k + 1, a, t, ht, ha => by
    have hlt : a < ls.length := by omega
    obtain ⟨p, hp, hpm⟩ := at_i (L := ls) hlt
    have hd : ls.drop a = p :: ls.drop (a + 1) := by
      obtain ⟨hi, rfl⟩ := List.getElem?_eq_some_iff.mp hp
      exact List.drop_eq_getElem_cons hi
    have hpl := (hm p hpm).len
    have hw := (hm p hpm).w
    have e1 := ix_dl hp
    have e2 := sl_to p 1 (by omega)
    have e2 : slD (.str (ml p)) none (some 1) = some (.str (ml (p.take 1))) := e2
    have e3 : alnumM (ml (p.take 1)) [] = some (.bl (Txt.isalnum (ml (p.take 1)))) := rfl
    have e4 : eqD (.str (ml (p.take 1))) (.str ("_" : Str)) = some (.bl (decide (ml (p.take 1) = ("_" : Str)))) := rfl
    have hmt : mtg (.one 2) (.int (a : Int)) [.im (.lst (dl ls)), .im hh, t, .no] = some [.im (.lst (dl ls)), .im hh, .im (.int (a : Int)), .no] := by simp only [z_sseq, z_sset, z_sret, z_sif, z_snx, z_sbk, z_sct, z_sdrop, z_sasg, z_spar, z_sown, z_sfor, z_mop2, z_mc, z_mvar, z_MM_opt, z_MM_map, z_mcons, z_mnil, z_pnil, z_pcim, z_pcow, z_acim, z_acsl, z_anil, z_mif, z_mandB, z_morB, z_mnotB, z_mandV, z_morV, z_mnotV, z_mmeth, z_fmeth, z_fop2, z_mdr, z_mdrNe, z_mdrLen, z_mdrPop, z_sdr, z_mappend, z_mextend, z_mpopAt, z_mlenO, z_mnilO, z_msl, z_mcall, z_saug, z_mmethL, z_sdraws, z_mtrue, slots_nil, slots_im, slots_sl, argsE, updE, List.nodup_nil, List.nodup_cons, List.not_mem_nil, List.mem_singleton, not_false_eq_true, and_self, and_true, List.nil_append, List.append_nil, List.cons_append, mtg, Zf.setL, setsE, few, blD_b, truD_b, truD_i, truD_l, truD_t, intL_i, intL_b, seqD_l, seqD_t, seqD_s, seqD_c, negD_i, DS.at, DS.put, DS.row, addD_i, subD_i, eqD_i, neD_i, ltD_i, leD_i, gtD_i, geD_i, eqD_s, neD_s, out_l, out_d, okS_s, okW_nil, okW_cons, okM_no, okM_im, okM_mf, okM_mt, okN_no, okN_im, okN_mu, wipeE, List.all_cons, List.all_nil, Bool.and_true, Bool.true_and, Bool.and_self, decide_true, decide_false, reduceIte, if_true, if_false, List.length_cons, List.length_nil, List.getElem?_cons_zero, List.getElem?_cons_succ, List.set_cons_zero, List.set_cons_succ, List.map_cons, List.map_nil, Bool.false_eq_true, Option.some.injEq, Bool.not_true, Bool.not_false, Nat.reduceAdd, Nat.reduceLT, Nat.reduceLeDiff, z_mpop0, intD_i, ht]
    rw [rng_succ, hd]
    have hsum := sum50 hm
    have hT : morB (MM.opt (mmeth alnumM (msl (mop2 ixD (mvar 0) (mvar 2)) (fun env => some (none, env)) (MM.opt (mc (.int 1)) intD)) mnil) truD) (MM.opt (mop2 eqD (msl (mop2 ixD (mvar 0) (mvar 2)) (fun env => some (none, env)) (MM.opt (mc (.int 1)) intD)) (mc (.str "_"))) blD) [.im (.lst (dl ls)), .im hh, .im (.int (a : Int)), .no] = some (we p, [.im (.lst (dl ls)), .im hh, .im (.int (a : Int)), .no]) := by
      rw [← hw]
      unfold lawW
      cases z : Txt.isalnum (ml (p.take 1)) with
      | true =>
        rw [z] at e3
        simp only [z_sseq, z_sset, z_sret, z_sif, z_snx, z_sbk, z_sct, z_sdrop, z_sasg, z_spar, z_sown, z_sfor, z_mop2, z_mc, z_mvar, z_MM_opt, z_MM_map, z_mcons, z_mnil, z_pnil, z_pcim, z_pcow, z_acim, z_acsl, z_anil, z_mif, z_mandB, z_morB, z_mnotB, z_mandV, z_morV, z_mnotV, z_mmeth, z_fmeth, z_fop2, z_mdr, z_mdrNe, z_mdrLen, z_mdrPop, z_sdr, z_mappend, z_mextend, z_mpopAt, z_mlenO, z_mnilO, z_msl, z_mcall, z_saug, z_mmethL, z_sdraws, z_mtrue, slots_nil, slots_im, slots_sl, argsE, updE, List.nodup_nil, List.nodup_cons, List.not_mem_nil, List.mem_singleton, not_false_eq_true, and_self, and_true, List.nil_append, List.append_nil, List.cons_append, mtg, Zf.setL, setsE, few, blD_b, truD_b, truD_i, truD_l, truD_t, intL_i, intL_b, seqD_l, seqD_t, seqD_s, seqD_c, negD_i, DS.at, DS.put, DS.row, addD_i, subD_i, eqD_i, neD_i, ltD_i, leD_i, gtD_i, geD_i, eqD_s, neD_s, out_l, out_d, okS_s, okW_nil, okW_cons, okM_no, okM_im, okM_mf, okM_mt, okN_no, okN_im, okN_mu, wipeE, List.all_cons, List.all_nil, Bool.and_true, Bool.true_and, Bool.and_self, decide_true, decide_false, reduceIte, if_true, if_false, List.length_cons, List.length_nil, List.getElem?_cons_zero, List.getElem?_cons_succ, List.set_cons_zero, List.set_cons_succ, List.map_cons, List.map_nil, Bool.false_eq_true, Option.some.injEq, Bool.not_true, Bool.not_false, Nat.reduceAdd, Nat.reduceLT, Nat.reduceLeDiff, z_mpop0, intD_i, e1, e2, e3, intD, Bool.true_or]
      | false =>
        rw [z] at e3
        simp only [z_sseq, z_sset, z_sret, z_sif, z_snx, z_sbk, z_sct, z_sdrop, z_sasg, z_spar, z_sown, z_sfor, z_mop2, z_mc, z_mvar, z_MM_opt, z_MM_map, z_mcons, z_mnil, z_pnil, z_pcim, z_pcow, z_acim, z_acsl, z_anil, z_mif, z_mandB, z_morB, z_mnotB, z_mandV, z_morV, z_mnotV, z_mmeth, z_fmeth, z_fop2, z_mdr, z_mdrNe, z_mdrLen, z_mdrPop, z_sdr, z_mappend, z_mextend, z_mpopAt, z_mlenO, z_mnilO, z_msl, z_mcall, z_saug, z_mmethL, z_sdraws, z_mtrue, slots_nil, slots_im, slots_sl, argsE, updE, List.nodup_nil, List.nodup_cons, List.not_mem_nil, List.mem_singleton, not_false_eq_true, and_self, and_true, List.nil_append, List.append_nil, List.cons_append, mtg, Zf.setL, setsE, few, blD_b, truD_b, truD_i, truD_l, truD_t, intL_i, intL_b, seqD_l, seqD_t, seqD_s, seqD_c, negD_i, DS.at, DS.put, DS.row, addD_i, subD_i, eqD_i, neD_i, ltD_i, leD_i, gtD_i, geD_i, eqD_s, neD_s, out_l, out_d, okS_s, okW_nil, okW_cons, okM_no, okM_im, okM_mf, okM_mt, okN_no, okN_im, okN_mu, wipeE, List.all_cons, List.all_nil, Bool.and_true, Bool.true_and, Bool.and_self, decide_true, decide_false, reduceIte, if_true, if_false, List.length_cons, List.length_nil, List.getElem?_cons_zero, List.getElem?_cons_succ, List.set_cons_zero, List.set_cons_succ, List.map_cons, List.map_nil, Bool.false_eq_true, Option.some.injEq, Bool.not_true, Bool.not_false, Nat.reduceAdd, Nat.reduceLT, Nat.reduceLeDiff, z_mpop0, intD_i, e1, e2, e3, e4, intD, Bool.false_or]
    by_cases q : we p = true
    · refine ⟨.im (.int (a : Int)), ?_⟩
      have : eT (p :: ls.drop (a + 1)) = some (p :: ls.drop (a + 1)) := by unfold eT; rw [if_pos q]
      rw [this]
      rw [q] at hT
      obtain ⟨r, hr⟩ : ∃ r, r = p :: ls.drop (a + 1) := ⟨_, rfl⟩
      have hrl : r = ls.drop a := by rw [hr, hd]
      have s1 := sl_dl_from ls a
      rw [← hrl] at s1
      have hrm : ∀ l ∈ r, ML l := fun l hl => hm l (by rw [hrl] at hl; exact List.mem_of_mem_drop hl)
      have hrn : r.length ≤ 100 := by rw [hrl, List.length_drop]; omega
      have hrs := sum50 hrm
      have c1 : mlc (.one 3) [3] (MM.opt (msl (mvar 0) (MM.opt (mvar 2) intD) (fun env => some (none, env))) seqD) (mtrue) (e_law_error_1) [.im (.lst (dl ls)), .im hh, .im (.int (a : Int)), .no] = some (dl (r.map (· ++ [10])), [.im (.lst (dl ls)), .im hh, .im (.int (a : Int)), .no]) := by
        rw [mlc_m (ds := dl r) (fun d => .str (ml (stL d ++ [10]))) (by simp only [z_sseq, z_sset, z_sret, z_sif, z_snx, z_sbk, z_sct, z_sdrop, z_sasg, z_spar, z_sown, z_sfor, z_mop2, z_mc, z_mvar, z_MM_opt, z_MM_map, z_mcons, z_mnil, z_pnil, z_pcim, z_pcow, z_acim, z_acsl, z_anil, z_mif, z_mandB, z_morB, z_mnotB, z_mandV, z_morV, z_mnotV, z_mmeth, z_fmeth, z_fop2, z_mdr, z_mdrNe, z_mdrLen, z_mdrPop, z_sdr, z_mappend, z_mextend, z_mpopAt, z_mlenO, z_mnilO, z_msl, z_mcall, z_saug, z_mmethL, z_sdraws, z_mtrue, slots_nil, slots_im, slots_sl, argsE, updE, List.nodup_nil, List.nodup_cons, List.not_mem_nil, List.mem_singleton, not_false_eq_true, and_self, and_true, List.nil_append, List.append_nil, List.cons_append, mtg, Zf.setL, setsE, few, blD_b, truD_b, truD_i, truD_l, truD_t, intL_i, intL_b, seqD_l, seqD_t, seqD_s, seqD_c, negD_i, DS.at, DS.put, DS.row, addD_i, subD_i, eqD_i, neD_i, ltD_i, leD_i, gtD_i, geD_i, eqD_s, neD_s, out_l, out_d, okS_s, okW_nil, okW_cons, okM_no, okM_im, okM_mf, okM_mt, okN_no, okN_im, okN_mu, wipeE, List.all_cons, List.all_nil, Bool.and_true, Bool.true_and, Bool.and_self, decide_true, decide_false, reduceIte, if_true, if_false, List.length_cons, List.length_nil, List.getElem?_cons_zero, List.getElem?_cons_succ, List.set_cons_zero, List.set_cons_succ, List.map_cons, List.map_nil, Bool.false_eq_true, Option.some.injEq, Bool.not_true, Bool.not_false, Nat.reduceAdd, Nat.reduceLT, Nat.reduceLeDiff, z_mpop0, intD_i, s1, seqD, intD]) (by rw [dl_len]; omega) rfl (fun d hd => by
          obtain ⟨l, hl, rfl⟩ := mem_dl hd
          have e3 := add_nl l (by have := (hrm l hl).len; omega)
          unfold e_law_error_1
          simp only [z_sseq, z_sset, z_sret, z_sif, z_snx, z_sbk, z_sct, z_sdrop, z_sasg, z_spar, z_sown, z_sfor, z_mop2, z_mc, z_mvar, z_MM_opt, z_MM_map, z_mcons, z_mnil, z_pnil, z_pcim, z_pcow, z_acim, z_acsl, z_anil, z_mif, z_mandB, z_morB, z_mnotB, z_mandV, z_morV, z_mnotV, z_mmeth, z_fmeth, z_fop2, z_mdr, z_mdrNe, z_mdrLen, z_mdrPop, z_sdr, z_mappend, z_mextend, z_mpopAt, z_mlenO, z_mnilO, z_msl, z_mcall, z_saug, z_mmethL, z_sdraws, z_mtrue, slots_nil, slots_im, slots_sl, argsE, updE, List.nodup_nil, List.nodup_cons, List.not_mem_nil, List.mem_singleton, not_false_eq_true, and_self, and_true, List.nil_append, List.append_nil, List.cons_append, mtg, Zf.setL, setsE, few, blD_b, truD_b, truD_i, truD_l, truD_t, intL_i, intL_b, seqD_l, seqD_t, seqD_s, seqD_c, negD_i, DS.at, DS.put, DS.row, addD_i, subD_i, eqD_i, neD_i, ltD_i, leD_i, gtD_i, geD_i, eqD_s, neD_s, out_l, out_d, okS_s, okW_nil, okW_cons, okM_no, okM_im, okM_mf, okM_mt, okN_no, okN_im, okN_mu, wipeE, List.all_cons, List.all_nil, Bool.and_true, Bool.true_and, Bool.and_self, decide_true, decide_false, reduceIte, if_true, if_false, List.length_cons, List.length_nil, List.getElem?_cons_zero, List.getElem?_cons_succ, List.set_cons_zero, List.set_cons_succ, List.map_cons, List.map_nil, Bool.false_eq_true, Option.some.injEq, Bool.not_true, Bool.not_false, Nat.reduceAdd, Nat.reduceLT, Nat.reduceLeDiff, z_mpop0, intD_i, e3, stL_ml]), map_dl (fun l => l ++ [10])]
      have j1 := join_wl r (by rw [wl_len]; omega)
      have hb : b_law_error_2 [.im (.lst (dl ls)), .im hh, .im (.int (a : Int)), .no] = some (.rt (.str (ml (wl r))) [.im (.lst (dl ls)), .im hh, .im (.int (a : Int)), .no]) := by
        unfold b_law_error_2
        rw [sif_t hT]
        simp only [z_sseq, z_sset, z_sret, z_sif, z_snx, z_sbk, z_sct, z_sdrop, z_sasg, z_spar, z_sown, z_sfor, z_mop2, z_mc, z_mvar, z_MM_opt, z_MM_map, z_mcons, z_mnil, z_pnil, z_pcim, z_pcow, z_acim, z_acsl, z_anil, z_mif, z_mandB, z_morB, z_mnotB, z_mandV, z_morV, z_mnotV, z_mmeth, z_fmeth, z_fop2, z_mdr, z_mdrNe, z_mdrLen, z_mdrPop, z_sdr, z_mappend, z_mextend, z_mpopAt, z_mlenO, z_mnilO, z_msl, z_mcall, z_saug, z_mmethL, z_sdraws, z_mtrue, slots_nil, slots_im, slots_sl, argsE, updE, List.nodup_nil, List.nodup_cons, List.not_mem_nil, List.mem_singleton, not_false_eq_true, and_self, and_true, List.nil_append, List.append_nil, List.cons_append, mtg, Zf.setL, setsE, few, blD_b, truD_b, truD_i, truD_l, truD_t, intL_i, intL_b, seqD_l, seqD_t, seqD_s, seqD_c, negD_i, DS.at, DS.put, DS.row, addD_i, subD_i, eqD_i, neD_i, ltD_i, leD_i, gtD_i, geD_i, eqD_s, neD_s, out_l, out_d, okS_s, okW_nil, okW_cons, okM_no, okM_im, okM_mf, okM_mt, okN_no, okN_im, okN_mu, wipeE, List.all_cons, List.all_nil, Bool.and_true, Bool.true_and, Bool.and_self, decide_true, decide_false, reduceIte, if_true, if_false, List.length_cons, List.length_nil, List.getElem?_cons_zero, List.getElem?_cons_succ, List.set_cons_zero, List.set_cons_succ, List.map_cons, List.map_nil, Bool.false_eq_true, Option.some.injEq, Bool.not_true, Bool.not_false, Nat.reduceAdd, Nat.reduceLT, Nat.reduceLeDiff, z_mpop0, intD_i, c1, j1]
      rw [← hr]
      show forL _ _ (.int (a : Int) :: _) _ = _
      unfold forL
      simp only [hmt, hb]
    · have q' : we p = false := by simpa using q
      rw [q'] at hT
      have hb : b_law_error_2 [.im (.lst (dl ls)), .im hh, .im (.int (a : Int)), .no] = some (.nx [.im (.lst (dl ls)), .im hh, .im (.int (a : Int)), .no]) := by
        unfold b_law_error_2
        rw [sif_f hT, z_snx]
      have : eT (p :: ls.drop (a + 1)) = eT (ls.drop (a + 1)) := by conv => lhs; unfold eT; rw [if_neg q]
      rw [this]
      obtain ⟨t', h⟩ := lerr_loop hh ls hm hn k (a + 1) (.im (.int (a : Int))) rfl (by omega)
      refine ⟨t', ?_⟩
      have st : forL (.one 2) b_law_error_2 (.int (a : Int) :: rngD ((a : Int) + 1) k) [.im (.lst (dl ls)), .im hh, t, .no] = forL (.one 2) b_law_error_2 (rngD ((a + 1 : Nat) : Int) k) [.im (.lst (dl ls)), .im hh, .im (.int (a : Int)), .no] := by
        conv => lhs; unfold forL
        simp only [hmt, hb]
        rfl
      rw [st]
      exact h
theorem law_error_ok (ls : List (List Nat)) (hne : ls ≠ []) (hm : ∀ l ∈ ls, ML l) (hn : ls.length ≤ 100) : F_law_error [.im (.lst (dl ls))] = some (errW ls, [.im (.lst (dl ls))]) := by
  obtain ⟨p, r, rfl⟩ : ∃ p r, ls = p :: r := by
    cases ls with
    | nil => exact absurd rfl hne
    | cons p r => exact ⟨p, r, rfl⟩
  have hp := hm p List.mem_cons_self
  have e1 : ixD (.lst (dl (p :: r))) (.int 0) = some (.str (ml p)) := ix_dl (ls := p :: r) (i := 0) rfl
  have e2 := rs32 p (by have := hp.len; omega)
  have e3 := heads_ok p
  have ok : OkS ((p :: r).map ml) := fun s hs => by
    obtain ⟨l, hl, rfl⟩ := List.mem_map.mp hs
    exact (hm l hl).ok
  have e4 : eqD (.lst (dl (p :: r))) (.lst []) = some (.bl false) := by
    rw [dl_strs]
    refine (eqD_strs ((p :: r).map ml) [] ok (fun _ h => nomatch h)).trans ?_
    rw [decide_eq_false (by simp)]
  have q0 : few [.str ("Traceback (most recent call last):" : Str), .str ("Traceback (innermost last):" : Str)] = some [.str ("Traceback (most recent call last):" : Str), .str ("Traceback (innermost last):" : Str)] := rfl
  have q1 : few [] = some [] := rfl
  have e5 : lenL [.lst (dl (p :: r))] = some (.int ((p :: r).length : Int)) := len_dl _
  obtain ⟨L, hL⟩ : ∃ L, L = p :: r := ⟨_, rfl⟩
  have body : ∃ t, m_law_error [.im (.lst (dl (p :: r))), .no, .no, .no] = some (.rt (errW (p :: r)) [.im (.lst (dl (p :: r))), .im (.tup [.str ("Traceback (most recent call last):" : Str), .str ("Traceback (innermost last):" : Str)]), t, .no]) := by
    by_cases q : isHd p = true
    · rw [q] at e3
      obtain ⟨t', h⟩ := lerr_loop (.tup [.str ("Traceback (most recent call last):" : Str), .str ("Traceback (innermost last):" : Str)]) (p :: r) hm hn r.length 1 .no rfl (by simp; omega)
      have e6 : rng2D [.int 1, .int ((p :: r).length : Int)] = some (rngD ((1 : Nat) : Int) r.length) := by
        have := rng2_nn (a := 1) (b := (p :: r).length) (by omega) (by omega)
        rw [show (p :: r).length - 1 = r.length by simp] at this
        exact this
      have hE : errL (p :: r) = eT r := by show (if isHd p = true then eT r else none) = eT r; rw [if_pos q]
      have h : (match eT r with
        | some r' => forL (.one 2) b_law_error_2 (rngD ((1 : Nat) : Int) r.length) [.im (.lst (dl (p :: r))), .im (.tup [.str ("Traceback (most recent call last):" : Str), .str ("Traceback (innermost last):" : Str)]), .no, .no] = some (.rt (.str (ml (wl r'))) [.im (.lst (dl (p :: r))), .im (.tup [.str ("Traceback (most recent call last):" : Str), .str ("Traceback (innermost last):" : Str)]), t', .no])
        | none => forL (.one 2) b_law_error_2 (rngD ((1 : Nat) : Int) r.length) [.im (.lst (dl (p :: r))), .im (.tup [.str ("Traceback (most recent call last):" : Str), .str ("Traceback (innermost last):" : Str)]), .no, .no] = some (.nx [.im (.lst (dl (p :: r))), .im (.tup [.str ("Traceback (most recent call last):" : Str), .str ("Traceback (innermost last):" : Str)]), t', .no])) := h
      unfold errW
      rw [hE]
      rw [← hL] at e1 e4 e5 e6 h ⊢
      cases z : eT r with
      | none =>
        rw [z] at h
        refine ⟨t', ?_⟩
        unfold m_law_error
        simp only [z_sseq, z_sset, z_sret, z_sif, z_snx, z_sbk, z_sct, z_sdrop, z_sasg, z_spar, z_sown, z_sfor, z_mop2, z_mc, z_mvar, z_MM_opt, z_MM_map, z_mcons, z_mnil, z_pnil, z_pcim, z_pcow, z_acim, z_acsl, z_anil, z_mif, z_mandB, z_morB, z_mnotB, z_mandV, z_morV, z_mnotV, z_mmeth, z_fmeth, z_fop2, z_mdr, z_mdrNe, z_mdrLen, z_mdrPop, z_sdr, z_mappend, z_mextend, z_mpopAt, z_mlenO, z_mnilO, z_msl, z_mcall, z_saug, z_mmethL, z_sdraws, z_mtrue, slots_nil, slots_im, slots_sl, argsE, updE, List.nodup_nil, List.nodup_cons, List.not_mem_nil, List.mem_singleton, not_false_eq_true, and_self, and_true, List.nil_append, List.append_nil, List.cons_append, mtg, Zf.setL, setsE, few, blD_b, truD_b, truD_i, truD_l, truD_t, intL_i, intL_b, seqD_l, seqD_t, seqD_s, seqD_c, negD_i, DS.at, DS.put, DS.row, addD_i, subD_i, eqD_i, neD_i, ltD_i, leD_i, gtD_i, geD_i, eqD_s, neD_s, out_l, out_d, okS_s, okW_nil, okW_cons, okM_no, okM_im, okM_mf, okM_mt, okN_no, okN_im, okN_mu, wipeE, List.all_cons, List.all_nil, Bool.and_true, Bool.true_and, Bool.and_self, decide_true, decide_false, reduceIte, if_true, if_false, List.length_cons, List.length_nil, List.getElem?_cons_zero, List.getElem?_cons_succ, List.set_cons_zero, List.set_cons_succ, List.map_cons, List.map_nil, Bool.false_eq_true, Option.some.injEq, Bool.not_true, Bool.not_false, Nat.reduceAdd, Nat.reduceLT, Nat.reduceLeDiff, z_mpop0, intD_i, q0, q1, e1, e2, e3, e4, e5, e6, h]
      | some r2 =>
        rw [z] at h
        refine ⟨t', ?_⟩
        unfold m_law_error
        simp only [z_sseq, z_sset, z_sret, z_sif, z_snx, z_sbk, z_sct, z_sdrop, z_sasg, z_spar, z_sown, z_sfor, z_mop2, z_mc, z_mvar, z_MM_opt, z_MM_map, z_mcons, z_mnil, z_pnil, z_pcim, z_pcow, z_acim, z_acsl, z_anil, z_mif, z_mandB, z_morB, z_mnotB, z_mandV, z_morV, z_mnotV, z_mmeth, z_fmeth, z_fop2, z_mdr, z_mdrNe, z_mdrLen, z_mdrPop, z_sdr, z_mappend, z_mextend, z_mpopAt, z_mlenO, z_mnilO, z_msl, z_mcall, z_saug, z_mmethL, z_sdraws, z_mtrue, slots_nil, slots_im, slots_sl, argsE, updE, List.nodup_nil, List.nodup_cons, List.not_mem_nil, List.mem_singleton, not_false_eq_true, and_self, and_true, List.nil_append, List.append_nil, List.cons_append, mtg, Zf.setL, setsE, few, blD_b, truD_b, truD_i, truD_l, truD_t, intL_i, intL_b, seqD_l, seqD_t, seqD_s, seqD_c, negD_i, DS.at, DS.put, DS.row, addD_i, subD_i, eqD_i, neD_i, ltD_i, leD_i, gtD_i, geD_i, eqD_s, neD_s, out_l, out_d, okS_s, okW_nil, okW_cons, okM_no, okM_im, okM_mf, okM_mt, okN_no, okN_im, okN_mu, wipeE, List.all_cons, List.all_nil, Bool.and_true, Bool.true_and, Bool.and_self, decide_true, decide_false, reduceIte, if_true, if_false, List.length_cons, List.length_nil, List.getElem?_cons_zero, List.getElem?_cons_succ, List.set_cons_zero, List.set_cons_succ, List.map_cons, List.map_nil, Bool.false_eq_true, Option.some.injEq, Bool.not_true, Bool.not_false, Nat.reduceAdd, Nat.reduceLT, Nat.reduceLeDiff, z_mpop0, intD_i, q0, q1, e1, e2, e3, e4, e5, e6, h]
    · have q' : isHd p = false := by simpa using q
      rw [q'] at e3
      have hE : errL (p :: r) = none := by show (if isHd p = true then eT r else none) = none; rw [if_neg q]
      unfold errW
      rw [hE]
      rw [← hL] at e1 e4 ⊢
      refine ⟨.no, ?_⟩
      unfold m_law_error
      simp only [z_sseq, z_sset, z_sret, z_sif, z_snx, z_sbk, z_sct, z_sdrop, z_sasg, z_spar, z_sown, z_sfor, z_mop2, z_mc, z_mvar, z_MM_opt, z_MM_map, z_mcons, z_mnil, z_pnil, z_pcim, z_pcow, z_acim, z_acsl, z_anil, z_mif, z_mandB, z_morB, z_mnotB, z_mandV, z_morV, z_mnotV, z_mmeth, z_fmeth, z_fop2, z_mdr, z_mdrNe, z_mdrLen, z_mdrPop, z_sdr, z_mappend, z_mextend, z_mpopAt, z_mlenO, z_mnilO, z_msl, z_mcall, z_saug, z_mmethL, z_sdraws, z_mtrue, slots_nil, slots_im, slots_sl, argsE, updE, List.nodup_nil, List.nodup_cons, List.not_mem_nil, List.mem_singleton, not_false_eq_true, and_self, and_true, List.nil_append, List.append_nil, List.cons_append, mtg, Zf.setL, setsE, few, blD_b, truD_b, truD_i, truD_l, truD_t, intL_i, intL_b, seqD_l, seqD_t, seqD_s, seqD_c, negD_i, DS.at, DS.put, DS.row, addD_i, subD_i, eqD_i, neD_i, ltD_i, leD_i, gtD_i, geD_i, eqD_s, neD_s, out_l, out_d, okS_s, okW_nil, okW_cons, okM_no, okM_im, okM_mf, okM_mt, okN_no, okN_im, okN_mu, wipeE, List.all_cons, List.all_nil, Bool.and_true, Bool.true_and, Bool.and_self, decide_true, decide_false, reduceIte, if_true, if_false, List.length_cons, List.length_nil, List.getElem?_cons_zero, List.getElem?_cons_succ, List.set_cons_zero, List.set_cons_succ, List.map_cons, List.map_nil, Bool.false_eq_true, Option.some.injEq, Bool.not_true, Bool.not_false, Nat.reduceAdd, Nat.reduceLT, Nat.reduceLeDiff, z_mpop0, intD_i, q0, q1, e1, e2, e3, e4]
  obtain ⟨t, body⟩ := body
  exact fnM_rt (n := 4) (args := [.im (.lst (dl (p :: r)))]) (m := m_law_error) body
/-! the example of a text -/
def pr : List Nat := [62, 62, 62, 32, 120]
theorem cnt_all {g : List Nat → Bool} {L : List (List Nat)} {a : Nat} (h : ∀ l ∈ L.drop a, g l = true) : cnt g L a = L.length - a := by
  unfold cnt
  have : (L.drop a).takeWhile g = L.drop a := by
    generalize L.drop a = M at h
    induction M with
    | nil => rfl
    | cons p M ih =>
      rw [List.takeWhile_cons, if_pos (h p List.mem_cons_self), ih fun l hl => h l (List.mem_cons_of_mem _ hl)]
  rw [this, List.length_drop]
theorem lst_0 (ls : List (List Nat)) : lst (pr :: ls) = 0 := by
  have mem : (0 : Int) ∈ inds (pr :: ls) := List.mem_map.mpr ⟨pr, List.mem_filter.mpr ⟨List.mem_cons_self, by decide⟩, rfl⟩
  obtain ⟨m, hm⟩ := minI_some (List.ne_nil_of_mem mem)
  obtain ⟨j1, j2⟩ := minI_le hm
  have := j2 0 mem
  unfold lst
  rw [hm]
  show m.toNat = 0
  omega
theorem ex_ok (ls : List (List Nat)) (hne : ls ≠ []) (hm : ∀ l ∈ ls, ML l) (h9 : ∀ l ∈ ls, 9 ∉ l) (hnb : ∀ l ∈ ls, nb l = true) (hM : ∀ l, ls.head? = some l → isM l = false) (hn : ls.length ≤ 7) : ∃ d, F_examples_of [.im (.str (ml (jn [10] (pr :: ls))))] = some (.lst [d], [.im (.str (ml (jn [10] (pr :: ls))))]) ∧ attrD [0] "error" d = some (errW ls) := by
  obtain ⟨L, hL⟩ : ∃ L, L = pr :: ls := ⟨_, rfl⟩
  have hL10 : ∀ l ∈ L, 10 ∉ l := fun l hl => by
    rw [hL] at hl
    rcases List.mem_cons.mp hl with rfl | hl
    · decide
    · exact (hm l hl).n10
  have hL9 : ∀ l ∈ L, 9 ∉ l := fun l hl => by
    rw [hL] at hl
    rcases List.mem_cons.mp hl with rfl | hl
    · decide
    · exact h9 l hl
  have hLnb : ∀ l ∈ L, nb l = true := fun l hl => by
    rw [hL] at hl
    rcases List.mem_cons.mp hl with rfl | hl
    · decide
    · exact hnb l hl
  have hLl : L.length = ls.length + 1 := by rw [hL]; rfl
  have hLne : L ≠ [] := by rw [hL]; simp
  obtain ⟨x, hx⟩ : ∃ x, x = jn [10] L := ⟨_, rfl⟩
  have hsp : sp 10 x = L := by rw [hx]; exact sp_jn L hLne hL10
  have hsum := sum50 hm
  have hLsum : (L.map List.length).sum ≤ 5 + 50 * 7 := by
    rw [hL, List.map_cons, List.sum_cons]
    have : pr.length = 5 := rfl
    omega
  have hxl : x.length ≤ 5000 := by
    have := sp_sum 10 x
    rw [hsp] at this
    omega
  have hlines : lines x = L := by
    unfold lines
    rw [hsp]
    exact map_id_of fun p hp => wd_id (hL9 p hp)
  have hlv : sp 10 (lv x) = L := by
    rw [sp_lv, hlines]
    unfold lvl
    rw [hL, lst_0, ← hL]
    exact map_id_of fun p _ => rfl
  obtain ⟨A, z, hAz⟩ : ∃ A z, L = A ++ [z] := ⟨L.dropLast, L.getLast hLne, (List.dropLast_concat_getLast hLne).symm⟩
  have hz : z ≠ [] := fun q => by
    have := hLnb z (by rw [hAz]; simp)
    rw [q] at this
    cases this
  have htl : tl z = [z] := by unfold tl; rw [if_neg hz]
  have lvx : Lv x A z := ⟨hxl, by rw [hlv, hAz]⟩
  have hAt : A ++ tl z = L := by rw [htl, hAz]
  have hRl := Lv.rl (A := A) (z := z)
  have hLS := lvx.sumL
  rw [hAt] at hRl hLS
  have hRs := rows_sum A z
  have hs60 := lvx.sum
  obtain ⟨R, hR⟩ : ∃ R, R = rowsL A z := ⟨_, rfl⟩
  have hl0 : L[0]? = some pr := by rw [hL]; rfl
  have hm1 : cnt isM L 1 = 0 := by
    unfold cnt
    have : L.drop 1 = ls := by rw [hL]; rfl
    rw [this]
    cases ls with
    | nil => rfl
    | cons h r => rw [List.takeWhile_cons, if_neg (by rw [hM h rfl]; decide)]; rfl
  have hw1 : cnt isW L 1 = L.length - 1 := cnt_all fun l hl => by
    have hl : l ∈ ls := by rw [hL] at hl; exact hl
    unfold isW
    rw [hnb l hl, (hm l hl).np]; rfl
  have pc : Pc L 0 1 L.length 0 [[120]] ls := by
    refine ⟨⟨by omega, by omega, Nat.le_refl _, fun l h => ?_, fun a l h1 h2 h3 => ?_, fun a l h1 h2 h3 => by omega, fun a l _ _ _ => by rw [List.take_zero]; rfl⟩, ?_, ?_, ?_, ⟨[120], List.mem_cons_self, by decide⟩⟩
    · rw [hl0] at h; cases h; decide
    · have : a = 0 := by omega
      rw [this, hl0] at h3; cases h3; exact .inr (by decide)
    · rw [hL]; rfl
    · rw [hL]
      show ls = ((ls.take ((pr :: ls).length - 1)).map (List.drop 0))
      rw [List.take_of_length_le (by simp)]
      exact (map_id_of fun p _ => rfl).symm
    · intro p hp
      rw [List.mem_singleton.mp hp]
      exact nd_no (by decide)
  have st := step_ex (x := x) (R := R) (L := L) (P := []) (a := 0) (k := 0) (t6 := .no) (t7 := .no) (l := pr) (m := 1) (e := L.length) (i := 0) hLS (by rw [hR]; omega) (by rw [hR, hRl]) (by simp) hL9 hL10 rfl rfl (Nat.le_refl _) hl0 (by decide) (by rw [hm1]) (by rw [hw1]; omega) pc
  obtain ⟨ex, hex⟩ : ∃ ex, ex = exaL [[120]] ls (((0 : Nat) : Int) + 1) ((0 : Nat) : Int) := ⟨_, rfl⟩
  rw [← hex] at st
  have hT0 : MM.opt (mop2 ltD (mvar 4) (MM.opt (mcons (mvar 2) (mnil)) lenL)) blD (PE x R L [] 0 0 .no .no) = some (true, PE x R L [] 0 0 .no .no) := by
    have e1 := ltD_n (a := 0) (n := L.length)
    rw [decide_eq_true (by omega)] at e1
    have e2 := len_dl L
    unfold PE
    simp only [z_sseq, z_sset, z_sret, z_sif, z_snx, z_sbk, z_sct, z_sdrop, z_sasg, z_spar, z_sown, z_sfor, z_mop2, z_mc, z_mvar, z_MM_opt, z_MM_map, z_mcons, z_mnil, z_pnil, z_pcim, z_pcow, z_acim, z_acsl, z_anil, z_mif, z_mandB, z_morB, z_mnotB, z_mandV, z_morV, z_mnotV, z_mmeth, z_fmeth, z_fop2, z_mdr, z_mdrNe, z_mdrLen, z_mdrPop, z_sdr, z_mappend, z_mextend, z_mpopAt, z_mlenO, z_mnilO, z_msl, z_mcall, z_saug, z_mmethL, z_sdraws, z_mtrue, slots_nil, slots_im, slots_sl, argsE, updE, List.nodup_nil, List.nodup_cons, List.not_mem_nil, List.mem_singleton, not_false_eq_true, and_self, and_true, List.nil_append, List.append_nil, List.cons_append, mtg, Zf.setL, setsE, few, blD_b, truD_b, truD_i, truD_l, truD_t, intL_i, intL_b, seqD_l, seqD_t, seqD_s, seqD_c, negD_i, DS.at, DS.put, DS.row, addD_i, subD_i, eqD_i, neD_i, ltD_i, leD_i, gtD_i, geD_i, eqD_s, neD_s, out_l, out_d, okS_s, okW_nil, okW_cons, okM_no, okM_im, okM_mf, okM_mt, okN_no, okN_im, okN_mu, wipeE, List.all_cons, List.all_nil, Bool.and_true, Bool.true_and, Bool.and_self, decide_true, decide_false, reduceIte, if_true, if_false, List.length_cons, List.length_nil, List.getElem?_cons_zero, List.getElem?_cons_succ, List.set_cons_zero, List.set_cons_succ, List.map_cons, List.map_nil, Bool.false_eq_true, Option.some.injEq, Bool.not_true, Bool.not_false, Nat.reduceAdd, Nat.reduceLT, Nat.reduceLeDiff, z_mpop0, intD_i, e1, e2]
  have hT1 : ∀ P t6 t7, MM.opt (mop2 ltD (mvar 4) (MM.opt (mcons (mvar 2) (mnil)) lenL)) blD (PE x R L P L.length L.length t6 t7) = some (false, PE x R L P L.length L.length t6 t7) := fun P t6 t7 => by
    have e1 := ltD_n (a := L.length) (n := L.length)
    rw [decide_eq_false (by omega)] at e1
    have e2 := len_dl L
    unfold PE
    simp only [z_sseq, z_sset, z_sret, z_sif, z_snx, z_sbk, z_sct, z_sdrop, z_sasg, z_spar, z_sown, z_sfor, z_mop2, z_mc, z_mvar, z_MM_opt, z_MM_map, z_mcons, z_mnil, z_pnil, z_pcim, z_pcow, z_acim, z_acsl, z_anil, z_mif, z_mandB, z_morB, z_mnotB, z_mandV, z_morV, z_mnotV, z_mmeth, z_fmeth, z_fop2, z_mdr, z_mdrNe, z_mdrLen, z_mdrPop, z_sdr, z_mappend, z_mextend, z_mpopAt, z_mlenO, z_mnilO, z_msl, z_mcall, z_saug, z_mmethL, z_sdraws, z_mtrue, slots_nil, slots_im, slots_sl, argsE, updE, List.nodup_nil, List.nodup_cons, List.not_mem_nil, List.mem_singleton, not_false_eq_true, and_self, and_true, List.nil_append, List.append_nil, List.cons_append, mtg, Zf.setL, setsE, few, blD_b, truD_b, truD_i, truD_l, truD_t, intL_i, intL_b, seqD_l, seqD_t, seqD_s, seqD_c, negD_i, DS.at, DS.put, DS.row, addD_i, subD_i, eqD_i, neD_i, ltD_i, leD_i, gtD_i, geD_i, eqD_s, neD_s, out_l, out_d, okS_s, okW_nil, okW_cons, okM_no, okM_im, okM_mf, okM_mt, okN_no, okN_im, okN_mu, wipeE, List.all_cons, List.all_nil, Bool.and_true, Bool.true_and, Bool.and_self, decide_true, decide_false, reduceIte, if_true, if_false, List.length_cons, List.length_nil, List.getElem?_cons_zero, List.getElem?_cons_succ, List.set_cons_zero, List.set_cons_succ, List.map_cons, List.map_nil, Bool.false_eq_true, Option.some.injEq, Bool.not_true, Bool.not_false, Nat.reduceAdd, Nat.reduceLT, Nat.reduceLeDiff, z_mpop0, intD_i, e1, e2]
  have hrun := swhile_t (n := 99999) hT0 st
  rw [swhile_f (n := 99998) (hT1 _ _ _)] at hrun
  rw [List.nil_append] at hrun
  have hp := parsed_ok (x := x) (A := A) (z := z) (P := [.str (ml ((R.drop 0).take (0 - 0)).flatten), ex]) (k := L.length) lvx (by simp) (fun d hd => by
    rcases List.mem_cons.mp hd with rfl | hd
    · exact .inl ⟨_, rfl⟩
    · rw [List.mem_singleton.mp hd, hex]
      exact .inr ⟨0, _, rfl, .inl rfl⟩) (by rw [hAt, ← hR]; exact hrun)
  have hf : ([D.str (ml ((R.drop 0).take (0 - 0)).flatten), ex] ++ [D.str (ml ((rowsL A z).drop L.length).flatten)]).filter keepD = [ex] := by
    have hdr : (rowsL A z).drop L.length = [] := List.drop_of_length_le (by rw [hRl]; exact Nat.le_refl _)
    rw [hdr, Nat.sub_zero, List.take_zero, hex]
    rfl
  rw [hf] at hp
  have he := examples_ok hp (by simp) (fun d hd => by
    rw [List.mem_singleton.mp hd, hex]
    exact .inr ⟨0, _, rfl, .inl rfl⟩)
  have hf2 : [ex].filter isEx = [ex] := by rw [hex]; rfl
  rw [hf2] at he
  refine ⟨ex, ?_, by rw [hex]; rfl⟩
  rw [← hL, ← hx]
  exact he
/-! one turn -/
def E75 (ns : List Int) (s : DS) (t2 t3 t4 t5 t6 t7 t8 t9 : Sl) : En := [.im (.scr ns), .mu false (.dr s), t2, t3, t4, t5, t6, t7, t8, t9, .no, .no]
theorem line_ok (ns : List Int) (s : DS) (c : Int) (t2 t4 t5 t6 t7 t8 t9 : Sl) (ls : List (List Nat)) (h7 : okM t7 = true) (hs : DOk s c) (hc : c ≤ 1000000) (hn : ls.length ≤ 100) : ∃ l s', b_law_1 (E75 ns s t2 (.mu false (.ml (dl ls))) t4 t5 t6 t7 t8 t9) = some (.nx (E75 ns s' t2 (.mu false (.ml (dl (ls ++ [l])))) t4 t5 t6 (.im (.lst [.str ("    ..." : Str), .str ("  File a" : Str), .str ("E: m" : Str), .str ("9" : Str), .str ("_x" : Str), .str ("<BLANKLINE>" : Str), .str ("-a" : Str), .str ("a.b.C" : Str), .str ("" : Str), .str (" " : Str), .str ("Z" : Str), .str ("z" : Str)])) t8 t9)) ∧ ML l ∧ 9 ∉ l ∧ DOk s' (c + 1) := by
  obtain ⟨d, s', e1, hm, hs'⟩ := pick_ok s ((LM1 ++ LM2).map D.str) c hs (by decide) (by decide) hc
  obtain ⟨l, rfl, h1, h2⟩ := lm_of hm
  refine ⟨l, s', ?_, h1, h2, hs'⟩
  have p1 : addD (.lst [.str ("    ..." : Str), .str ("  File a" : Str), .str ("E: m" : Str), .str ("9" : Str), .str ("_x" : Str), .str ("<BLANKLINE>" : Str), .str ("-a" : Str), .str ("a.b.C" : Str), .str ("" : Str), .str (" " : Str), .str ("Z" : Str), .str ("z" : Str)]) (.lst [.str ("0 0" : Str), .str ("..." : Str), .str ("(x)" : Str)]) = some (.lst ((LM1 ++ LM2).map D.str)) := rfl
  have q1 : few [.str ("    ..." : Str), .str ("  File a" : Str), .str ("E: m" : Str), .str ("9" : Str), .str ("_x" : Str), .str ("<BLANKLINE>" : Str), .str ("-a" : Str), .str ("a.b.C" : Str), .str ("" : Str), .str (" " : Str), .str ("Z" : Str), .str ("z" : Str)] = some [.str ("    ..." : Str), .str ("  File a" : Str), .str ("E: m" : Str), .str ("9" : Str), .str ("_x" : Str), .str ("<BLANKLINE>" : Str), .str ("-a" : Str), .str ("a.b.C" : Str), .str ("" : Str), .str (" " : Str), .str ("Z" : Str), .str ("z" : Str)] := rfl
  have q2 : few [.str ("0 0" : Str), .str ("..." : Str), .str ("(x)" : Str)] = some [.str ("0 0" : Str), .str ("..." : Str), .str ("(x)" : Str)] := rfl
  have e2 : (dl ls).length < 1000000 := by rw [dl_len]; omega
  unfold b_law_1 E75
  simp only [z_sseq, z_sset, z_sret, z_sif, z_snx, z_sbk, z_sct, z_sdrop, z_sasg, z_spar, z_sown, z_sfor, z_mop2, z_mc, z_mvar, z_MM_opt, z_MM_map, z_mcons, z_mnil, z_pnil, z_pcim, z_pcow, z_acim, z_acsl, z_anil, z_mif, z_mandB, z_morB, z_mnotB, z_mandV, z_morV, z_mnotV, z_mmeth, z_fmeth, z_fop2, z_mdr, z_mdrNe, z_mdrLen, z_mdrPop, z_sdr, z_mappend, z_mextend, z_mpopAt, z_mlenO, z_mnilO, z_msl, z_mcall, z_saug, z_mmethL, z_sdraws, z_mtrue, slots_nil, slots_im, slots_sl, argsE, updE, List.nodup_nil, List.nodup_cons, List.not_mem_nil, List.mem_singleton, not_false_eq_true, and_self, and_true, List.nil_append, List.append_nil, List.cons_append, mtg, Zf.setL, setsE, few, blD_b, truD_b, truD_i, truD_l, truD_t, intL_i, intL_b, seqD_l, seqD_t, seqD_s, seqD_c, negD_i, DS.at, DS.put, DS.row, addD_i, subD_i, eqD_i, neD_i, ltD_i, leD_i, gtD_i, geD_i, eqD_s, neD_s, out_l, out_d, okS_s, okW_nil, okW_cons, okM_no, okM_im, okM_mf, okM_mt, okN_no, okN_im, okN_mu, wipeE, List.all_cons, List.all_nil, Bool.and_true, Bool.true_and, Bool.and_self, decide_true, decide_false, reduceIte, if_true, if_false, List.length_cons, List.length_nil, List.getElem?_cons_zero, List.getElem?_cons_succ, List.set_cons_zero, List.set_cons_succ, List.map_cons, List.map_nil, Bool.false_eq_true, Option.some.injEq, Bool.not_true, Bool.not_false, Nat.reduceAdd, Nat.reduceLT, Nat.reduceLeDiff, z_mpop0, intD_i, q1, q2, p1, e1, e2, h7, dl_app]
  rfl
theorem dropLast_wl : ∀ {r : List (List Nat)}, r ≠ [] → (wl r).dropLast = jn [10] r
  | [p], _ => by
    rw [wl_cons]
    show (p ++ [10]).dropLast = p
    rw [List.dropLast_concat]
  | p :: q :: r, _ => by
    have ih := dropLast_wl (r := q :: r) (by simp)
    have hne : wl (q :: r) ≠ [] := wl_nil (by simp)
    rw [wl_cons, jn_cons _ _ (by simp), ← ih]
    obtain ⟨y, hy⟩ : ∃ y, y = wl (q :: r) := ⟨_, rfl⟩
    rw [← hy] at hne ⊢
    rw [show p ++ 10 :: y = (p ++ [10]) ++ y by simp, List.dropLast_append_of_ne_nil hne]
theorem jn_nl : ∀ {r : List (List Nat)}, r ≠ [] → jn [10] r ++ [10] = wl r
  | [p], _ => by rw [wl_cons]; rfl
  | p :: q :: r, _ => by
    have ih := jn_nl (r := q :: r) (by simp)
    rw [wl_cons, ← ih, jn_cons _ _ (by simp)]
    simp
theorem sn_errW (ls : List (List Nat)) : SN (errW ls) := by
  unfold errW
  split
  · exact .inr ⟨_, rfl⟩
  · exact .inl rfl
theorem sn_errD (ls : List (List Nat)) : SN (errD ls) := by
  unfold errD
  split
  · exact .inr ⟨_, rfl⟩
  · exact .inl rfl
theorem eT_len : ∀ {ls r : List (List Nat)}, eT ls = some r → (wl r).length ≤ (wl ls).length
  | [], r, h => by cases h
  | p :: ls, r, h => by
    unfold eT at h
    split at h
    · cases h; exact Nat.le_refl _
    · have := eT_len h
      rw [wl_cons, List.length_append, List.length_cons]; omega
theorem errL_len {ls r : List (List Nat)} (h : errL ls = some r) : (wl r).length ≤ (wl ls).length := by
  cases ls with
  | nil => cases h
  | cons p ls =>
    have h : (if isHd p = true then eT ls else none) = some r := h
    by_cases q : isHd p = true
    · rw [if_pos q] at h
      have := eT_len h
      rw [wl_cons, List.length_append, List.length_cons]; omega
    · rw [if_neg q] at h; cases h
theorem end_ok (ns : List Int) (s : DS) (t2 t3 t4 t6 t7 t8 t9 : Sl) (ls : List (List Nat)) (e : Str) (he : e = ("" : Str) ∨ e = ("\n" : Str)) (h3 : Fz t3 (dl ls)) (h8 : okM t8 = true) (hne : ls ≠ []) (hm : ∀ l ∈ ls, ML l) (hn : ls.length ≤ 7) : ∃ u8, okM u8 = true ∧ b_law_2 (E75 ns s t2 t3 t4 (.im (.str e)) t6 t7 t8 t9) = some (.nx (E75 ns s t2 (.im (.lst (dl ls))) t4 (.im (.str e)) t6 t7 u8 t9)) := by
  have e1 := law_error_ok ls hne hm (by omega)
  have hsum := sum50 hm
  have hwl : (wl ls).length ≤ 400 := by rw [wl_len]; omega
  have hjl : (jn [10] ls).length ≤ 400 := by
    have := jn_nl hne
    have h2 := congrArg List.length this
    rw [List.length_append, List.length_singleton] at h2
    omega
  have e2 := join_l ls (by omega)
  have n1 : notN .non = some (.bl false) := rfl
  have n2 : ∀ z, notN (.str z) = some (.bl true) := fun _ => rfl
  have hneg : negD (.int 1) = some (.int (-1)) := rfl
  have s1 : sset 8 (mcall F_law_error [] (acim (mvar 3) (anil))) (E75 ns s t2 t3 t4 (.im (.str e)) t6 t7 t8 t9) = some (.nx (E75 ns s t2 (.im (.lst (dl ls))) t4 (.im (.str e)) t6 t7 (.im (errW ls)) t9)) := by
    unfold E75
    rcases h3 with rfl | rfl <;> simp only [z_sseq, z_sset, z_sret, z_sif, z_snx, z_sbk, z_sct, z_sdrop, z_sasg, z_spar, z_sown, z_sfor, z_mop2, z_mc, z_mvar, z_MM_opt, z_MM_map, z_mcons, z_mnil, z_pnil, z_pcim, z_pcow, z_acim, z_acsl, z_anil, z_mif, z_mandB, z_morB, z_mnotB, z_mandV, z_morV, z_mnotV, z_mmeth, z_fmeth, z_fop2, z_mdr, z_mdrNe, z_mdrLen, z_mdrPop, z_sdr, z_mappend, z_mextend, z_mpopAt, z_mlenO, z_mnilO, z_msl, z_mcall, z_saug, z_mmethL, z_sdraws, z_mtrue, slots_nil, slots_im, slots_sl, argsE, updE, List.nodup_nil, List.nodup_cons, List.not_mem_nil, List.mem_singleton, not_false_eq_true, and_self, and_true, List.nil_append, List.append_nil, List.cons_append, mtg, Zf.setL, setsE, few, blD_b, truD_b, truD_i, truD_l, truD_t, intL_i, intL_b, seqD_l, seqD_t, seqD_s, seqD_c, negD_i, DS.at, DS.put, DS.row, addD_i, subD_i, eqD_i, neD_i, ltD_i, leD_i, gtD_i, geD_i, eqD_s, neD_s, out_l, out_d, okS_s, okW_nil, okW_cons, okM_no, okM_im, okM_mf, okM_mt, okN_no, okN_im, okN_mu, wipeE, List.all_cons, List.all_nil, Bool.and_true, Bool.true_and, Bool.and_self, decide_true, decide_false, reduceIte, if_true, if_false, List.length_cons, List.length_nil, List.getElem?_cons_zero, List.getElem?_cons_succ, List.set_cons_zero, List.set_cons_succ, List.map_cons, List.map_nil, Bool.false_eq_true, Option.some.injEq, Bool.not_true, Bool.not_false, Nat.reduceAdd, Nat.reduceLT, Nat.reduceLeDiff, z_mpop0, intD_i, e1, h8]
  rcases he with rfl | rfl
  · have e3 : addD (.str (ml (jn [10] ls))) (.str ("" : Str)) = some (.str (ml (jn [10] ls))) := by
      rw [addD_s (by rw [ml_len, show ("" : Str).length = 0 from rfl]; omega), s_nil]
    have e4 := error_ok (jn [10] ls) (by omega)
    rw [sp_jn ls hne (fun p hp => (hm p hp).n10)] at e4
    have e5 := same_sn (sn_errD ls)
    have q1 : eqD (.str ("" : Str)) (.str ("" : Str)) = some (.bl true) := rfl
    refine ⟨.im (errD ls), rfl, ?_⟩
    unfold b_law_2
    refine sseq_nx s1 (sseq_nx (e1 := E75 ns s t2 (.im (.lst (dl ls))) t4 (.im (.str ("" : Str))) t6 t7 (.im (errD ls)) t9) ?_ ?_)
    · unfold errW errD
      cases z : errL ls with
      | none =>
        unfold E75
        simp only [z_sseq, z_sset, z_sret, z_sif, z_snx, z_sbk, z_sct, z_sdrop, z_sasg, z_spar, z_sown, z_sfor, z_mop2, z_mc, z_mvar, z_MM_opt, z_MM_map, z_mcons, z_mnil, z_pnil, z_pcim, z_pcow, z_acim, z_acsl, z_anil, z_mif, z_mandB, z_morB, z_mnotB, z_mandV, z_morV, z_mnotV, z_mmeth, z_fmeth, z_fop2, z_mdr, z_mdrNe, z_mdrLen, z_mdrPop, z_sdr, z_mappend, z_mextend, z_mpopAt, z_mlenO, z_mnilO, z_msl, z_mcall, z_saug, z_mmethL, z_sdraws, z_mtrue, slots_nil, slots_im, slots_sl, argsE, updE, List.nodup_nil, List.nodup_cons, List.not_mem_nil, List.mem_singleton, not_false_eq_true, and_self, and_true, List.nil_append, List.append_nil, List.cons_append, mtg, Zf.setL, setsE, few, blD_b, truD_b, truD_i, truD_l, truD_t, intL_i, intL_b, seqD_l, seqD_t, seqD_s, seqD_c, negD_i, DS.at, DS.put, DS.row, addD_i, subD_i, eqD_i, neD_i, ltD_i, leD_i, gtD_i, geD_i, eqD_s, neD_s, out_l, out_d, okS_s, okW_nil, okW_cons, okM_no, okM_im, okM_mf, okM_mt, okN_no, okN_im, okN_mu, wipeE, List.all_cons, List.all_nil, Bool.and_true, Bool.true_and, Bool.and_self, decide_true, decide_false, reduceIte, if_true, if_false, List.length_cons, List.length_nil, List.getElem?_cons_zero, List.getElem?_cons_succ, List.set_cons_zero, List.set_cons_succ, List.map_cons, List.map_nil, Bool.false_eq_true, Option.some.injEq, Bool.not_true, Bool.not_false, Nat.reduceAdd, Nat.reduceLT, Nat.reduceLeDiff, z_mpop0, intD_i, n1]
      | some r =>
        have e6 := sl_m1 (wl r) (by have := errL_len z; omega)
        rw [dropLast_wl (errL_ne z)] at e6
        unfold E75
        simp only [z_sseq, z_sset, z_sret, z_sif, z_snx, z_sbk, z_sct, z_sdrop, z_sasg, z_spar, z_sown, z_sfor, z_mop2, z_mc, z_mvar, z_MM_opt, z_MM_map, z_mcons, z_mnil, z_pnil, z_pcim, z_pcow, z_acim, z_acsl, z_anil, z_mif, z_mandB, z_morB, z_mnotB, z_mandV, z_morV, z_mnotV, z_mmeth, z_fmeth, z_fop2, z_mdr, z_mdrNe, z_mdrLen, z_mdrPop, z_sdr, z_mappend, z_mextend, z_mpopAt, z_mlenO, z_mnilO, z_msl, z_mcall, z_saug, z_mmethL, z_sdraws, z_mtrue, slots_nil, slots_im, slots_sl, argsE, updE, List.nodup_nil, List.nodup_cons, List.not_mem_nil, List.mem_singleton, not_false_eq_true, and_self, and_true, List.nil_append, List.append_nil, List.cons_append, mtg, Zf.setL, setsE, few, blD_b, truD_b, truD_i, truD_l, truD_t, intL_i, intL_b, seqD_l, seqD_t, seqD_s, seqD_c, negD_i, DS.at, DS.put, DS.row, addD_i, subD_i, eqD_i, neD_i, ltD_i, leD_i, gtD_i, geD_i, eqD_s, neD_s, out_l, out_d, okS_s, okW_nil, okW_cons, okM_no, okM_im, okM_mf, okM_mt, okN_no, okN_im, okN_mu, wipeE, List.all_cons, List.all_nil, Bool.and_true, Bool.true_and, Bool.and_self, decide_true, decide_false, reduceIte, if_true, if_false, List.length_cons, List.length_nil, List.getElem?_cons_zero, List.getElem?_cons_succ, List.set_cons_zero, List.set_cons_succ, List.map_cons, List.map_nil, Bool.false_eq_true, Option.some.injEq, Bool.not_true, Bool.not_false, Nat.reduceAdd, Nat.reduceLT, Nat.reduceLeDiff, z_mpop0, intD_i, n2, q1, e6, hneg, intD]
    · unfold E75
      simp only [z_sseq, z_sset, z_sret, z_sif, z_snx, z_sbk, z_sct, z_sdrop, z_sasg, z_spar, z_sown, z_sfor, z_mop2, z_mc, z_mvar, z_MM_opt, z_MM_map, z_mcons, z_mnil, z_pnil, z_pcim, z_pcow, z_acim, z_acsl, z_anil, z_mif, z_mandB, z_morB, z_mnotB, z_mandV, z_morV, z_mnotV, z_mmeth, z_fmeth, z_fop2, z_mdr, z_mdrNe, z_mdrLen, z_mdrPop, z_sdr, z_mappend, z_mextend, z_mpopAt, z_mlenO, z_mnilO, z_msl, z_mcall, z_saug, z_mmethL, z_sdraws, z_mtrue, slots_nil, slots_im, slots_sl, argsE, updE, List.nodup_nil, List.nodup_cons, List.not_mem_nil, List.mem_singleton, not_false_eq_true, and_self, and_true, List.nil_append, List.append_nil, List.cons_append, mtg, Zf.setL, setsE, few, blD_b, truD_b, truD_i, truD_l, truD_t, intL_i, intL_b, seqD_l, seqD_t, seqD_s, seqD_c, negD_i, DS.at, DS.put, DS.row, addD_i, subD_i, eqD_i, neD_i, ltD_i, leD_i, gtD_i, geD_i, eqD_s, neD_s, out_l, out_d, okS_s, okW_nil, okW_cons, okM_no, okM_im, okM_mf, okM_mt, okN_no, okN_im, okN_mu, wipeE, List.all_cons, List.all_nil, Bool.and_true, Bool.true_and, Bool.and_self, decide_true, decide_false, reduceIte, if_true, if_false, List.length_cons, List.length_nil, List.getElem?_cons_zero, List.getElem?_cons_succ, List.set_cons_zero, List.set_cons_succ, List.map_cons, List.map_nil, Bool.false_eq_true, Option.some.injEq, Bool.not_true, Bool.not_false, Nat.reduceAdd, Nat.reduceLT, Nat.reduceLeDiff, z_mpop0, intD_i, e2, e3, e4, e5]
  · have e3 : addD (.str (ml (jn [10] ls))) (.str ("\n" : Str)) = some (.str (ml (wl ls))) := by
      rw [add_nl _ (by omega), jn_nl hne]
    have e4 := error_ok (wl ls) (by omega)
    rw [errD_wl (fun p hp => (hm p hp).n10)] at e4
    have e5 := same_sn (sn_errW ls)
    have q1 : eqD (.str ("\n" : Str)) (.str ("" : Str)) = some (.bl false) := rfl
    refine ⟨.im (errW ls), rfl, ?_⟩
    unfold b_law_2
    refine sseq_nx s1 (sseq_nx (e1 := E75 ns s t2 (.im (.lst (dl ls))) t4 (.im (.str ("\n" : Str))) t6 t7 (.im (errW ls)) t9) ?_ ?_)
    · have hnn : ∃ b, notN (errW ls) = some (.bl b) := by
        rcases sn_errW ls with h | ⟨z, h⟩ <;> rw [h]
        · exact ⟨_, n1⟩
        · exact ⟨_, n2 z⟩
      obtain ⟨b, hb⟩ := hnn
      unfold E75
      cases b <;> simp only [z_sseq, z_sset, z_sret, z_sif, z_snx, z_sbk, z_sct, z_sdrop, z_sasg, z_spar, z_sown, z_sfor, z_mop2, z_mc, z_mvar, z_MM_opt, z_MM_map, z_mcons, z_mnil, z_pnil, z_pcim, z_pcow, z_acim, z_acsl, z_anil, z_mif, z_mandB, z_morB, z_mnotB, z_mandV, z_morV, z_mnotV, z_mmeth, z_fmeth, z_fop2, z_mdr, z_mdrNe, z_mdrLen, z_mdrPop, z_sdr, z_mappend, z_mextend, z_mpopAt, z_mlenO, z_mnilO, z_msl, z_mcall, z_saug, z_mmethL, z_sdraws, z_mtrue, slots_nil, slots_im, slots_sl, argsE, updE, List.nodup_nil, List.nodup_cons, List.not_mem_nil, List.mem_singleton, not_false_eq_true, and_self, and_true, List.nil_append, List.append_nil, List.cons_append, mtg, Zf.setL, setsE, few, blD_b, truD_b, truD_i, truD_l, truD_t, intL_i, intL_b, seqD_l, seqD_t, seqD_s, seqD_c, negD_i, DS.at, DS.put, DS.row, addD_i, subD_i, eqD_i, neD_i, ltD_i, leD_i, gtD_i, geD_i, eqD_s, neD_s, out_l, out_d, okS_s, okW_nil, okW_cons, okM_no, okM_im, okM_mf, okM_mt, okN_no, okN_im, okN_mu, wipeE, List.all_cons, List.all_nil, Bool.and_true, Bool.true_and, Bool.and_self, decide_true, decide_false, reduceIte, if_true, if_false, List.length_cons, List.length_nil, List.getElem?_cons_zero, List.getElem?_cons_succ, List.set_cons_zero, List.set_cons_succ, List.map_cons, List.map_nil, Bool.false_eq_true, Option.some.injEq, Bool.not_true, Bool.not_false, Nat.reduceAdd, Nat.reduceLT, Nat.reduceLeDiff, z_mpop0, intD_i, hb, q1]
    · unfold E75
      simp only [z_sseq, z_sset, z_sret, z_sif, z_snx, z_sbk, z_sct, z_sdrop, z_sasg, z_spar, z_sown, z_sfor, z_mop2, z_mc, z_mvar, z_MM_opt, z_MM_map, z_mcons, z_mnil, z_pnil, z_pcim, z_pcow, z_acim, z_acsl, z_anil, z_mif, z_mandB, z_morB, z_mnotB, z_mandV, z_morV, z_mnotV, z_mmeth, z_fmeth, z_fop2, z_mdr, z_mdrNe, z_mdrLen, z_mdrPop, z_sdr, z_mappend, z_mextend, z_mpopAt, z_mlenO, z_mnilO, z_msl, z_mcall, z_saug, z_mmethL, z_sdraws, z_mtrue, slots_nil, slots_im, slots_sl, argsE, updE, List.nodup_nil, List.nodup_cons, List.not_mem_nil, List.mem_singleton, not_false_eq_true, and_self, and_true, List.nil_append, List.append_nil, List.cons_append, mtg, Zf.setL, setsE, few, blD_b, truD_b, truD_i, truD_l, truD_t, intL_i, intL_b, seqD_l, seqD_t, seqD_s, seqD_c, negD_i, DS.at, DS.put, DS.row, addD_i, subD_i, eqD_i, neD_i, ltD_i, leD_i, gtD_i, geD_i, eqD_s, neD_s, out_l, out_d, okS_s, okW_nil, okW_cons, okM_no, okM_im, okM_mf, okM_mt, okN_no, okN_im, okN_mu, wipeE, List.all_cons, List.all_nil, Bool.and_true, Bool.true_and, Bool.and_self, decide_true, decide_false, reduceIte, if_true, if_false, List.length_cons, List.length_nil, List.getElem?_cons_zero, List.getElem?_cons_succ, List.set_cons_zero, List.set_cons_succ, List.map_cons, List.map_nil, Bool.false_eq_true, Option.some.injEq, Bool.not_true, Bool.not_false, Nat.reduceAdd, Nat.reduceLT, Nat.reduceLeDiff, z_mpop0, intD_i, e2, e3, e4, e5]
theorem tab_in (l : List Nat) : ninD (.str ("\t" : Str)) (.str (ml l)) = some (.bl (!decide (9 ∈ l))) := by
  have h := one_inD 9 (ml l)
  rw [ls_ml] at h
  have h2 : inD (.str ("\t" : Str)) (.str (ml l)) = some (.bl (decide (9 ∈ l))) := h
  unfold inD at h2
  unfold ninD
  cases z : inB (.str ("\t" : Str)) (.str (ml l)) with
  | none => rw [z] at h2; cases h2
  | some b =>
    rw [z] at h2
    cases h2
    rfl
theorem map_ml_inj : ∀ {a b : List (List Nat)}, a.map ml = b.map ml → a = b
  | [], [], _ => rfl
  | [], b :: bs, h => by cases h
  | a :: as, [], h => by cases h
  | a :: as, b :: bs, h => by
    rw [List.map_cons, List.map_cons, List.cons.injEq] at h
    rw [ml_inj.mp h.1, map_ml_inj h.2]
theorem turn_ok (ns : List Int) (s : DS) (c : Int) (t2 t3 t4 t5 t6 t7 t8 t9 : Sl) (h3 : okM t3 = true) (h4 : okM t4 = true) (h5 : okM t5 = true) (h6 : okM t6 = true) (h7 : okM t7 = true) (h8 : okM t8 = true) (h9 : okM t9 = true) (hs : DOk s c) (hc : c ≤ 600000) :
    ∃ s' u3 u4 u5 u6 u7 u8 u9, (okM u3 = true ∧ okM u4 = true ∧ okM u5 = true ∧ okM u6 = true ∧ okM u7 = true ∧ okM u8 = true ∧ okM u9 = true) ∧ DOk s' (c + 20) ∧ b_law_5 (E75 ns s t2 t3 t4 t5 t6 t7 t8 t9) = some (.nx (E75 ns s' t2 u3 u4 u5 u6 u7 u8 u9)) := by
  obtain ⟨h, s1, e1, hh1, hh2, hs1⟩ := head_ok s c hs (by omega)
  obtain ⟨n, s2, e2, n0, n1, hs2⟩ := take_ok s1 7 (c + 1) hs1 (by decide) (by decide) (by omega)
  have er := rng1_n n0 (by omega)
  obtain ⟨e', f1, s3, r, u4, u7, k4, k7, hs3, hr1, hr2, rfl⟩ := forL_inv (t := .one 4) (mb := b_law_1) (fun k e => ∃ s' r u4 u7, okM u4 = true ∧ okM u7 = true ∧ DOk s' (c + 2 + (k : Nat)) ∧ r.length = k ∧ (∀ l ∈ r, ML l ∧ 9 ∉ l) ∧ e = E75 ns s' t2 (.mu false (.ml (dl (h :: r)))) u4 t5 t6 u7 t8 t9) (rngD 0 n.toNat) 0 (E75 ns s2 t2 (.mu false (.ml (dl [h]))) t4 t5 t6 t7 t8 t9) ⟨s2, [], t4, t7, h4, h7, dok_le hs2 (by omega), rfl, (fun _ h => nomatch h), rfl⟩ (by
    intro i x e hi hp
    obtain ⟨s', r, u4, u7, k4, k7, hs', hr1, hr2, rfl⟩ := hp
    obtain ⟨rfl, hin⟩ := rng_at hi
    obtain ⟨l, s'', eb, g1, g2, g3⟩ := line_ok ns s' _ t2 (.im (.int (i : Int))) t5 t6 u7 t8 t9 (h :: r) k7 hs' (by omega) (by rw [List.length_cons]; omega)
    refine ⟨_, _, ?_, .inl eb, s'', r ++ [l], _, _, okM_im, okM_im, dok_le g3 (by omega), by rw [List.length_append, List.length_singleton, hr1], fun q hq => ?_, rfl⟩
    · unfold E75
      simp only [z_sseq, z_sset, z_sret, z_sif, z_snx, z_sbk, z_sct, z_sdrop, z_sasg, z_spar, z_sown, z_sfor, z_mop2, z_mc, z_mvar, z_MM_opt, z_MM_map, z_mcons, z_mnil, z_pnil, z_pcim, z_pcow, z_acim, z_acsl, z_anil, z_mif, z_mandB, z_morB, z_mnotB, z_mandV, z_morV, z_mnotV, z_mmeth, z_fmeth, z_fop2, z_mdr, z_mdrNe, z_mdrLen, z_mdrPop, z_sdr, z_mappend, z_mextend, z_mpopAt, z_mlenO, z_mnilO, z_msl, z_mcall, z_saug, z_mmethL, z_sdraws, z_mtrue, slots_nil, slots_im, slots_sl, argsE, updE, List.nodup_nil, List.nodup_cons, List.not_mem_nil, List.mem_singleton, not_false_eq_true, and_self, and_true, List.nil_append, List.append_nil, List.cons_append, mtg, Zf.setL, setsE, few, blD_b, truD_b, truD_i, truD_l, truD_t, intL_i, intL_b, seqD_l, seqD_t, seqD_s, seqD_c, negD_i, DS.at, DS.put, DS.row, addD_i, subD_i, eqD_i, neD_i, ltD_i, leD_i, gtD_i, geD_i, eqD_s, neD_s, out_l, out_d, okS_s, okW_nil, okW_cons, okM_no, okM_im, okM_mf, okM_mt, okN_no, okN_im, okN_mu, wipeE, List.all_cons, List.all_nil, Bool.and_true, Bool.true_and, Bool.and_self, decide_true, decide_false, reduceIte, if_true, if_false, List.length_cons, List.length_nil, List.getElem?_cons_zero, List.getElem?_cons_succ, List.set_cons_zero, List.set_cons_succ, List.map_cons, List.map_nil, Bool.false_eq_true, Option.some.injEq, Bool.not_true, Bool.not_false, Nat.reduceAdd, Nat.reduceLT, Nat.reduceLeDiff, z_mpop0, intD_i, k4]
    · rcases List.mem_append.mp hq with hq | hq
      · exact hr2 q hq
      · rw [List.mem_singleton.mp hq]; exact ⟨g1, g2⟩)
  rw [rng_len, Nat.zero_add] at hs3 hr1
  obtain ⟨ls, hls⟩ : ∃ ls, ls = h :: r := ⟨_, rfl⟩
  have hne : ls ≠ [] := by rw [hls]; simp
  have hn : ls.length ≤ 7 := by rw [hls, List.length_cons, hr1]; omega
  have hm : ∀ l ∈ ls, ML l := fun l hl => by
    rw [hls] at hl
    rcases List.mem_cons.mp hl with rfl | hl
    · exact hh1
    · exact (hr2 l hl).1
  rw [← hls] at f1
  -- both ends
  obtain ⟨e'', f2, u3, u5, u8, k3, k5, k8, rfl⟩ := forL_inv (t := .one 5) (mb := b_law_2) (fun k e => ∃ u3 u5 u8, (Fz u3 (dl ls) ∧ (k = 2 → u3 = .im (.lst (dl ls)))) ∧ okM u5 = true ∧ okM u8 = true ∧ e = E75 ns s3 t2 u3 u4 u5 t6 u7 u8 t9) [.str ("" : Str), .str ("\n" : Str)] 0 (E75 ns s3 t2 (.mu false (.ml (dl ls))) u4 t5 t6 u7 t8 t9) ⟨_, _, _, ⟨.inl rfl, fun q => nomatch q⟩, h5, h8, rfl⟩ (by
    intro i x e hi hp
    obtain ⟨u3, u5, u8, k3, k5, k8, rfl⟩ := hp
    have hx : ∃ z : Str, x = .str z ∧ (z = ("" : Str) ∨ z = ("\n" : Str)) := by
      have hx := List.mem_of_getElem? hi
      rcases List.mem_cons.mp hx with rfl | hx
      · exact ⟨_, rfl, .inl rfl⟩
      · rw [List.mem_singleton.mp hx]; exact ⟨_, rfl, .inr rfl⟩
    obtain ⟨z, rfl, hz⟩ := hx
    obtain ⟨v8, g8, eb⟩ := end_ok ns s3 t2 u3 u4 t6 u7 u8 t9 ls z hz k3.1 k8 hne hm hn
    refine ⟨_, _, ?_, .inl eb, _, _, v8, ⟨.inr rfl, fun _ => rfl⟩, okM_im, g8, rfl⟩
    unfold E75
    simp only [z_sseq, z_sset, z_sret, z_sif, z_snx, z_sbk, z_sct, z_sdrop, z_sasg, z_spar, z_sown, z_sfor, z_mop2, z_mc, z_mvar, z_MM_opt, z_MM_map, z_mcons, z_mnil, z_pnil, z_pcim, z_pcow, z_acim, z_acsl, z_anil, z_mif, z_mandB, z_morB, z_mnotB, z_mandV, z_morV, z_mnotV, z_mmeth, z_fmeth, z_fop2, z_mdr, z_mdrNe, z_mdrLen, z_mdrPop, z_sdr, z_mappend, z_mextend, z_mpopAt, z_mlenO, z_mnilO, z_msl, z_mcall, z_saug, z_mmethL, z_sdraws, z_mtrue, slots_nil, slots_im, slots_sl, argsE, updE, List.nodup_nil, List.nodup_cons, List.not_mem_nil, List.mem_singleton, not_false_eq_true, and_self, and_true, List.nil_append, List.append_nil, List.cons_append, mtg, Zf.setL, setsE, few, blD_b, truD_b, truD_i, truD_l, truD_t, intL_i, intL_b, seqD_l, seqD_t, seqD_s, seqD_c, negD_i, DS.at, DS.put, DS.row, addD_i, subD_i, eqD_i, neD_i, ltD_i, leD_i, gtD_i, geD_i, eqD_s, neD_s, out_l, out_d, okS_s, okW_nil, okW_cons, okM_no, okM_im, okM_mf, okM_mt, okN_no, okN_im, okN_mu, wipeE, List.all_cons, List.all_nil, Bool.and_true, Bool.true_and, Bool.and_self, decide_true, decide_false, reduceIte, if_true, if_false, List.length_cons, List.length_nil, List.getElem?_cons_zero, List.getElem?_cons_succ, List.set_cons_zero, List.set_cons_succ, List.map_cons, List.map_nil, Bool.false_eq_true, Option.some.injEq, Bool.not_true, Bool.not_false, Nat.reduceAdd, Nat.reduceLT, Nat.reduceLeDiff, z_mpop0, intD_i, k5])
  have hu3 : u3 = .im (.lst (dl ls)) := k3.2 rfl
  subst hu3
  -- what is expected
  have c1 : mlc (.one 10) [10] (MM.opt (mvar 3) seqD) (t_law_3) (mvar 10) (E75 ns s3 t2 (.im (.lst (dl ls))) u4 u5 t6 u7 u8 t9) = some (dl (ls.filter nb), E75 ns s3 t2 (.im (.lst (dl ls))) u4 u5 t6 u7 u8 t9) := by
    rw [mlc_fm' (ds := dl ls) (e1 := E75 ns s3 t2 (.im (.lst (dl ls))) u4 u5 t6 u7 u8 t9) (e2 := E75 ns s3 t2 (.im (.lst (dl ls))) u4 u5 t6 u7 u8 t9) (fun d => nb (stL d)) (fun d => d) (by unfold E75; simp only [z_sseq, z_sset, z_sret, z_sif, z_snx, z_sbk, z_sct, z_sdrop, z_sasg, z_spar, z_sown, z_sfor, z_mop2, z_mc, z_mvar, z_MM_opt, z_MM_map, z_mcons, z_mnil, z_pnil, z_pcim, z_pcow, z_acim, z_acsl, z_anil, z_mif, z_mandB, z_morB, z_mnotB, z_mandV, z_morV, z_mnotV, z_mmeth, z_fmeth, z_fop2, z_mdr, z_mdrNe, z_mdrLen, z_mdrPop, z_sdr, z_mappend, z_mextend, z_mpopAt, z_mlenO, z_mnilO, z_msl, z_mcall, z_saug, z_mmethL, z_sdraws, z_mtrue, slots_nil, slots_im, slots_sl, argsE, updE, List.nodup_nil, List.nodup_cons, List.not_mem_nil, List.mem_singleton, not_false_eq_true, and_self, and_true, List.nil_append, List.append_nil, List.cons_append, mtg, Zf.setL, setsE, few, blD_b, truD_b, truD_i, truD_l, truD_t, intL_i, intL_b, seqD_l, seqD_t, seqD_s, seqD_c, negD_i, DS.at, DS.put, DS.row, addD_i, subD_i, eqD_i, neD_i, ltD_i, leD_i, gtD_i, geD_i, eqD_s, neD_s, out_l, out_d, okS_s, okW_nil, okW_cons, okM_no, okM_im, okM_mf, okM_mt, okN_no, okN_im, okN_mu, wipeE, List.all_cons, List.all_nil, Bool.and_true, Bool.true_and, Bool.and_self, decide_true, decide_false, reduceIte, if_true, if_false, List.length_cons, List.length_nil, List.getElem?_cons_zero, List.getElem?_cons_succ, List.set_cons_zero, List.set_cons_succ, List.map_cons, List.map_nil, Bool.false_eq_true, Option.some.injEq, Bool.not_true, Bool.not_false, Nat.reduceAdd, Nat.reduceLT, Nat.reduceLeDiff, z_mpop0, intD_i, seqD]) (by rw [dl_len]; omega) rfl rfl rfl (fun d hd => by
      obtain ⟨l, hl, rfl⟩ := mem_dl hd
      refine ⟨?_, fun _ => rfl⟩
      have a1 : stripM Txt.stripChars (ml l) [.str (" " : Str)] = some (.str (Txt.stripChars (ml l) (" " : Str))) := by
        simp only [stripM]
        exact if_pos (by rw [ml_len]; have := (hm l hl).len; omega)
      have a2 : neD (.str (Txt.stripChars (ml l) (" " : Str))) (.str ("" : Str)) = some (.bl (nb l)) := by
        show some (D.bl (!decide (Txt.stripChars (ml l) (" " : Str) = ("" : Str)))) = _
        rw [(hm l hl).sp, Bool.not_not]
      rw [stL_ml]
      unfold t_law_3 E75
      simp only [z_sseq, z_sset, z_sret, z_sif, z_snx, z_sbk, z_sct, z_sdrop, z_sasg, z_spar, z_sown, z_sfor, z_mop2, z_mc, z_mvar, z_MM_opt, z_MM_map, z_mcons, z_mnil, z_pnil, z_pcim, z_pcow, z_acim, z_acsl, z_anil, z_mif, z_mandB, z_morB, z_mnotB, z_mandV, z_morV, z_mnotV, z_mmeth, z_fmeth, z_fop2, z_mdr, z_mdrNe, z_mdrLen, z_mdrPop, z_sdr, z_mappend, z_mextend, z_mpopAt, z_mlenO, z_mnilO, z_msl, z_mcall, z_saug, z_mmethL, z_sdraws, z_mtrue, slots_nil, slots_im, slots_sl, argsE, updE, List.nodup_nil, List.nodup_cons, List.not_mem_nil, List.mem_singleton, not_false_eq_true, and_self, and_true, List.nil_append, List.append_nil, List.cons_append, mtg, Zf.setL, setsE, few, blD_b, truD_b, truD_i, truD_l, truD_t, intL_i, intL_b, seqD_l, seqD_t, seqD_s, seqD_c, negD_i, DS.at, DS.put, DS.row, addD_i, subD_i, eqD_i, neD_i, ltD_i, leD_i, gtD_i, geD_i, eqD_s, neD_s, out_l, out_d, okS_s, okW_nil, okW_cons, okM_no, okM_im, okM_mf, okM_mt, okN_no, okN_im, okN_mu, wipeE, List.all_cons, List.all_nil, Bool.and_true, Bool.true_and, Bool.and_self, decide_true, decide_false, reduceIte, if_true, if_false, List.length_cons, List.length_nil, List.getElem?_cons_zero, List.getElem?_cons_succ, List.set_cons_zero, List.set_cons_succ, List.map_cons, List.map_nil, Bool.false_eq_true, Option.some.injEq, Bool.not_true, Bool.not_false, Nat.reduceAdd, Nat.reduceLT, Nat.reduceLeDiff, z_mpop0, intD_i, a1, a2]), List.map_id']
    congr 2
    unfold dl
    rw [List.filter_map]; rfl
  have okl : ∀ W : List (List Nat), (∀ l ∈ W, ML l) → OkS (W.map ml) := fun W hW q hq => by
    obtain ⟨l, hl, rfl⟩ := List.mem_map.mp hq
    exact (hW l hl).ok
  have q1 : eqD (.lst (dl (ls.filter nb))) (.lst (dl ls)) = some (.bl (decide ((ls.filter nb).map ml = ls.map ml))) := by
    rw [dl_strs, dl_strs]
    exact eqD_strs _ _ (okl _ fun l hl => hm l (List.mem_filter.mp hl).1) (okl _ hm)
  have x0 : ixD (.lst (dl ls)) (.int 0) = some (.str (ml h)) := ix_dl (ls := ls) (i := 0) (by rw [hls]; rfl)
  have x1 := sl_to h 1 (by have := hh1.len; omega)
  have x1 : slD (.str (ml h)) none (some 1) = some (.str (ml (h.take 1))) := x1
  have x2 : neD (.str (ml (h.take 1))) (.str (" " : Str)) = some (.bl (!decide (ml (h.take 1) = (" " : Str)))) := rfl
  have x3 := tab_in h
  obtain ⟨F6, hF6⟩ : ∃ F6, F6 = ls.filter nb := ⟨_, rfl⟩
  rw [← hF6] at c1 q1
  obtain ⟨b1, hb1⟩ : ∃ b, b = decide (F6.map ml = ls.map ml) := ⟨_, rfl⟩
  obtain ⟨b2, hb2⟩ : ∃ b, b = !decide (ml (h.take 1) = (" " : Str)) := ⟨_, rfl⟩
  obtain ⟨b3, hb3⟩ : ∃ b, b = !decide (9 ∈ h) := ⟨_, rfl⟩
  rw [← hb1] at q1
  rw [← hb2] at x2
  rw [← hb3] at x3
  have hT : mandB (MM.opt (mop2 eqD (mvar 6) (mvar 3)) blD) (mandB (MM.opt (mop2 neD (msl (mop2 ixD (mvar 3) (mc (.int 0))) (fun env => some (none, env)) (MM.opt (mc (.int 1)) intD)) (mc (.str " "))) blD) (MM.opt (mop2 ninD (mc (.str "\t")) (mop2 ixD (mvar 3) (mc (.int 0)))) blD)) (E75 ns s3 t2 (.im (.lst (dl ls))) u4 u5 (.im (.lst (dl F6))) u7 u8 t9) = some (b1 && (b2 && b3), E75 ns s3 t2 (.im (.lst (dl ls))) u4 u5 (.im (.lst (dl F6))) u7 u8 t9) := by
    unfold E75
    cases b1 <;> cases b2 <;> cases b3 <;> simp only [z_sseq, z_sset, z_sret, z_sif, z_snx, z_sbk, z_sct, z_sdrop, z_sasg, z_spar, z_sown, z_sfor, z_mop2, z_mc, z_mvar, z_MM_opt, z_MM_map, z_mcons, z_mnil, z_pnil, z_pcim, z_pcow, z_acim, z_acsl, z_anil, z_mif, z_mandB, z_morB, z_mnotB, z_mandV, z_morV, z_mnotV, z_mmeth, z_fmeth, z_fop2, z_mdr, z_mdrNe, z_mdrLen, z_mdrPop, z_sdr, z_mappend, z_mextend, z_mpopAt, z_mlenO, z_mnilO, z_msl, z_mcall, z_saug, z_mmethL, z_sdraws, z_mtrue, slots_nil, slots_im, slots_sl, argsE, updE, List.nodup_nil, List.nodup_cons, List.not_mem_nil, List.mem_singleton, not_false_eq_true, and_self, and_true, List.nil_append, List.append_nil, List.cons_append, mtg, Zf.setL, setsE, few, blD_b, truD_b, truD_i, truD_l, truD_t, intL_i, intL_b, seqD_l, seqD_t, seqD_s, seqD_c, negD_i, DS.at, DS.put, DS.row, addD_i, subD_i, eqD_i, neD_i, ltD_i, leD_i, gtD_i, geD_i, eqD_s, neD_s, out_l, out_d, okS_s, okW_nil, okW_cons, okM_no, okM_im, okM_mf, okM_mt, okN_no, okN_im, okN_mu, wipeE, List.all_cons, List.all_nil, Bool.and_true, Bool.true_and, Bool.and_self, decide_true, decide_false, reduceIte, if_true, if_false, List.length_cons, List.length_nil, List.getElem?_cons_zero, List.getElem?_cons_succ, List.set_cons_zero, List.set_cons_succ, List.map_cons, List.map_nil, Bool.false_eq_true, Option.some.injEq, Bool.not_true, Bool.not_false, Nat.reduceAdd, Nat.reduceLT, Nat.reduceLeDiff, z_mpop0, intD_i, q1, x0, x1, x2, x3, intD] <;> rfl
  have hs3' : DOk s3 (c + 20) := dok_le hs3 (by omega)
  have qf : few [.str ("" : Str), .str ("\n" : Str)] = some [.str ("" : Str), .str ("\n" : Str)] := rfl
  have qh : few [.str (ml h)] = some [.str (ml h)] := rfl
  have w1 : sown 3 (MM.opt (mcons (mcall F_law_head [] (acsl 1 (anil))) (mnil)) few) (E75 ns s t2 t3 t4 t5 t6 t7 t8 t9) = some (.nx (E75 ns s1 t2 (.mu false (.ml (dl [h]))) t4 t5 t6 t7 t8 t9)) := by
    unfold E75
    simp only [z_sseq, z_sset, z_sret, z_sif, z_snx, z_sbk, z_sct, z_sdrop, z_sasg, z_spar, z_sown, z_sfor, z_mop2, z_mc, z_mvar, z_MM_opt, z_MM_map, z_mcons, z_mnil, z_pnil, z_pcim, z_pcow, z_acim, z_acsl, z_anil, z_mif, z_mandB, z_morB, z_mnotB, z_mandV, z_morV, z_mnotV, z_mmeth, z_fmeth, z_fop2, z_mdr, z_mdrNe, z_mdrLen, z_mdrPop, z_sdr, z_mappend, z_mextend, z_mpopAt, z_mlenO, z_mnilO, z_msl, z_mcall, z_saug, z_mmethL, z_sdraws, z_mtrue, slots_nil, slots_im, slots_sl, argsE, updE, List.nodup_nil, List.nodup_cons, List.not_mem_nil, List.mem_singleton, not_false_eq_true, and_self, and_true, List.nil_append, List.append_nil, List.cons_append, mtg, Zf.setL, setsE, few, blD_b, truD_b, truD_i, truD_l, truD_t, intL_i, intL_b, seqD_l, seqD_t, seqD_s, seqD_c, negD_i, DS.at, DS.put, DS.row, addD_i, subD_i, eqD_i, neD_i, ltD_i, leD_i, gtD_i, geD_i, eqD_s, neD_s, out_l, out_d, okS_s, okW_nil, okW_cons, okM_no, okM_im, okM_mf, okM_mt, okN_no, okN_im, okN_mu, wipeE, List.all_cons, List.all_nil, Bool.and_true, Bool.true_and, Bool.and_self, decide_true, decide_false, reduceIte, if_true, if_false, List.length_cons, List.length_nil, List.getElem?_cons_zero, List.getElem?_cons_succ, List.set_cons_zero, List.set_cons_succ, List.map_cons, List.map_nil, Bool.false_eq_true, Option.some.injEq, Bool.not_true, Bool.not_false, Nat.reduceAdd, Nat.reduceLT, Nat.reduceLeDiff, z_mpop0, intD_i, e1, qh, h3]; rfl
  have w2 : sfor (.one 4) (MM.opt (mcons (mcall F_law_take [] (acsl 1 (acim (mc (.int 7)) (anil)))) (mnil)) rng1D) b_law_1 (E75 ns s1 t2 (.mu false (.ml (dl [h]))) t4 t5 t6 t7 t8 t9) = some (.nx (E75 ns s3 t2 (.mu false (.ml (dl ls))) u4 t5 t6 u7 t8 t9)) := by
    have : MM.opt (mcons (mcall F_law_take [] (acsl 1 (acim (mc (.int 7)) (anil)))) (mnil)) rng1D (E75 ns s1 t2 (.mu false (.ml (dl [h]))) t4 t5 t6 t7 t8 t9) = some (rngD 0 n.toNat, E75 ns s2 t2 (.mu false (.ml (dl [h]))) t4 t5 t6 t7 t8 t9) := by
      unfold E75
      simp only [z_sseq, z_sset, z_sret, z_sif, z_snx, z_sbk, z_sct, z_sdrop, z_sasg, z_spar, z_sown, z_sfor, z_mop2, z_mc, z_mvar, z_MM_opt, z_MM_map, z_mcons, z_mnil, z_pnil, z_pcim, z_pcow, z_acim, z_acsl, z_anil, z_mif, z_mandB, z_morB, z_mnotB, z_mandV, z_morV, z_mnotV, z_mmeth, z_fmeth, z_fop2, z_mdr, z_mdrNe, z_mdrLen, z_mdrPop, z_sdr, z_mappend, z_mextend, z_mpopAt, z_mlenO, z_mnilO, z_msl, z_mcall, z_saug, z_mmethL, z_sdraws, z_mtrue, slots_nil, slots_im, slots_sl, argsE, updE, List.nodup_nil, List.nodup_cons, List.not_mem_nil, List.mem_singleton, not_false_eq_true, and_self, and_true, List.nil_append, List.append_nil, List.cons_append, mtg, Zf.setL, setsE, few, blD_b, truD_b, truD_i, truD_l, truD_t, intL_i, intL_b, seqD_l, seqD_t, seqD_s, seqD_c, negD_i, DS.at, DS.put, DS.row, addD_i, subD_i, eqD_i, neD_i, ltD_i, leD_i, gtD_i, geD_i, eqD_s, neD_s, out_l, out_d, okS_s, okW_nil, okW_cons, okM_no, okM_im, okM_mf, okM_mt, okN_no, okN_im, okN_mu, wipeE, List.all_cons, List.all_nil, Bool.and_true, Bool.true_and, Bool.and_self, decide_true, decide_false, reduceIte, if_true, if_false, List.length_cons, List.length_nil, List.getElem?_cons_zero, List.getElem?_cons_succ, List.set_cons_zero, List.set_cons_succ, List.map_cons, List.map_nil, Bool.false_eq_true, Option.some.injEq, Bool.not_true, Bool.not_false, Nat.reduceAdd, Nat.reduceLT, Nat.reduceLeDiff, z_mpop0, intD_i, e2, er]
    rw [z_sfor, this]
    exact f1
  have w3 : sfor (.one 5) (MM.opt (MM.map (MM.opt (mcons (mc (.str "")) (mcons (mc (.str "\n")) (mnil))) few) .tup) seqD) b_law_2 (E75 ns s3 t2 (.mu false (.ml (dl ls))) u4 t5 t6 u7 t8 t9) = some (.nx (E75 ns s3 t2 (.im (.lst (dl ls))) u4 u5 t6 u7 u8 t9)) := by
    have : MM.opt (MM.map (MM.opt (mcons (mc (.str "")) (mcons (mc (.str "\n")) (mnil))) few) .tup) seqD (E75 ns s3 t2 (.mu false (.ml (dl ls))) u4 t5 t6 u7 t8 t9) = some ([.str ("" : Str), .str ("\n" : Str)], E75 ns s3 t2 (.mu false (.ml (dl ls))) u4 t5 t6 u7 t8 t9) := by
      simp only [z_sseq, z_sset, z_sret, z_sif, z_snx, z_sbk, z_sct, z_sdrop, z_sasg, z_spar, z_sown, z_sfor, z_mop2, z_mc, z_mvar, z_MM_opt, z_MM_map, z_mcons, z_mnil, z_pnil, z_pcim, z_pcow, z_acim, z_acsl, z_anil, z_mif, z_mandB, z_morB, z_mnotB, z_mandV, z_morV, z_mnotV, z_mmeth, z_fmeth, z_fop2, z_mdr, z_mdrNe, z_mdrLen, z_mdrPop, z_sdr, z_mappend, z_mextend, z_mpopAt, z_mlenO, z_mnilO, z_msl, z_mcall, z_saug, z_mmethL, z_sdraws, z_mtrue, slots_nil, slots_im, slots_sl, argsE, updE, List.nodup_nil, List.nodup_cons, List.not_mem_nil, List.mem_singleton, not_false_eq_true, and_self, and_true, List.nil_append, List.append_nil, List.cons_append, mtg, Zf.setL, setsE, few, blD_b, truD_b, truD_i, truD_l, truD_t, intL_i, intL_b, seqD_l, seqD_t, seqD_s, seqD_c, negD_i, DS.at, DS.put, DS.row, addD_i, subD_i, eqD_i, neD_i, ltD_i, leD_i, gtD_i, geD_i, eqD_s, neD_s, out_l, out_d, okS_s, okW_nil, okW_cons, okM_no, okM_im, okM_mf, okM_mt, okN_no, okN_im, okN_mu, wipeE, List.all_cons, List.all_nil, Bool.and_true, Bool.true_and, Bool.and_self, decide_true, decide_false, reduceIte, if_true, if_false, List.length_cons, List.length_nil, List.getElem?_cons_zero, List.getElem?_cons_succ, List.set_cons_zero, List.set_cons_succ, List.map_cons, List.map_nil, Bool.false_eq_true, Option.some.injEq, Bool.not_true, Bool.not_false, Nat.reduceAdd, Nat.reduceLT, Nat.reduceLeDiff, z_mpop0, intD_i, qf]
    rw [z_sfor, this]
    exact f2
  have w4 : sset 6 (MM.map (mlc (.one 10) [10] (MM.opt (mvar 3) seqD) (t_law_3) (mvar 10)) .lst) (E75 ns s3 t2 (.im (.lst (dl ls))) u4 u5 t6 u7 u8 t9) = some (.nx (E75 ns s3 t2 (.im (.lst (dl ls))) u4 u5 (.im (.lst (dl F6))) u7 u8 t9)) := by
    rw [z_sset, z_MM_map, c1]
    unfold E75
    simp only [z_sseq, z_sset, z_sret, z_sif, z_snx, z_sbk, z_sct, z_sdrop, z_sasg, z_spar, z_sown, z_sfor, z_mop2, z_mc, z_mvar, z_MM_opt, z_MM_map, z_mcons, z_mnil, z_pnil, z_pcim, z_pcow, z_acim, z_acsl, z_anil, z_mif, z_mandB, z_morB, z_mnotB, z_mandV, z_morV, z_mnotV, z_mmeth, z_fmeth, z_fop2, z_mdr, z_mdrNe, z_mdrLen, z_mdrPop, z_sdr, z_mappend, z_mextend, z_mpopAt, z_mlenO, z_mnilO, z_msl, z_mcall, z_saug, z_mmethL, z_sdraws, z_mtrue, slots_nil, slots_im, slots_sl, argsE, updE, List.nodup_nil, List.nodup_cons, List.not_mem_nil, List.mem_singleton, not_false_eq_true, and_self, and_true, List.nil_append, List.append_nil, List.cons_append, mtg, Zf.setL, setsE, few, blD_b, truD_b, truD_i, truD_l, truD_t, intL_i, intL_b, seqD_l, seqD_t, seqD_s, seqD_c, negD_i, DS.at, DS.put, DS.row, addD_i, subD_i, eqD_i, neD_i, ltD_i, leD_i, gtD_i, geD_i, eqD_s, neD_s, out_l, out_d, okS_s, okW_nil, okW_cons, okM_no, okM_im, okM_mf, okM_mt, okN_no, okN_im, okN_mu, wipeE, List.all_cons, List.all_nil, Bool.and_true, Bool.true_and, Bool.and_self, decide_true, decide_false, reduceIte, if_true, if_false, List.length_cons, List.length_nil, List.getElem?_cons_zero, List.getElem?_cons_succ, List.set_cons_zero, List.set_cons_succ, List.map_cons, List.map_nil, Bool.false_eq_true, Option.some.injEq, Bool.not_true, Bool.not_false, Nat.reduceAdd, Nat.reduceLT, Nat.reduceLeDiff, z_mpop0, intD_i, h6]
  cases hb : b1 && (b2 && b3) with
  | false =>
    rw [hb] at hT
    refine ⟨s3, .im (.lst (dl ls)), u4, u5, .im (.lst (dl F6)), u7, u8, t9, ⟨okM_im, k4, k5, okM_im, k7, k8, h9⟩, hs3', ?_⟩
    unfold b_law_5
    refine sseq_nx w1 (sseq_nx w2 (sseq_nx w3 (sseq_nx w4 ?_)))
    rw [sif_f hT, z_snx]
  | true =>
    rw [hb] at hT
    rw [Bool.and_eq_true, Bool.and_eq_true] at hb
    have hF : F6 = ls := map_ml_inj (of_decide_eq_true (hb1.symm.trans hb.1))
    have hall : ∀ l ∈ ls, nb l = true := fun l hl => by
      rw [← hF, hF6] at hl
      exact (List.mem_filter.mp hl).2
    have hh9 : 9 ∉ h := by
      have := hb3.symm.trans hb.2.2
      simpa using this
    have hl9 : ∀ l ∈ ls, 9 ∉ l := fun l hl => by
      rw [hls] at hl
      rcases List.mem_cons.mp hl with rfl | hl
      · exact hh9
      · exact (hr2 l hl).2
    obtain ⟨d, ee, ed⟩ := ex_ok ls hne hm hl9 hall (fun l hl => by rw [hls] at hl; cases hl; exact hh2) hn
    have hsum := sum50 hm
    have y1 := join_l ls (by omega)
    have hjl : (jn [10] ls).length ≤ 400 := by
      have := jn_nl hne
      have h2 := congrArg List.length this
      have h3 := wl_len ls
      rw [List.length_append, List.length_singleton] at h2
      omega
    have y2 : addD (.str (">>> x\n" : Str)) (.str (ml (jn [10] ls))) = some (.str (ml (jn [10] (pr :: ls)))) := by
      rw [addD_s (by rw [ml_len, show (">>> x\n" : Str).length = 6 from rfl]; omega), show (">>> x\n" : Str) = ml (pr ++ [10]) by decide, ml_app, jn_cons _ _ hne]
    have y3 := law_error_ok ls hne hm (by omega)
    have y4 := same_one (sn_errW ls)
    have qd : few [errW ls] = some [errW ls] := rfl
    have c2 : mlc (.one 11) [11] (MM.opt (mvar 9) seqD) (mtrue) (e_law_4) (E75 ns s3 t2 (.im (.lst (dl ls))) u4 u5 (.im (.lst (dl F6))) u7 u8 (.im (.lst [d]))) = some ([errW ls], E75 ns s3 t2 (.im (.lst (dl ls))) u4 u5 (.im (.lst (dl F6))) u7 u8 (.im (.lst [d]))) := by
      rw [mlc_m (ds := [d]) (fun _ => errW ls) (by unfold E75; simp only [z_sseq, z_sset, z_sret, z_sif, z_snx, z_sbk, z_sct, z_sdrop, z_sasg, z_spar, z_sown, z_sfor, z_mop2, z_mc, z_mvar, z_MM_opt, z_MM_map, z_mcons, z_mnil, z_pnil, z_pcim, z_pcow, z_acim, z_acsl, z_anil, z_mif, z_mandB, z_morB, z_mnotB, z_mandV, z_morV, z_mnotV, z_mmeth, z_fmeth, z_fop2, z_mdr, z_mdrNe, z_mdrLen, z_mdrPop, z_sdr, z_mappend, z_mextend, z_mpopAt, z_mlenO, z_mnilO, z_msl, z_mcall, z_saug, z_mmethL, z_sdraws, z_mtrue, slots_nil, slots_im, slots_sl, argsE, updE, List.nodup_nil, List.nodup_cons, List.not_mem_nil, List.mem_singleton, not_false_eq_true, and_self, and_true, List.nil_append, List.append_nil, List.cons_append, mtg, Zf.setL, setsE, few, blD_b, truD_b, truD_i, truD_l, truD_t, intL_i, intL_b, seqD_l, seqD_t, seqD_s, seqD_c, negD_i, DS.at, DS.put, DS.row, addD_i, subD_i, eqD_i, neD_i, ltD_i, leD_i, gtD_i, geD_i, eqD_s, neD_s, out_l, out_d, okS_s, okW_nil, okW_cons, okM_no, okM_im, okM_mf, okM_mt, okN_no, okN_im, okN_mu, wipeE, List.all_cons, List.all_nil, Bool.and_true, Bool.true_and, Bool.and_self, decide_true, decide_false, reduceIte, if_true, if_false, List.length_cons, List.length_nil, List.getElem?_cons_zero, List.getElem?_cons_succ, List.set_cons_zero, List.set_cons_succ, List.map_cons, List.map_nil, Bool.false_eq_true, Option.some.injEq, Bool.not_true, Bool.not_false, Nat.reduceAdd, Nat.reduceLT, Nat.reduceLeDiff, z_mpop0, intD_i, seqD]) (by simp) rfl (fun q hq => by
        rw [List.mem_singleton.mp hq]
        unfold e_law_4 E75
        simp only [z_sseq, z_sset, z_sret, z_sif, z_snx, z_sbk, z_sct, z_sdrop, z_sasg, z_spar, z_sown, z_sfor, z_mop2, z_mc, z_mvar, z_MM_opt, z_MM_map, z_mcons, z_mnil, z_pnil, z_pcim, z_pcow, z_acim, z_acsl, z_anil, z_mif, z_mandB, z_morB, z_mnotB, z_mandV, z_morV, z_mnotV, z_mmeth, z_fmeth, z_fop2, z_mdr, z_mdrNe, z_mdrLen, z_mdrPop, z_sdr, z_mappend, z_mextend, z_mpopAt, z_mlenO, z_mnilO, z_msl, z_mcall, z_saug, z_mmethL, z_sdraws, z_mtrue, slots_nil, slots_im, slots_sl, argsE, updE, List.nodup_nil, List.nodup_cons, List.not_mem_nil, List.mem_singleton, not_false_eq_true, and_self, and_true, List.nil_append, List.append_nil, List.cons_append, mtg, Zf.setL, setsE, few, blD_b, truD_b, truD_i, truD_l, truD_t, intL_i, intL_b, seqD_l, seqD_t, seqD_s, seqD_c, negD_i, DS.at, DS.put, DS.row, addD_i, subD_i, eqD_i, neD_i, ltD_i, leD_i, gtD_i, geD_i, eqD_s, neD_s, out_l, out_d, okS_s, okW_nil, okW_cons, okM_no, okM_im, okM_mf, okM_mt, okN_no, okN_im, okN_mu, wipeE, List.all_cons, List.all_nil, Bool.and_true, Bool.true_and, Bool.and_self, decide_true, decide_false, reduceIte, if_true, if_false, List.length_cons, List.length_nil, List.getElem?_cons_zero, List.getElem?_cons_succ, List.set_cons_zero, List.set_cons_succ, List.map_cons, List.map_nil, Bool.false_eq_true, Option.some.injEq, Bool.not_true, Bool.not_false, Nat.reduceAdd, Nat.reduceLT, Nat.reduceLeDiff, z_mpop0, intD_i, ed])]
      rfl
    refine ⟨s3, .im (.lst (dl ls)), u4, u5, .im (.lst (dl F6)), u7, u8, .im (.lst [d]), ⟨okM_im, k4, k5, okM_im, k7, k8, okM_im⟩, hs3', ?_⟩
    unfold b_law_5
    refine sseq_nx w1 (sseq_nx w2 (sseq_nx w3 (sseq_nx w4 ?_)))
    rw [sif_t hT]
    refine sseq_nx (e1 := E75 ns s3 t2 (.im (.lst (dl ls))) u4 u5 (.im (.lst (dl F6))) u7 u8 (.im (.lst [d]))) (by
      unfold E75
      simp only [z_sseq, z_sset, z_sret, z_sif, z_snx, z_sbk, z_sct, z_sdrop, z_sasg, z_spar, z_sown, z_sfor, z_mop2, z_mc, z_mvar, z_MM_opt, z_MM_map, z_mcons, z_mnil, z_pnil, z_pcim, z_pcow, z_acim, z_acsl, z_anil, z_mif, z_mandB, z_morB, z_mnotB, z_mandV, z_morV, z_mnotV, z_mmeth, z_fmeth, z_fop2, z_mdr, z_mdrNe, z_mdrLen, z_mdrPop, z_sdr, z_mappend, z_mextend, z_mpopAt, z_mlenO, z_mnilO, z_msl, z_mcall, z_saug, z_mmethL, z_sdraws, z_mtrue, slots_nil, slots_im, slots_sl, argsE, updE, List.nodup_nil, List.nodup_cons, List.not_mem_nil, List.mem_singleton, not_false_eq_true, and_self, and_true, List.nil_append, List.append_nil, List.cons_append, mtg, Zf.setL, setsE, few, blD_b, truD_b, truD_i, truD_l, truD_t, intL_i, intL_b, seqD_l, seqD_t, seqD_s, seqD_c, negD_i, DS.at, DS.put, DS.row, addD_i, subD_i, eqD_i, neD_i, ltD_i, leD_i, gtD_i, geD_i, eqD_s, neD_s, out_l, out_d, okS_s, okW_nil, okW_cons, okM_no, okM_im, okM_mf, okM_mt, okN_no, okN_im, okN_mu, wipeE, List.all_cons, List.all_nil, Bool.and_true, Bool.true_and, Bool.and_self, decide_true, decide_false, reduceIte, if_true, if_false, List.length_cons, List.length_nil, List.getElem?_cons_zero, List.getElem?_cons_succ, List.set_cons_zero, List.set_cons_succ, List.map_cons, List.map_nil, Bool.false_eq_true, Option.some.injEq, Bool.not_true, Bool.not_false, Nat.reduceAdd, Nat.reduceLT, Nat.reduceLeDiff, z_mpop0, intD_i, y1, y2, ee, h9]) ?_
    unfold E75 at c2 ⊢
    simp only [z_sseq, z_sset, z_sret, z_sif, z_snx, z_sbk, z_sct, z_sdrop, z_sasg, z_spar, z_sown, z_sfor, z_mop2, z_mc, z_mvar, z_MM_opt, z_MM_map, z_mcons, z_mnil, z_pnil, z_pcim, z_pcow, z_acim, z_acsl, z_anil, z_mif, z_mandB, z_morB, z_mnotB, z_mandV, z_morV, z_mnotV, z_mmeth, z_fmeth, z_fop2, z_mdr, z_mdrNe, z_mdrLen, z_mdrPop, z_sdr, z_mappend, z_mextend, z_mpopAt, z_mlenO, z_mnilO, z_msl, z_mcall, z_saug, z_mmethL, z_sdraws, z_mtrue, slots_nil, slots_im, slots_sl, argsE, updE, List.nodup_nil, List.nodup_cons, List.not_mem_nil, List.mem_singleton, not_false_eq_true, and_self, and_true, List.nil_append, List.append_nil, List.cons_append, mtg, Zf.setL, setsE, few, blD_b, truD_b, truD_i, truD_l, truD_t, intL_i, intL_b, seqD_l, seqD_t, seqD_s, seqD_c, negD_i, DS.at, DS.put, DS.row, addD_i, subD_i, eqD_i, neD_i, ltD_i, leD_i, gtD_i, geD_i, eqD_s, neD_s, out_l, out_d, okS_s, okW_nil, okW_cons, okM_no, okM_im, okM_mf, okM_mt, okN_no, okN_im, okN_mu, wipeE, List.all_cons, List.all_nil, Bool.and_true, Bool.true_and, Bool.and_self, decide_true, decide_false, reduceIte, if_true, if_false, List.length_cons, List.length_nil, List.getElem?_cons_zero, List.getElem?_cons_succ, List.set_cons_zero, List.set_cons_succ, List.map_cons, List.map_nil, Bool.false_eq_true, Option.some.injEq, Bool.not_true, Bool.not_false, Nat.reduceAdd, Nat.reduceLT, Nat.reduceLeDiff, z_mpop0, intD_i, c2, y3, qd, y4]
theorem law_true : ∀ ns : List Int, ns.length ≤ 63 → ∃ news, F_law [.im (.scr ns)] = some (.bl true, news) := fun ns hl => by
  have hd0 : DOk ⟨fA ns, 0, fB ns, 0⟩ 0 := ⟨Int.le_refl _, Int.le_refl _, Nat.le_trans (List.length_filter_le _ _) hl⟩
  obtain ⟨e', h1, ⟨s', u2, u3, u4, u5, u6, u7, u8, u9, -, -, -, rfl⟩⟩ := forL_inv (t := .one 2) (mb := b_law_5) (fun k e => ∃ s' u2 u3 u4 u5 u6 u7 u8 u9, okM u2 = true ∧ (okM u3 = true ∧ okM u4 = true ∧ okM u5 = true ∧ okM u6 = true ∧ okM u7 = true ∧ okM u8 = true ∧ okM u9 = true) ∧ DOk s' (20 * (k : Nat)) ∧ e = E75 ns s' u2 u3 u4 u5 u6 u7 u8 u9) (rngD 0 16) 0 (E75 ns ⟨fA ns, 0, fB ns, 0⟩ .no .no .no .no .no .no .no .no) ⟨_, _, _, _, _, _, _, _, _, rfl, ⟨rfl, rfl, rfl, rfl, rfl, rfl, rfl⟩, hd0, rfl⟩ (by
    intro i x e hi hp
    obtain ⟨s, u2, u3, u4, u5, u6, u7, u8, u9, h2, ⟨h3, h4, h5, h6, h7, h8, h9⟩, hs, rfl⟩ := hp
    obtain ⟨rfl, hin⟩ := rng_at hi
    obtain ⟨s', v3, v4, v5, v6, v7, v8, v9, g, hs', eb⟩ := turn_ok ns s _ (.im (.int i)) u3 u4 u5 u6 u7 u8 u9 h3 h4 h5 h6 h7 h8 h9 hs (by omega)
    refine ⟨_, _, ?_, .inl eb, s', _, _, _, _, _, _, _, _, okM_im, g, dok_le hs' (by omega), rfl⟩
    unfold E75
    simp only [z_sseq, z_sset, z_sret, z_sif, z_snx, z_sbk, z_sct, z_sdrop, z_sasg, z_spar, z_sown, z_sfor, z_mop2, z_mc, z_mvar, z_MM_opt, z_MM_map, z_mcons, z_mnil, z_pnil, z_pcim, z_pcow, z_acim, z_acsl, z_anil, z_mif, z_mandB, z_morB, z_mnotB, z_mandV, z_morV, z_mnotV, z_mmeth, z_fmeth, z_fop2, z_mdr, z_mdrNe, z_mdrLen, z_mdrPop, z_sdr, z_mappend, z_mextend, z_mpopAt, z_mlenO, z_mnilO, z_msl, z_mcall, z_saug, z_mmethL, z_sdraws, z_mtrue, slots_nil, slots_im, slots_sl, argsE, updE, List.nodup_nil, List.nodup_cons, List.not_mem_nil, List.mem_singleton, not_false_eq_true, and_self, and_true, List.nil_append, List.append_nil, List.cons_append, mtg, Zf.setL, setsE, few, blD_b, truD_b, truD_i, truD_l, truD_t, intL_i, intL_b, seqD_l, seqD_t, seqD_s, seqD_c, negD_i, DS.at, DS.put, DS.row, addD_i, subD_i, eqD_i, neD_i, ltD_i, leD_i, gtD_i, geD_i, eqD_s, neD_s, out_l, out_d, okS_s, okW_nil, okW_cons, okM_no, okM_im, okM_mf, okM_mt, okN_no, okN_im, okN_mu, wipeE, List.all_cons, List.all_nil, Bool.and_true, Bool.true_and, Bool.and_self, decide_true, decide_false, reduceIte, if_true, if_false, List.length_cons, List.length_nil, List.getElem?_cons_zero, List.getElem?_cons_succ, List.set_cons_zero, List.set_cons_succ, List.map_cons, List.map_nil, Bool.false_eq_true, Option.some.injEq, Bool.not_true, Bool.not_false, Nat.reduceAdd, Nat.reduceLT, Nat.reduceLeDiff, z_mpop0, intD_i, h2])
  have e0 := error_ok [] (by simp)
  have hz : errD (sp 10 []) = .non := by
    unfold errD
    rw [show sp 10 [] = [[]] from rfl, show errL [[]] = none by decide]
  rw [hz] at e0
  have e0 : F_error_of [.im (.str ("" : Str))] = some (.non, [.im (.str ("" : Str))]) := e0
  have n1 : isN .non = some (.bl true) := rfl
  have rg : rng1D [.int 16] = some (rngD 0 16) := rng1_n (n := 16) (by decide) (by decide)
  have body : m_law [.im (.scr ns), .no, .no, .no, .no, .no, .no, .no, .no, .no, .no, .no] = some (.rt (.bl true) (E75 ns s' u2 u3 u4 u5 u6 u7 u8 u9)) := by
    unfold m_law
    refine sseq_nx (e1 := E75 ns ⟨fA ns, 0, fB ns, 0⟩ .no .no .no .no .no .no .no .no) (by unfold E75; simp only [z_sseq, z_sset, z_sret, z_sif, z_snx, z_sbk, z_sct, z_sdrop, z_sasg, z_spar, z_sown, z_sfor, z_mop2, z_mc, z_mvar, z_MM_opt, z_MM_map, z_mcons, z_mnil, z_pnil, z_pcim, z_pcow, z_acim, z_acsl, z_anil, z_mif, z_mandB, z_morB, z_mnotB, z_mandV, z_morV, z_mnotV, z_mmeth, z_fmeth, z_fop2, z_mdr, z_mdrNe, z_mdrLen, z_mdrPop, z_sdr, z_mappend, z_mextend, z_mpopAt, z_mlenO, z_mnilO, z_msl, z_mcall, z_saug, z_mmethL, z_sdraws, z_mtrue, slots_nil, slots_im, slots_sl, argsE, updE, List.nodup_nil, List.nodup_cons, List.not_mem_nil, List.mem_singleton, not_false_eq_true, and_self, and_true, List.nil_append, List.append_nil, List.cons_append, mtg, Zf.setL, setsE, few, blD_b, truD_b, truD_i, truD_l, truD_t, intL_i, intL_b, seqD_l, seqD_t, seqD_s, seqD_c, negD_i, DS.at, DS.put, DS.row, addD_i, subD_i, eqD_i, neD_i, ltD_i, leD_i, gtD_i, geD_i, eqD_s, neD_s, out_l, out_d, okS_s, okW_nil, okW_cons, okM_no, okM_im, okM_mf, okM_mt, okN_no, okN_im, okN_mu, wipeE, List.all_cons, List.all_nil, Bool.and_true, Bool.true_and, Bool.and_self, decide_true, decide_false, reduceIte, if_true, if_false, List.length_cons, List.length_nil, List.getElem?_cons_zero, List.getElem?_cons_succ, List.set_cons_zero, List.set_cons_succ, List.map_cons, List.map_nil, Bool.false_eq_true, Option.some.injEq, Bool.not_true, Bool.not_false, Nat.reduceAdd, Nat.reduceLT, Nat.reduceLeDiff, z_mpop0, intD_i, hl]) ?_
    refine sseq_nx (e1 := E75 ns s' u2 u3 u4 u5 u6 u7 u8 u9) (by
      rw [z_sfor]
      have : MM.opt (mcons (mc (.int 16)) (mnil)) rng1D (E75 ns ⟨fA ns, 0, fB ns, 0⟩ .no .no .no .no .no .no .no .no) = some (rngD 0 16, E75 ns ⟨fA ns, 0, fB ns, 0⟩ .no .no .no .no .no .no .no .no) := by
        simp only [z_sseq, z_sset, z_sret, z_sif, z_snx, z_sbk, z_sct, z_sdrop, z_sasg, z_spar, z_sown, z_sfor, z_mop2, z_mc, z_mvar, z_MM_opt, z_MM_map, z_mcons, z_mnil, z_pnil, z_pcim, z_pcow, z_acim, z_acsl, z_anil, z_mif, z_mandB, z_morB, z_mnotB, z_mandV, z_morV, z_mnotV, z_mmeth, z_fmeth, z_fop2, z_mdr, z_mdrNe, z_mdrLen, z_mdrPop, z_sdr, z_mappend, z_mextend, z_mpopAt, z_mlenO, z_mnilO, z_msl, z_mcall, z_saug, z_mmethL, z_sdraws, z_mtrue, slots_nil, slots_im, slots_sl, argsE, updE, List.nodup_nil, List.nodup_cons, List.not_mem_nil, List.mem_singleton, not_false_eq_true, and_self, and_true, List.nil_append, List.append_nil, List.cons_append, mtg, Zf.setL, setsE, few, blD_b, truD_b, truD_i, truD_l, truD_t, intL_i, intL_b, seqD_l, seqD_t, seqD_s, seqD_c, negD_i, DS.at, DS.put, DS.row, addD_i, subD_i, eqD_i, neD_i, ltD_i, leD_i, gtD_i, geD_i, eqD_s, neD_s, out_l, out_d, okS_s, okW_nil, okW_cons, okM_no, okM_im, okM_mf, okM_mt, okN_no, okN_im, okN_mu, wipeE, List.all_cons, List.all_nil, Bool.and_true, Bool.true_and, Bool.and_self, decide_true, decide_false, reduceIte, if_true, if_false, List.length_cons, List.length_nil, List.getElem?_cons_zero, List.getElem?_cons_succ, List.set_cons_zero, List.set_cons_succ, List.map_cons, List.map_nil, Bool.false_eq_true, Option.some.injEq, Bool.not_true, Bool.not_false, Nat.reduceAdd, Nat.reduceLT, Nat.reduceLeDiff, z_mpop0, intD_i, rg]
      rw [this]
      exact h1) ?_
    unfold E75
    simp only [z_sseq, z_sset, z_sret, z_sif, z_snx, z_sbk, z_sct, z_sdrop, z_sasg, z_spar, z_sown, z_sfor, z_mop2, z_mc, z_mvar, z_MM_opt, z_MM_map, z_mcons, z_mnil, z_pnil, z_pcim, z_pcow, z_acim, z_acsl, z_anil, z_mif, z_mandB, z_morB, z_mnotB, z_mandV, z_morV, z_mnotV, z_mmeth, z_fmeth, z_fop2, z_mdr, z_mdrNe, z_mdrLen, z_mdrPop, z_sdr, z_mappend, z_mextend, z_mpopAt, z_mlenO, z_mnilO, z_msl, z_mcall, z_saug, z_mmethL, z_sdraws, z_mtrue, slots_nil, slots_im, slots_sl, argsE, updE, List.nodup_nil, List.nodup_cons, List.not_mem_nil, List.mem_singleton, not_false_eq_true, and_self, and_true, List.nil_append, List.append_nil, List.cons_append, mtg, Zf.setL, setsE, few, blD_b, truD_b, truD_i, truD_l, truD_t, intL_i, intL_b, seqD_l, seqD_t, seqD_s, seqD_c, negD_i, DS.at, DS.put, DS.row, addD_i, subD_i, eqD_i, neD_i, ltD_i, leD_i, gtD_i, geD_i, eqD_s, neD_s, out_l, out_d, okS_s, okW_nil, okW_cons, okM_no, okM_im, okM_mf, okM_mt, okN_no, okN_im, okN_mu, wipeE, List.all_cons, List.all_nil, Bool.and_true, Bool.true_and, Bool.and_self, decide_true, decide_false, reduceIte, if_true, if_false, List.length_cons, List.length_nil, List.getElem?_cons_zero, List.getElem?_cons_succ, List.set_cons_zero, List.set_cons_succ, List.map_cons, List.map_nil, Bool.false_eq_true, Option.some.injEq, Bool.not_true, Bool.not_false, Nat.reduceAdd, Nat.reduceLT, Nat.reduceLeDiff, z_mpop0, intD_i, e0, n1]
  exact ⟨_, fnM_rt (n := 12) (args := [.im (.scr ns)]) (m := m_law) body⟩
end Zz

set_option Elab.async false
set_option linter.all false
set_option maxRecDepth 100000
set_option maxHeartbeats 0
namespace Zz
open PySem PySem.Spec L2 Zf
def top (i : Nat) : Stmt := PySem.Challenge.pw_promptyard_k75_error_texts.main.body.getD i (.Pass ⟨0, 0, 0, 0⟩)
abbrev s0 : Stmt := top 1
def d0 : He.DefD := ⟨("frozen", none), "frozen", "frozen", defArgs s0, defBody s0, defScope s0, [], []⟩
abbrev s1 : Stmt := inClass (top 3) 0
def d1 : He.DefD := ⟨("BadFlag", some "__init__"), "__init__", "BadFlag.__init__", defArgs s1, defBody s1, defScope s1, [], []⟩
abbrev s2 : Stmt := inClass (top 4) 0
def d2 : He.DefD := ⟨("BadText", some "__init__"), "__init__", "BadText.__init__", defArgs s2, defBody s2, defScope s2, [], []⟩
abbrev s3 : Stmt := top 23
def d3 : He.DefD := ⟨("widened", none), "widened", "widened", defArgs s3, defBody s3, defScope s3, [], []⟩
abbrev s4 : Stmt := top 24
def d4 : He.DefD := ⟨("indent_of", none), "indent_of", "indent_of", defArgs s4, defBody s4, defScope s4, [], []⟩
abbrev s5 : Stmt := top 25
def d5 : He.DefD := ⟨("is_blank", none), "is_blank", "is_blank", defArgs s5, defBody s5, defScope s5, [], []⟩
abbrev s6 : Stmt := top 26
def d6 : He.DefD := ⟨("levelled", none), "levelled", "levelled", defArgs s6, defBody s6, defScope s6, [], []⟩
abbrev s7 : Stmt := top 27
def d7 : He.DefD := ⟨("directive_place", none), "directive_place", "directive_place", defArgs s7, defBody s7, defScope s7, [], []⟩
abbrev s8 : Stmt := top 28
def d8 : He.DefD := ⟨("option_words", none), "option_words", "option_words", defArgs s8, defBody s8, defScope s8, [], []⟩
abbrev s9 : Stmt := top 29
def d9 : He.DefD := ⟨("is_option_word", none), "is_option_word", "is_option_word", defArgs s9, defBody s9, defScope s9, [], []⟩
abbrev s10 : Stmt := top 30
def d10 : He.DefD := ⟨("bare_source", none), "bare_source", "bare_source", defArgs s10, defBody s10, defScope s10, [], []⟩
abbrev s11 : Stmt := top 31
def d11 : He.DefD := ⟨("error_of", none), "error_of", "error_of", defArgs s11, defBody s11, defScope s11, [], []⟩
abbrev s12 : Stmt := top 32
def d12 : He.DefD := ⟨("with_line_feed", none), "with_line_feed", "with_line_feed", defArgs s12, defBody s12, defScope s12, [], []⟩
abbrev s13 : Stmt := inClass (top 33) 0
def d13 : He.DefD := ⟨("Example", some "__init__"), "__init__", "Example.__init__", defArgs s13, defBody s13, defScope s13, [.str ""], [("error", .non), ("line", .int 1), ("indent", .int 0), ("options", .non)]⟩
abbrev s14 : Stmt := inClass (top 33) 1
def d14 : He.DefD := ⟨("Example", some "parts"), "parts", "Example.parts", defArgs s14, defBody s14, defScope s14, [], []⟩
abbrev s15 : Stmt := inClass (top 33) 2
def d15 : He.DefD := ⟨("Example", some "__eq__"), "__eq__", "Example.__eq__", defArgs s15, defBody s15, defScope s15, [], []⟩
abbrev s16 : Stmt := inClass (top 34) 0
def d16 : He.DefD := ⟨("Comment", some "__init__"), "__init__", "Comment.__init__", defArgs s16, defBody s16, defScope s16, [.str ""], [("line", .int 1), ("indent", .int 0)]⟩
abbrev s17 : Stmt := inClass (top 34) 1
def d17 : He.DefD := ⟨("Comment", some "parts"), "parts", "Comment.parts", defArgs s17, defBody s17, defScope s17, [], []⟩
abbrev s18 : Stmt := inClass (top 34) 2
def d18 : He.DefD := ⟨("Comment", some "__eq__"), "__eq__", "Comment.__eq__", defArgs s18, defBody s18, defScope s18, [], []⟩
abbrev s19 : Stmt := top 35
def d19 : He.DefD := ⟨("is_prompt", none), "is_prompt", "is_prompt", defArgs s19, defBody s19, defScope s19, [], []⟩
abbrev s20 : Stmt := top 36
def d20 : He.DefD := ⟨("check_lines", none), "check_lines", "check_lines", defArgs s20, defBody s20, defScope s20, [], []⟩
abbrev s21 : Stmt := top 37
def d21 : He.DefD := ⟨("options_of", none), "options_of", "options_of", defArgs s21, defBody s21, defScope s21, [], []⟩
abbrev s22 : Stmt := top 38
def d22 : He.DefD := ⟨("piece_of", none), "piece_of", "piece_of", defArgs s22, defBody s22, defScope s22, [], []⟩
abbrev s23 : Stmt := top 39
def d23 : He.DefD := ⟨("rows_of", none), "rows_of", "rows_of", defArgs s23, defBody s23, defScope s23, [], []⟩
abbrev s24 : Stmt := top 40
def d24 : He.DefD := ⟨("parsed", none), "parsed", "parsed", defArgs s24, defBody s24, defScope s24, [], []⟩
abbrev s25 : Stmt := top 41
def d25 : He.DefD := ⟨("examples_of", none), "examples_of", "examples_of", defArgs s25, defBody s25, defScope s25, [], []⟩
abbrev s26 : Stmt := top 43
def d26 : He.DefD := ⟨("_law_draws", none), "_law_draws", "_law_draws", defArgs s26, defBody s26, defScope s26, [], []⟩
abbrev s27 : Stmt := top 44
def d27 : He.DefD := ⟨("_law_mixed", none), "_law_mixed", "_law_mixed", defArgs s27, defBody s27, defScope s27, [], []⟩
abbrev s28 : Stmt := top 45
def d28 : He.DefD := ⟨("_law_take", none), "_law_take", "_law_take", defArgs s28, defBody s28, defScope s28, [], []⟩
abbrev s29 : Stmt := top 46
def d29 : He.DefD := ⟨("_law_same", none), "_law_same", "_law_same", defArgs s29, defBody s29, defScope s29, [], []⟩
abbrev s30 : Stmt := top 47
def d30 : He.DefD := ⟨("_law_pick", none), "_law_pick", "_law_pick", defArgs s30, defBody s30, defScope s30, [], []⟩
abbrev s31 : Stmt := top 48
def d31 : He.DefD := ⟨("_law_error", none), "_law_error", "_law_error", defArgs s31, defBody s31, defScope s31, [], []⟩
abbrev s32 : Stmt := top 49
def d32 : He.DefD := ⟨("_law_head", none), "_law_head", "_law_head", defArgs s32, defBody s32, defScope s32, [], []⟩
abbrev s33 : Stmt := top 50
def d33 : He.DefD := ⟨("law", none), "law", "law", defArgs s33, defBody s33, defScope s33, [], []⟩
def fn : List He.DefD := [d0, d1, d2, d3, d4, d5, d6, d7, d8, d9, d10, d11, d12, d13, d14, d15, d16, d17, d18, d19, d20, d21, d22, d23, d24, d25, d26, d27, d28, d29, d30, d31, d32, d33]
def fa : List He.Fa := [.free "isinstance", .free "dict", .free "list", .free "tuple", .glo "frozen", .int "TAB" 8, .free "len", .glo "widened", .glo "indent_of", .str "BLANKS" " \t", .glo "is_blank", .free "min", .glo "levelled", .free "enumerate", .str "DIRECTIVE" "doctest:", .glo "directive_place", .glo "option_words", .free "str", .glo "FLAGS", .glo "is_option_word", .glo "bare_source", .glo "HEADS", .free "range", .str "WORD_SIGNS" "abcdefghijklmnopqrstuvwxyzABCDEFGHIJKLMNOPQRSTUVWXYZ0123456789_", .glo "error_of", .glo "with_line_feed", .cls "Example", .noat "Example" "source", .noat "Example" "want", .noat "Example" "error", .noat "Example" "line", .noat "Example" "indent", .noat "Example" "options", .noat "Example" "bare", .cls "Comment", .noat "Comment" "indent", .noat "Comment" "line", .noat "Comment" "want", .noat "Comment" "source", .glo "Example", .glo "Comment", .str "PROMPT" ">>>", .glo "is_prompt", .glo "check_lines", .glo "options_of", .free "all", .mkr "Example", .mkr "Comment", .glo "piece_of", .glo "rows_of", .str "MORE" "...", .glo "parsed", .glo "examples_of", .glo "_law_draws", .glo "_law_mixed", .glo "_law_take", .free "zip", .free "bool", .free "int", .glo "_law_same", .glo "_law_pick", .glo "_law_error", .glo "_law_head", .glo "law"]
def ts : List He.Tab := []
def cl (K : PySem.W.Frag) : Nat → Addr
  | 0 => He.ga K "Example"
  | 1 => He.ga K "Comment"
  | _ => 0
def exL (K : PySem.W.Frag) : List Bool := [He.tupB K "FLAGS" [.str "DONT_ACCEPT_TRUE_FOR_1", .str "DONT_ACCEPT_BLANKLINE", .str "NORMALIZE_WHITESPACE", .str "ELLIPSIS", .str "SKIP", .str "IGNORE_EXCEPTION_DETAIL", .str "REPORT_ONLY_FIRST_FAILURE", .str "FAIL_FAST"], He.tupB K "HEADS" [.str "Traceback (most recent call last):", .str "Traceback (innermost last):"], isiB K (cl K) 0 [0, 1], isiB K (cl K) 1 [0, 1], eqcB K (cl K 1) (He.fAd K ("Comment", some "__eq__")), eqcB K (cl K 0) (He.fAd K ("Example", some "__eq__"))]
def exK (K : PySem.W.Frag) : Bool := (exL K).all id
def loose0 : List PySem.Str := ["__name__", "frozen", "PromptError", "BadFlag", "BadText", "TRUE_FOR_1", "BLANK_LINE", "WHITE_SPACE", "ELLIPSIS", "SKIP", "NO_DETAIL", "FIRST_ONLY", "FAIL_FAST", "COMPARING", "FLAGS", "PROMPT", "MORE", "BLANKS", "TAB", "DIRECTIVE", "HEADS", "WORD_SIGNS", "widened", "indent_of", "is_blank", "levelled", "directive_place", "option_words", "is_option_word", "bare_source"]
def loose1 : List PySem.Str := ["error_of", "with_line_feed", "Example", "Comment", "is_prompt", "check_lines", "options_of", "piece_of", "rows_of", "parsed", "examples_of", "_law_draws", "_law_mixed", "_law_take", "_law_same", "_law_pick", "_law_error", "_law_head"]
def loose : List PySem.Str := loose0 ++ loose1
section
variable {P : Program} {w : World} {K : PySem.W.Frag} {base : Heap}
theorem f_frozen_r0 {h : Heap} {mg : Str → Option Value} (KX : K.In h) (G : h.Ns mainGlobals mg) (c : He.SaysX fa fn ts [] exK w h K) : ∃ fd : FuncData, FunD K "frozen" "frozen" (defArgs s0) (defBody s0) (defScope s0) ([]) ([]) (He.fAd K ("frozen", none)) fd ∧ FnOk P w K mg base CX0 2 (He.fAd K ("frozen", none)) fd ["thing"] (spM K (cl K) 1 F_frozen_r0) := by
  obtain ⟨fd, F⟩ := c.t.d.def_ 0 (d := d0) rfl
  have F : FunD K "frozen" "frozen" (defArgs s0) (defBody s0) (defScope s0) ([]) ([]) (He.fAd K ("frozen", none)) fd := F
  have nd : (["thing", "key", "part"] : List Str).Nodup := by decide +kernel
  have sc : FnScope ["thing", "key", "part"] ["thing"] (defScope s0) := ⟨rfl, rfl, rfl, nd, rfl, by decide +kernel, by decide +kernel⟩
  refine ⟨fd, F, fn_ok (cl := cl K) (n := 1) (nN := 3) (sm := m_frozen_r0) F sc (by decide) rfl rfl (fun cdv A outer s H E hr =>
    ess_cons (es_if (eb_tru (em_isi "dict" (He.free_ok KX G (c.t.d.fact 0 (f := .free "isinstance") rfl)) (He.free_ok KX G (c.t.d.fact 1 (f := .free "dict") rfl)) (em_var 0))) (ess_one (es_ret (em_bad))) (ess_nil)) <|
    ess_one (es_ret (em_if (eb_tru (em_isiT "list" "tuple" (He.free_ok KX G (c.t.d.fact 0 (f := .free "isinstance") rfl)) (He.free_ok KX G (c.t.d.fact 2 (f := .free "list") rfl)) (He.free_ok KX G (c.t.d.fact 3 (f := .free "tuple") rfl)) (em_var 0))) (em_callTy call_tuple_of ok_tuple (He.free_ok KX G (c.t.d.fact 3 (f := .free "tuple") rfl)) (by decide +kernel) (ea_cons (em_ef (ef_lc (own := [("part", 2)]) nd (ei_any (em_var 0)) (by kernel_rfl) (fun _ _ _ _ _ => (pg_name (i := 2) nd rfl (by first | exact Or.inl rfl | exact Or.inr rfl))) (fun _ _ _ _ _ => ets_nil) (fun _ _ _ _ _ => em_bad))) (ea_nil))) (em_var 0))))⟩
theorem c_frozen_r0 {h : Heap} {mg : Str → Option Value} (KX : K.In h) (G : h.Ns mainGlobals mg) (c : He.SaysX fa fn ts [] exK w h K) : Cal P w K mg base (cl K) "frozen" 2 1 [] F_frozen_r0 := by
  obtain ⟨fd, F, h⟩ := f_frozen_r0 (P := P) (base := base) KX G c
  exact ⟨_, fd, _, [], [], h, He.glo_ok KX G (c.t.d.fact 4 (f := .glo "frozen") rfl), F.kp, F.bindsN (fun _ _ _ _ _ _ us hl => match us, hl with | [_], _ => rfl), .nil, fun _ => .nil⟩
theorem f_frozen_r1 {h : Heap} {mg : Str → Option Value} (KX : K.In h) (G : h.Ns mainGlobals mg) (c : He.SaysX fa fn ts [] exK w h K) : ∃ fd : FuncData, FunD K "frozen" "frozen" (defArgs s0) (defBody s0) (defScope s0) ([]) ([]) (He.fAd K ("frozen", none)) fd ∧ FnOk P w K mg base CX0 4 (He.fAd K ("frozen", none)) fd ["thing"] (spM K (cl K) 1 F_frozen_r1) := by
  obtain ⟨fd, F⟩ := c.t.d.def_ 0 (d := d0) rfl
  have F : FunD K "frozen" "frozen" (defArgs s0) (defBody s0) (defScope s0) ([]) ([]) (He.fAd K ("frozen", none)) fd := F
  have nd : (["thing", "key", "part"] : List Str).Nodup := by decide +kernel
  have sc : FnScope ["thing", "key", "part"] ["thing"] (defScope s0) := ⟨rfl, rfl, rfl, nd, rfl, by decide +kernel, by decide +kernel⟩
  refine ⟨fd, F, fn_ok (cl := cl K) (n := 1) (nN := 3) (sm := m_frozen_r1) F sc (by decide) rfl rfl (fun cdv A outer s H E hr =>
    ess_cons (es_if (eb_tru (em_isi "dict" (He.free_ok KX G (c.t.d.fact 0 (f := .free "isinstance") rfl)) (He.free_ok KX G (c.t.d.fact 1 (f := .free "dict") rfl)) (em_var 0))) (ess_one (es_ret (em_bad))) (ess_nil)) <|
    ess_one (es_ret (em_if (eb_tru (em_isiT "list" "tuple" (He.free_ok KX G (c.t.d.fact 0 (f := .free "isinstance") rfl)) (He.free_ok KX G (c.t.d.fact 2 (f := .free "list") rfl)) (He.free_ok KX G (c.t.d.fact 3 (f := .free "tuple") rfl)) (em_var 0))) (em_callTy call_tuple_of ok_tuple (He.free_ok KX G (c.t.d.fact 3 (f := .free "tuple") rfl)) (by decide +kernel) (ea_cons (em_ef (ef_lc (own := [("part", 2)]) nd (ei_any (em_var 0)) (by kernel_rfl) (fun _ _ _ _ _ => (pg_name (i := 2) nd rfl (by first | exact Or.inl rfl | exact Or.inr rfl))) (fun _ _ _ _ _ => ets_nil) (fun _ _ _ _ _ => em_call (c_frozen_r0 KX G c) (hr.mono (by decide)) (er_im (em_var 2) (er_nil)) len_frozen_r0 (an_ok (an_im an_nil') rfl)))) (ea_nil))) (em_var 0))))⟩
theorem c_frozen_r1 {h : Heap} {mg : Str → Option Value} (KX : K.In h) (G : h.Ns mainGlobals mg) (c : He.SaysX fa fn ts [] exK w h K) : Cal P w K mg base (cl K) "frozen" 4 1 [] F_frozen_r1 := by
  obtain ⟨fd, F, h⟩ := f_frozen_r1 (P := P) (base := base) KX G c
  exact ⟨_, fd, _, [], [], h, He.glo_ok KX G (c.t.d.fact 4 (f := .glo "frozen") rfl), F.kp, F.bindsN (fun _ _ _ _ _ _ us hl => match us, hl with | [_], _ => rfl), .nil, fun _ => .nil⟩
theorem f_frozen {h : Heap} {mg : Str → Option Value} (KX : K.In h) (G : h.Ns mainGlobals mg) (c : He.SaysX fa fn ts [] exK w h K) : ∃ fd : FuncData, FunD K "frozen" "frozen" (defArgs s0) (defBody s0) (defScope s0) ([]) ([]) (He.fAd K ("frozen", none)) fd ∧ FnOk P w K mg base CX0 6 (He.fAd K ("frozen", none)) fd ["thing"] (spM K (cl K) 1 F_frozen) := by
  obtain ⟨fd, F⟩ := c.t.d.def_ 0 (d := d0) rfl
  have F : FunD K "frozen" "frozen" (defArgs s0) (defBody s0) (defScope s0) ([]) ([]) (He.fAd K ("frozen", none)) fd := F
  have nd : (["thing", "key", "part"] : List Str).Nodup := by decide +kernel
  have sc : FnScope ["thing", "key", "part"] ["thing"] (defScope s0) := ⟨rfl, rfl, rfl, nd, rfl, by decide +kernel, by decide +kernel⟩
  refine ⟨fd, F, fn_ok (cl := cl K) (n := 1) (nN := 3) (sm := m_frozen) F sc (by decide) rfl rfl (fun cdv A outer s H E hr =>
    ess_cons (es_if (eb_tru (em_isi "dict" (He.free_ok KX G (c.t.d.fact 0 (f := .free "isinstance") rfl)) (He.free_ok KX G (c.t.d.fact 1 (f := .free "dict") rfl)) (em_var 0))) (ess_one (es_ret (em_bad))) (ess_nil)) <|
    ess_one (es_ret (em_if (eb_tru (em_isiT "list" "tuple" (He.free_ok KX G (c.t.d.fact 0 (f := .free "isinstance") rfl)) (He.free_ok KX G (c.t.d.fact 2 (f := .free "list") rfl)) (He.free_ok KX G (c.t.d.fact 3 (f := .free "tuple") rfl)) (em_var 0))) (em_callTy call_tuple_of ok_tuple (He.free_ok KX G (c.t.d.fact 3 (f := .free "tuple") rfl)) (by decide +kernel) (ea_cons (em_ef (ef_lc (own := [("part", 2)]) nd (ei_any (em_var 0)) (by kernel_rfl) (fun _ _ _ _ _ => (pg_name (i := 2) nd rfl (by first | exact Or.inl rfl | exact Or.inr rfl))) (fun _ _ _ _ _ => ets_nil) (fun _ _ _ _ _ => em_call (c_frozen_r1 KX G c) (hr.mono (by decide)) (er_im (em_var 2) (er_nil)) len_frozen_r1 (an_ok (an_im an_nil') rfl)))) (ea_nil))) (em_var 0))))⟩
theorem c_frozen {h : Heap} {mg : Str → Option Value} (KX : K.In h) (G : h.Ns mainGlobals mg) (c : He.SaysX fa fn ts [] exK w h K) : Cal P w K mg base (cl K) "frozen" 6 1 [] F_frozen := by
  obtain ⟨fd, F, h⟩ := f_frozen (P := P) (base := base) KX G c
  exact ⟨_, fd, _, [], [], h, He.glo_ok KX G (c.t.d.fact 4 (f := .glo "frozen") rfl), F.kp, F.bindsN (fun _ _ _ _ _ _ us hl => match us, hl with | [_], _ => rfl), .nil, fun _ => .nil⟩
theorem f_widened {h : Heap} {mg : Str → Option Value} (KX : K.In h) (G : h.Ns mainGlobals mg) (c : He.SaysX fa fn ts [] exK w h K) : ∃ fd : FuncData, FunD K "widened" "widened" (defArgs s3) (defBody s3) (defScope s3) ([]) ([]) (He.fAd K ("widened", none)) fd ∧ FnOk P w K mg base CX0 2 (He.fAd K ("widened", none)) fd ["line"] (spM K (cl K) 1 F_widened) := by
  obtain ⟨fd, F⟩ := c.t.d.def_ 3 (d := d3) rfl
  have F : FunD K "widened" "widened" (defArgs s3) (defBody s3) (defScope s3) ([]) ([]) (He.fAd K ("widened", none)) fd := F
  have nd : (["line", "found", "sign"] : List Str).Nodup := by decide +kernel
  have sc : FnScope ["line", "found", "sign"] ["line"] (defScope s3) := ⟨rfl, rfl, rfl, nd, rfl, by decide +kernel, by decide +kernel⟩
  refine ⟨fd, F, fn_ok (cl := cl K) (n := 1) (nN := 3) (sm := m_widened) F sc (by decide) rfl rfl (fun cdv A outer s H E hr =>
    ess_cons (es_set 1 nd (em_str)) <|
    ess_cons (es_for (t := (.one 2)) (ei_any (em_var 0)) (pg_name (i := 2) nd rfl (by first | exact Or.inl rfl | exact Or.inr rfl)) (ess_one (es_aug 1 nd (em_if (eb_cmp (op_eqA hr) ok_eq (nomark _) (em_var 2) (em_str)) (em_op op_mulA ok_mul (em_str) (em_op op_sub ok_sub (em_glob (v := .int 8) (glob_int (He.int_ok KX G (c.t.d.fact 5 (f := .int "TAB" 8) rfl))) (fun _ => .int _)) (em_op op_mod ok_mod (em_callB call_len ok_len (He.free_ok KX G (c.t.d.fact 6 (f := .free "len") rfl)) (by decide +kernel) (ea_cons (em_var 1) (ea_nil))) (em_glob (v := .int 8) (glob_int (He.int_ok KX G (c.t.d.fact 5 (f := .int "TAB" 8) rfl))) (fun _ => .int _))))) (em_var 2))))) <|
    ess_one (es_ret (em_var 1)))⟩
theorem c_widened {h : Heap} {mg : Str → Option Value} (KX : K.In h) (G : h.Ns mainGlobals mg) (c : He.SaysX fa fn ts [] exK w h K) : Cal P w K mg base (cl K) "widened" 2 1 [] F_widened := by
  obtain ⟨fd, F, h⟩ := f_widened (P := P) (base := base) KX G c
  exact ⟨_, fd, _, [], [], h, He.glo_ok KX G (c.t.d.fact 7 (f := .glo "widened") rfl), F.kp, F.bindsN (fun _ _ _ _ _ _ us hl => match us, hl with | [_], _ => rfl), .nil, fun _ => .nil⟩
theorem f_indent_of {h : Heap} {mg : Str → Option Value} (KX : K.In h) (G : h.Ns mainGlobals mg) (c : He.SaysX fa fn ts [] exK w h K) : ∃ fd : FuncData, FunD K "indent_of" "indent_of" (defArgs s4) (defBody s4) (defScope s4) ([]) ([]) (He.fAd K ("indent_of", none)) fd ∧ FnOk P w K mg base CX0 2 (He.fAd K ("indent_of", none)) fd ["line"] (spM K (cl K) 1 F_indent_of) := by
  obtain ⟨fd, F⟩ := c.t.d.def_ 4 (d := d4) rfl
  have F : FunD K "indent_of" "indent_of" (defArgs s4) (defBody s4) (defScope s4) ([]) ([]) (He.fAd K ("indent_of", none)) fd := F
  have nd : (["line"] : List Str).Nodup := by decide +kernel
  have sc : FnScope ["line"] ["line"] (defScope s4) := ⟨rfl, rfl, rfl, nd, rfl, by decide +kernel, by decide +kernel⟩
  refine ⟨fd, F, fn_ok (cl := cl K) (n := 1) (nN := 1) (sm := m_indent_of) F sc (by decide) rfl rfl (fun cdv A outer s H E hr =>
    ess_one (es_ret (em_op op_sub ok_sub (em_callB call_len ok_len (He.free_ok KX G (c.t.d.fact 6 (f := .free "len") rfl)) (by decide +kernel) (ea_cons (em_var 0) (ea_nil))) (em_callB call_len ok_len (He.free_ok KX G (c.t.d.fact 6 (f := .free "len") rfl)) (by decide +kernel) (ea_cons (em_sm PySem.F.plainAttrs_str PySem.F.slot_str_lstrip PySem.F.type_str_lstrip mt_lstripChars ok_strip (em_var 0) (ea_cons (em_str) (ea_nil))) (ea_nil))))))⟩
theorem c_indent_of {h : Heap} {mg : Str → Option Value} (KX : K.In h) (G : h.Ns mainGlobals mg) (c : He.SaysX fa fn ts [] exK w h K) : Cal P w K mg base (cl K) "indent_of" 2 1 [] F_indent_of := by
  obtain ⟨fd, F, h⟩ := f_indent_of (P := P) (base := base) KX G c
  exact ⟨_, fd, _, [], [], h, He.glo_ok KX G (c.t.d.fact 8 (f := .glo "indent_of") rfl), F.kp, F.bindsN (fun _ _ _ _ _ _ us hl => match us, hl with | [_], _ => rfl), .nil, fun _ => .nil⟩
theorem f_is_blank {h : Heap} {mg : Str → Option Value} (KX : K.In h) (G : h.Ns mainGlobals mg) (c : He.SaysX fa fn ts [] exK w h K) : ∃ fd : FuncData, FunD K "is_blank" "is_blank" (defArgs s5) (defBody s5) (defScope s5) ([]) ([]) (He.fAd K ("is_blank", none)) fd ∧ FnOk P w K mg base CX0 2 (He.fAd K ("is_blank", none)) fd ["line"] (spM K (cl K) 1 F_is_blank) := by
  obtain ⟨fd, F⟩ := c.t.d.def_ 5 (d := d5) rfl
  have F : FunD K "is_blank" "is_blank" (defArgs s5) (defBody s5) (defScope s5) ([]) ([]) (He.fAd K ("is_blank", none)) fd := F
  have nd : (["line"] : List Str).Nodup := by decide +kernel
  have sc : FnScope ["line"] ["line"] (defScope s5) := ⟨rfl, rfl, rfl, nd, rfl, by decide +kernel, by decide +kernel⟩
  refine ⟨fd, F, fn_ok (cl := cl K) (n := 1) (nN := 1) (sm := m_is_blank) F sc (by decide) rfl rfl (fun cdv A outer s H E hr =>
    ess_one (es_ret (em_cmp (op_eqA hr) ok_eq (nomark _) (em_sm PySem.F.plainAttrs_str PySem.F.slot_str_strip PySem.F.type_str_strip mt_stripChars ok_strip (em_var 0) (ea_cons (em_glob (v := .str " \t") (glob_str (He.str_ok KX G (c.t.d.fact 9 (f := .str "BLANKS" " \t") rfl))) (fun _ => .str _)) (ea_nil))) (em_str))))⟩
theorem c_is_blank {h : Heap} {mg : Str → Option Value} (KX : K.In h) (G : h.Ns mainGlobals mg) (c : He.SaysX fa fn ts [] exK w h K) : Cal P w K mg base (cl K) "is_blank" 2 1 [] F_is_blank := by
  obtain ⟨fd, F, h⟩ := f_is_blank (P := P) (base := base) KX G c
  exact ⟨_, fd, _, [], [], h, He.glo_ok KX G (c.t.d.fact 10 (f := .glo "is_blank") rfl), F.kp, F.bindsN (fun _ _ _ _ _ _ us hl => match us, hl with | [_], _ => rfl), .nil, fun _ => .nil⟩
theorem f_levelled {h : Heap} {mg : Str → Option Value} (KX : K.In h) (G : h.Ns mainGlobals mg) (c : He.SaysX fa fn ts [] exK w h K) : ∃ fd : FuncData, FunD K "levelled" "levelled" (defArgs s6) (defBody s6) (defScope s6) ([]) ([]) (He.fAd K ("levelled", none)) fd ∧ FnOk P w K mg base CX0 4 (He.fAd K ("levelled", none)) fd ["text"] (spM K (cl K) 1 F_levelled) := by
  obtain ⟨fd, F⟩ := c.t.d.def_ 6 (d := d6) rfl
  have F : FunD K "levelled" "levelled" (defArgs s6) (defBody s6) (defScope s6) ([]) ([]) (He.fAd K ("levelled", none)) fd := F
  have nd : (["text", "lines", "indents", "least", "line"] : List Str).Nodup := by decide +kernel
  have sc : FnScope ["text", "lines", "indents", "least", "line"] ["text"] (defScope s6) := ⟨rfl, rfl, rfl, nd, rfl, by decide +kernel, by decide +kernel⟩
  refine ⟨fd, F, fn_ok (cl := cl K) (n := 1) (nN := 5) (sm := m_levelled) F sc (by decide) rfl rfl (fun cdv A outer s H E hr =>
    ess_cons (es_lcIm 1 (own := [("line", 4)]) nd (ei_any (em_ef (ef_sm PySem.F.plainAttrs_str PySem.F.slot_str_split PySem.F.type_str_split mt_split okf_split (em_var 0) (ea_cons (em_str) (ea_nil))))) (by kernel_rfl) (fun _ _ _ _ _ => (pg_name (i := 4) nd rfl (by first | exact Or.inl rfl | exact Or.inr rfl))) (fun _ _ _ _ _ => ets_nil) (fun _ _ _ _ _ => em_call (c_widened KX G c) (hr.mono (by decide)) (er_im (em_var 4) (er_nil)) len_widened (an_ok (an_im an_nil') rfl)) (sw_true rfl rfl rfl (by kernel_rfl))) <|
    ess_cons (es_lcIm 2 (own := [("line", 4)]) nd (ei_any (em_var 1)) (by kernel_rfl) (fun _ _ _ _ _ => (pg_name (i := 4) nd rfl (by first | exact Or.inl rfl | exact Or.inr rfl))) (fun _ _ _ _ _ => ets_one (eb_not (eb_tru (em_call (c_is_blank KX G c) (hr.mono (by decide)) (er_im (em_var 4) (er_nil)) len_is_blank (an_ok (an_im an_nil') rfl))))) (fun _ _ _ _ _ => em_call (c_indent_of KX G c) (hr.mono (by decide)) (er_im (em_var 4) (er_nil)) len_indent_of (an_ok (an_im an_nil') rfl)) (sw_true rfl rfl rfl (by kernel_rfl))) <|
    ess_cons (es_set 3 nd (em_if (eb_cmp (op_neA hr) ok_ne (nomark _) (em_var 2) (em_ef (ef_lst (ea_nil)))) (em_callB (cr_minA rfl) ok_min (He.free_ok KX G (c.t.d.fact 11 (f := .free "min") rfl)) (by decide +kernel) (ea_cons (em_var 2) (ea_nil))) (em_int))) <|
    ess_one (es_ret (em_sm PySem.F.plainAttrs_str PySem.F.slot_str_join PySem.F.type_str_join mt_join ok_join (em_str) (ea_cons (em_ef (ef_lc (own := [("line", 4)]) nd (ei_any (em_var 1)) (by kernel_rfl) (fun _ _ _ _ _ => (pg_name (i := 4) nd rfl (by first | exact Or.inl rfl | exact Or.inr rfl))) (fun _ _ _ _ _ => ets_nil) (fun _ _ _ _ _ => em_sl (em_var 4) (eo_some (em_var 3)) (eo_none)))) (ea_nil)))))⟩
theorem c_levelled {h : Heap} {mg : Str → Option Value} (KX : K.In h) (G : h.Ns mainGlobals mg) (c : He.SaysX fa fn ts [] exK w h K) : Cal P w K mg base (cl K) "levelled" 4 1 [] F_levelled := by
  obtain ⟨fd, F, h⟩ := f_levelled (P := P) (base := base) KX G c
  exact ⟨_, fd, _, [], [], h, He.glo_ok KX G (c.t.d.fact 12 (f := .glo "levelled") rfl), F.kp, F.bindsN (fun _ _ _ _ _ _ us hl => match us, hl with | [_], _ => rfl), .nil, fun _ => .nil⟩
theorem f_directive_place {h : Heap} {mg : Str → Option Value} (KX : K.In h) (G : h.Ns mainGlobals mg) (c : He.SaysX fa fn ts [] exK w h K) : ∃ fd : FuncData, FunD K "directive_place" "directive_place" (defArgs s7) (defBody s7) (defScope s7) ([]) ([]) (He.fAd K ("directive_place", none)) fd ∧ FnOk P w K mg base CX0 2 (He.fAd K ("directive_place", none)) fd ["line"] (spM K (cl K) 1 F_directive_place) := by
  obtain ⟨fd, F⟩ := c.t.d.def_ 7 (d := d7) rfl
  have F : FunD K "directive_place" "directive_place" (defArgs s7) (defBody s7) (defScope s7) ([]) ([]) (He.fAd K ("directive_place", none)) fd := F
  have nd : (["line", "at", "sign", "rest"] : List Str).Nodup := by decide +kernel
  have sc : FnScope ["line", "at", "sign", "rest"] ["line"] (defScope s7) := ⟨rfl, rfl, rfl, nd, rfl, by decide +kernel, by decide +kernel⟩
  refine ⟨fd, F, fn_ok (cl := cl K) (n := 1) (nN := 4) (sm := m_directive_place) F sc (by decide) rfl rfl (fun cdv A outer s H E hr =>
    ess_cons (es_for (t := (.tup [1, 2])) (ei_enumS (He.free_ok KX G (c.t.d.fact 13 (f := .free "enumerate") rfl)) (ea_cons (em_var 0) (ea_nil))) (pg_tup (by rfl) (pgs_cons (pg_name (i := 1) nd rfl (by first | exact Or.inl rfl | exact Or.inr rfl)) (pgs_cons (pg_name (i := 2) nd rfl (by first | exact Or.inl rfl | exact Or.inr rfl)) pgs_nil))) (ess_cons (es_set 3 nd (em_sm PySem.F.plainAttrs_str PySem.F.slot_str_lstrip PySem.F.type_str_lstrip mt_lstripChars ok_strip (em_sl (em_var 0) (eo_some (em_op op_addA ok_add (em_var 1) (em_int))) (eo_none)) (ea_cons (em_glob (v := .str " \t") (glob_str (He.str_ok KX G (c.t.d.fact 9 (f := .str "BLANKS" " \t") rfl))) (fun _ => .str _)) (ea_nil)))) <|
    ess_one (es_if (eb_w (ew_and (eb_cmp (op_eqA hr) ok_eq (nomark _) (em_var 2) (em_str)) (ew_and (eb_tru (em_sm PySem.F.plainAttrs_str PySem.F.slot_str_startswith PySem.F.type_str_startswith mt_startswith ok_starts (em_var 3) (ea_cons (em_glob (v := .str "doctest:") (glob_str (He.str_ok KX G (c.t.d.fact 14 (f := .str "DIRECTIVE" "doctest:") rfl))) (fun _ => .str _)) (ea_nil)))) (ew_and (eb_cmp op_ninA ok_nin (by rfl) (em_str) (em_var 3)) (ew_and1 (eb_cmp op_ninA ok_nin (by rfl) (em_str) (em_var 3))))))) (ess_one (es_ret (em_var 1))) (ess_nil)))) <|
    ess_one (es_ret (em_neg (em_int))))⟩
theorem c_directive_place {h : Heap} {mg : Str → Option Value} (KX : K.In h) (G : h.Ns mainGlobals mg) (c : He.SaysX fa fn ts [] exK w h K) : Cal P w K mg base (cl K) "directive_place" 2 1 [] F_directive_place := by
  obtain ⟨fd, F, h⟩ := f_directive_place (P := P) (base := base) KX G c
  exact ⟨_, fd, _, [], [], h, He.glo_ok KX G (c.t.d.fact 15 (f := .glo "directive_place") rfl), F.kp, F.bindsN (fun _ _ _ _ _ _ us hl => match us, hl with | [_], _ => rfl), .nil, fun _ => .nil⟩
theorem f_option_words {h : Heap} {mg : Str → Option Value} (KX : K.In h) (G : h.Ns mainGlobals mg) (c : He.SaysX fa fn ts [] exK w h K) : ∃ fd : FuncData, FunD K "option_words" "option_words" (defArgs s8) (defBody s8) (defScope s8) ([]) ([]) (He.fAd K ("option_words", none)) fd ∧ FnOk P w K mg base CX0 4 (He.fAd K ("option_words", none)) fd ["source"] (spM K (cl K) 1 F_option_words) := by
  obtain ⟨fd, F⟩ := c.t.d.def_ 8 (d := d8) rfl
  have F : FunD K "option_words" "option_words" (defArgs s8) (defBody s8) (defScope s8) ([]) ([]) (He.fAd K ("option_words", none)) fd := F
  have nd : (["source", "found", "line", "at", "rest"] : List Str).Nodup := by decide +kernel
  have sc : FnScope ["source", "found", "line", "at", "rest"] ["source"] (defScope s8) := ⟨rfl, rfl, rfl, nd, rfl, by decide +kernel, by decide +kernel⟩
  refine ⟨fd, F, fn_ok (cl := cl K) (n := 1) (nN := 5) (sm := m_option_words) F sc (by decide) rfl rfl (fun cdv A outer s H E hr =>
    ess_cons (es_own 1 nd (ef_lst (ea_nil))) <|
    ess_cons (es_for (t := (.one 2)) (ei_any (em_ef (ef_sm PySem.F.plainAttrs_str PySem.F.slot_str_split PySem.F.type_str_split mt_split okf_split (em_var 0) (ea_cons (em_str) (ea_nil))))) (pg_name (i := 2) nd rfl (by first | exact Or.inl rfl | exact Or.inr rfl)) (ess_cons (es_set 3 nd (em_call (c_directive_place KX G c) (hr.mono (by decide)) (er_im (em_var 2) (er_nil)) len_directive_place (an_ok (an_im an_nil') rfl))) <|
    ess_one (es_if (eb_cmp op_geA ok_cmp (nomark _) (em_var 3) (em_int)) (ess_cons (es_set 4 nd (em_sl (em_sm PySem.F.plainAttrs_str PySem.F.slot_str_lstrip PySem.F.type_str_lstrip mt_lstripChars ok_strip (em_sl (em_var 2) (eo_some (em_op op_addA ok_add (em_var 3) (em_int))) (eo_none)) (ea_cons (em_glob (v := .str " \t") (glob_str (He.str_ok KX G (c.t.d.fact 9 (f := .str "BLANKS" " \t") rfl))) (fun _ => .str _)) (ea_nil))) (eo_some (em_callB call_len ok_len (He.free_ok KX G (c.t.d.fact 6 (f := .free "len") rfl)) (by decide +kernel) (ea_cons (em_glob (v := .str "doctest:") (glob_str (He.str_ok KX G (c.t.d.fact 14 (f := .str "DIRECTIVE" "doctest:") rfl))) (fun _ => .str _)) (ea_nil)))) (eo_none))) <|
    ess_one (es_expr (em_extend 1 (ef_sm0 PySem.F.plainAttrs_str PySem.F.slot_str_split PySem.F.type_str_split mt_words okf_words (em_bad))))) (ess_nil)))) <|
    ess_one (es_ret (em_var 1)))⟩
theorem c_option_words {h : Heap} {mg : Str → Option Value} (KX : K.In h) (G : h.Ns mainGlobals mg) (c : He.SaysX fa fn ts [] exK w h K) : Cal P w K mg base (cl K) "option_words" 4 1 [] F_option_words := by
  obtain ⟨fd, F, h⟩ := f_option_words (P := P) (base := base) KX G c
  exact ⟨_, fd, _, [], [], h, He.glo_ok KX G (c.t.d.fact 16 (f := .glo "option_words") rfl), F.kp, F.bindsN (fun _ _ _ _ _ _ us hl => match us, hl with | [_], _ => rfl), .nil, fun _ => .nil⟩
theorem f_is_option_word {h : Heap} {mg : Str → Option Value} (KX : K.In h) (G : h.Ns mainGlobals mg) (c : He.SaysX fa fn ts [] exK w h K) : ∃ fd : FuncData, FunD K "is_option_word" "is_option_word" (defArgs s9) (defBody s9) (defScope s9) ([]) ([]) (He.fAd K ("is_option_word", none)) fd ∧ FnOk P w K mg base CX0 2 (He.fAd K ("is_option_word", none)) fd ["thing"] (spM K (cl K) 1 F_is_option_word) := by
  obtain ⟨fd, F⟩ := c.t.d.def_ 9 (d := d9) rfl
  have F : FunD K "is_option_word" "is_option_word" (defArgs s9) (defBody s9) (defScope s9) ([]) ([]) (He.fAd K ("is_option_word", none)) fd := F
  have nd : (["thing"] : List Str).Nodup := by decide +kernel
  have sc : FnScope ["thing"] ["thing"] (defScope s9) := ⟨rfl, rfl, rfl, nd, rfl, by decide +kernel, by decide +kernel⟩
  refine ⟨fd, F, fn_ok (cl := cl K) (n := 1) (nN := 1) (sm := m_is_option_word) F sc (by decide) rfl rfl (fun cdv A outer s H E hr =>
    ess_one (es_ret (em_and (em_isi "str" (He.free_ok KX G (c.t.d.fact 0 (f := .free "isinstance") rfl)) (He.free_ok KX G (c.t.d.fact 17 (f := .free "str") rfl)) (em_var 0)) (em_and (em_cmp op_inA ok_in (by rfl) (em_sl (em_var 0) (eo_none) (eo_some (em_int))) (em_tup (ea_cons (em_str) (ea_cons (em_str) (ea_nil))))) (em_one (em_cmp op_inA ok_in (by rfl) (em_sl (em_var 0) (eo_some (em_int)) (eo_none)) (em_glob (v := .ref (He.ga K "FLAGS")) (glob_ref (He.glo_ok KX G (c.t.d.fact 18 (f := .glo "FLAGS") rfl))) (fun I => rep_tupB (vs := [.str "DONT_ACCEPT_TRUE_FOR_1", .str "DONT_ACCEPT_BLANKLINE", .str "NORMALIZE_WHITESPACE", .str "ELLIPSIS", .str "SKIP", .str "IGNORE_EXCEPTION_DETAIL", .str "REPORT_ONLY_FIRST_FAILURE", .str "FAIL_FAST"]) (all_at c.more 0 rfl) rfl I))))))))⟩
theorem c_is_option_word {h : Heap} {mg : Str → Option Value} (KX : K.In h) (G : h.Ns mainGlobals mg) (c : He.SaysX fa fn ts [] exK w h K) : Cal P w K mg base (cl K) "is_option_word" 2 1 [] F_is_option_word := by
  obtain ⟨fd, F, h⟩ := f_is_option_word (P := P) (base := base) KX G c
  exact ⟨_, fd, _, [], [], h, He.glo_ok KX G (c.t.d.fact 19 (f := .glo "is_option_word") rfl), F.kp, F.bindsN (fun _ _ _ _ _ _ us hl => match us, hl with | [_], _ => rfl), .nil, fun _ => .nil⟩
theorem f_bare_source {h : Heap} {mg : Str → Option Value} (KX : K.In h) (G : h.Ns mainGlobals mg) (c : He.SaysX fa fn ts [] exK w h K) : ∃ fd : FuncData, FunD K "bare_source" "bare_source" (defArgs s10) (defBody s10) (defScope s10) ([]) ([]) (He.fAd K ("bare_source", none)) fd ∧ FnOk P w K mg base CX0 4 (He.fAd K ("bare_source", none)) fd ["source"] (spM K (cl K) 1 F_bare_source) := by
  obtain ⟨fd, F⟩ := c.t.d.def_ 10 (d := d10) rfl
  have F : FunD K "bare_source" "bare_source" (defArgs s10) (defBody s10) (defScope s10) ([]) ([]) (He.fAd K ("bare_source", none)) fd := F
  have nd : (["source", "found", "line", "at"] : List Str).Nodup := by decide +kernel
  have sc : FnScope ["source", "found", "line", "at"] ["source"] (defScope s10) := ⟨rfl, rfl, rfl, nd, rfl, by decide +kernel, by decide +kernel⟩
  refine ⟨fd, F, fn_ok (cl := cl K) (n := 1) (nN := 4) (sm := m_bare_source) F sc (by decide) rfl rfl (fun cdv A outer s H E hr =>
    ess_cons (es_own 1 nd (ef_lst (ea_nil))) <|
    ess_cons (es_for (t := (.one 2)) (ei_any (em_ef (ef_sm PySem.F.plainAttrs_str PySem.F.slot_str_split PySem.F.type_str_split mt_split okf_split (em_var 0) (ea_cons (em_str) (ea_nil))))) (pg_name (i := 2) nd rfl (by first | exact Or.inl rfl | exact Or.inr rfl)) (ess_cons (es_set 3 nd (em_call (c_directive_place KX G c) (hr.mono (by decide)) (er_im (em_var 2) (er_nil)) len_directive_place (an_ok (an_im an_nil') rfl))) <|
    ess_one (es_expr (em_append 1 (em_sm PySem.F.plainAttrs_str PySem.F.slot_str_rstrip PySem.F.type_str_rstrip mt_rstripChars ok_strip (em_if (eb_cmp op_ltA ok_cmp (nomark _) (em_var 3) (em_int)) (em_var 2) (em_sl (em_var 2) (eo_none) (eo_some (em_var 3)))) (ea_cons (em_glob (v := .str " \t") (glob_str (He.str_ok KX G (c.t.d.fact 9 (f := .str "BLANKS" " \t") rfl))) (fun _ => .str _)) (ea_nil))))))) <|
    ess_one (es_ret (em_sm PySem.F.plainAttrs_str PySem.F.slot_str_join PySem.F.type_str_join mt_join ok_join (em_str) (ea_cons (em_var 1) (ea_nil)))))⟩
theorem c_bare_source {h : Heap} {mg : Str → Option Value} (KX : K.In h) (G : h.Ns mainGlobals mg) (c : He.SaysX fa fn ts [] exK w h K) : Cal P w K mg base (cl K) "bare_source" 4 1 [] F_bare_source := by
  obtain ⟨fd, F, h⟩ := f_bare_source (P := P) (base := base) KX G c
  exact ⟨_, fd, _, [], [], h, He.glo_ok KX G (c.t.d.fact 20 (f := .glo "bare_source") rfl), F.kp, F.bindsN (fun _ _ _ _ _ _ us hl => match us, hl with | [_], _ => rfl), .nil, fun _ => .nil⟩
theorem f_error_of {h : Heap} {mg : Str → Option Value} (KX : K.In h) (G : h.Ns mainGlobals mg) (c : He.SaysX fa fn ts [] exK w h K) : ∃ fd : FuncData, FunD K "error_of" "error_of" (defArgs s11) (defBody s11) (defScope s11) ([]) ([]) (He.fAd K ("error_of", none)) fd ∧ FnOk P w K mg base CX0 2 (He.fAd K ("error_of", none)) fd ["want"] (spM K (cl K) 1 F_error_of) := by
  obtain ⟨fd, F⟩ := c.t.d.def_ 11 (d := d11) rfl
  have F : FunD K "error_of" "error_of" (defArgs s11) (defBody s11) (defScope s11) ([]) ([]) (He.fAd K ("error_of", none)) fd := F
  have nd : (["want", "lines", "at"] : List Str).Nodup := by decide +kernel
  have sc : FnScope ["want", "lines", "at"] ["want"] (defScope s11) := ⟨rfl, rfl, rfl, nd, rfl, by decide +kernel, by decide +kernel⟩
  refine ⟨fd, F, fn_ok (cl := cl K) (n := 1) (nN := 3) (sm := m_error_of) F sc (by decide) rfl rfl (fun cdv A outer s H E hr =>
    ess_cons (es_set 1 nd (em_ef (ef_sm PySem.F.plainAttrs_str PySem.F.slot_str_split PySem.F.type_str_split mt_split okf_split (em_var 0) (ea_cons (em_str) (ea_nil))))) <|
    ess_cons (es_if (eb_cmp op_ninA ok_nin (by rfl) (em_sm PySem.F.plainAttrs_str PySem.F.slot_str_rstrip PySem.F.type_str_rstrip mt_rstripChars ok_strip (em_ix (em_var 1) (em_int)) (ea_cons (em_str) (ea_nil))) (em_glob (v := .ref (He.ga K "HEADS")) (glob_ref (He.glo_ok KX G (c.t.d.fact 21 (f := .glo "HEADS") rfl))) (fun I => rep_tupB (vs := [.str "Traceback (most recent call last):", .str "Traceback (innermost last):"]) (all_at c.more 1 rfl) rfl I))) (ess_one (es_ret (em_non))) (ess_nil)) <|
    ess_cons (es_for (t := (.one 2)) (ei_range2 (He.free_ok KX G (c.t.d.fact 22 (f := .free "range") rfl)) (ea_cons (em_int) (ea_cons (em_callB call_len ok_len (He.free_ok KX G (c.t.d.fact 6 (f := .free "len") rfl)) (by decide +kernel) (ea_cons (em_var 1) (ea_nil))) (ea_nil)))) (pg_name (i := 2) nd rfl (by first | exact Or.inl rfl | exact Or.inr rfl)) (ess_one (es_if (eb_w (ew_and (eb_cmp (op_neA hr) ok_ne (nomark _) (em_ix (em_var 1) (em_var 2)) (em_str)) (ew_and1 (eb_cmp op_inA ok_in (by rfl) (em_ix (em_ix (em_var 1) (em_var 2)) (em_int)) (em_glob (v := .str "abcdefghijklmnopqrstuvwxyzABCDEFGHIJKLMNOPQRSTUVWXYZ0123456789_") (glob_str (He.str_ok KX G (c.t.d.fact 23 (f := .str "WORD_SIGNS" "abcdefghijklmnopqrstuvwxyzABCDEFGHIJKLMNOPQRSTUVWXYZ0123456789_") rfl))) (fun _ => .str _)))))) (ess_one (es_ret (em_sm PySem.F.plainAttrs_str PySem.F.slot_str_join PySem.F.type_str_join mt_join ok_join (em_str) (ea_cons (em_sl (em_var 1) (eo_some (em_var 2)) (eo_none)) (ea_nil))))) (ess_nil)))) <|
    ess_one (es_ret (em_non)))⟩
theorem c_error_of {h : Heap} {mg : Str → Option Value} (KX : K.In h) (G : h.Ns mainGlobals mg) (c : He.SaysX fa fn ts [] exK w h K) : Cal P w K mg base (cl K) "error_of" 2 1 [] F_error_of := by
  obtain ⟨fd, F, h⟩ := f_error_of (P := P) (base := base) KX G c
  exact ⟨_, fd, _, [], [], h, He.glo_ok KX G (c.t.d.fact 24 (f := .glo "error_of") rfl), F.kp, F.bindsN (fun _ _ _ _ _ _ us hl => match us, hl with | [_], _ => rfl), .nil, fun _ => .nil⟩
theorem f_with_line_feed {h : Heap} {mg : Str → Option Value} (KX : K.In h) (G : h.Ns mainGlobals mg) (c : He.SaysX fa fn ts [] exK w h K) : ∃ fd : FuncData, FunD K "with_line_feed" "with_line_feed" (defArgs s12) (defBody s12) (defScope s12) ([]) ([]) (He.fAd K ("with_line_feed", none)) fd ∧ FnOk P w K mg base CX0 2 (He.fAd K ("with_line_feed", none)) fd ["text"] (spM K (cl K) 1 F_with_line_feed) := by
  obtain ⟨fd, F⟩ := c.t.d.def_ 12 (d := d12) rfl
  have F : FunD K "with_line_feed" "with_line_feed" (defArgs s12) (defBody s12) (defScope s12) ([]) ([]) (He.fAd K ("with_line_feed", none)) fd := F
  have nd : (["text"] : List Str).Nodup := by decide +kernel
  have sc : FnScope ["text"] ["text"] (defScope s12) := ⟨rfl, rfl, rfl, nd, rfl, by decide +kernel, by decide +kernel⟩
  refine ⟨fd, F, fn_ok (cl := cl K) (n := 1) (nN := 1) (sm := m_with_line_feed) F sc (by decide) rfl rfl (fun cdv A outer s H E hr =>
    ess_one (es_ret (em_if (eb_tru (em_sm PySem.F.plainAttrs_str PySem.F.slot_str_endswith PySem.F.type_str_endswith mt_endswith ok_ends (em_var 0) (ea_cons (em_str) (ea_nil)))) (em_var 0) (em_op op_addA ok_add (em_var 0) (em_str)))))⟩
theorem c_with_line_feed {h : Heap} {mg : Str → Option Value} (KX : K.In h) (G : h.Ns mainGlobals mg) (c : He.SaysX fa fn ts [] exK w h K) : Cal P w K mg base (cl K) "with_line_feed" 2 1 [] F_with_line_feed := by
  obtain ⟨fd, F, h⟩ := f_with_line_feed (P := P) (base := base) KX G c
  exact ⟨_, fd, _, [], [], h, He.glo_ok KX G (c.t.d.fact 25 (f := .glo "with_line_feed") rfl), F.kp, F.bindsN (fun _ _ _ _ _ _ us hl => match us, hl with | [_], _ => rfl), .nil, fun _ => .nil⟩
theorem f_Example___init__ {h : Heap} {mg : Str → Option Value} (KX : K.In h) (G : h.Ns mainGlobals mg) (c : He.SaysX fa fn ts [] exK w h K) : ∃ fd : FuncData, FunD K "__init__" "Example.__init__" (defArgs s13) (defBody s13) (defScope s13) (d13.dvs K) (d13.kws K) (He.fAd K ("Example", some "__init__")) fd ∧ FnOk P w K mg base CX0 6 (He.fAd K ("Example", some "__init__")) fd ["self", "source", "want", "error", "line", "indent", "options"] (spM K (cl K) 7 F_Example___init__) := by
  obtain ⟨fd, F⟩ := c.t.d.def_ 13 (d := d13) rfl
  have F : FunD K "__init__" "Example.__init__" (defArgs s13) (defBody s13) (defScope s13) (d13.dvs K) (d13.kws K) (He.fAd K ("Example", some "__init__")) fd := F
  have nd : (["self", "source", "want", "error", "line", "indent", "options", "flag"] : List Str).Nodup := by decide +kernel
  have sc : FnScope ["self", "source", "want", "error", "line", "indent", "options", "flag"] ["self", "source", "want", "error", "line", "indent", "options"] (defScope s13) := ⟨rfl, rfl, rfl, nd, rfl, by decide +kernel, by decide +kernel⟩
  refine ⟨fd, F, fn_ok (cl := cl K) (n := 7) (nN := 8) (sm := m_Example___init__) F sc (by decide) rfl rfl (fun cdv A outer s H E hr =>
    ess_cons (es_set 6 nd (em_if (eb_isN (em_var 6)) (em_dict0) (em_var 6))) <|
    ess_cons (es_forD 6) <|
    ess_cons (es_attr 0 0 ⟨(He.cls_ok (c.t.d.fact 26 (f := .cls "Example") rfl)), (He.noat_ok (c.t.d.fact 27 (f := .noat "Example" "source") rfl))⟩ (em_call (c_with_line_feed KX G c) (hr.mono (by decide)) (er_im (em_var 1) (er_nil)) len_with_line_feed (an_ok (an_im an_nil') rfl))) <|
    ess_cons (es_attr 0 0 ⟨(He.cls_ok (c.t.d.fact 26 (f := .cls "Example") rfl)), (He.noat_ok (c.t.d.fact 28 (f := .noat "Example" "want") rfl))⟩ (em_if (eb_cmp (op_eqA hr) ok_eq (nomark _) (em_var 2) (em_str)) (em_var 2) (em_call (c_with_line_feed KX G c) (hr.mono (by decide)) (er_im (em_var 2) (er_nil)) len_with_line_feed (an_ok (an_im an_nil') rfl)))) <|
    ess_cons (es_attr 0 0 ⟨(He.cls_ok (c.t.d.fact 26 (f := .cls "Example") rfl)), (He.noat_ok (c.t.d.fact 29 (f := .noat "Example" "error") rfl))⟩ (em_if (eb_isN (em_var 3)) (em_non) (em_call (c_with_line_feed KX G c) (hr.mono (by decide)) (er_im (em_var 3) (er_nil)) len_with_line_feed (an_ok (an_im an_nil') rfl)))) <|
    ess_cons (es_attr 0 0 ⟨(He.cls_ok (c.t.d.fact 26 (f := .cls "Example") rfl)), (He.noat_ok (c.t.d.fact 30 (f := .noat "Example" "line") rfl))⟩ (em_var 4)) <|
    ess_cons (es_attr 0 0 ⟨(He.cls_ok (c.t.d.fact 26 (f := .cls "Example") rfl)), (He.noat_ok (c.t.d.fact 31 (f := .noat "Example" "indent") rfl))⟩ (em_var 5)) <|
    ess_cons (es_attr 0 0 ⟨(He.cls_ok (c.t.d.fact 26 (f := .cls "Example") rfl)), (He.noat_ok (c.t.d.fact 32 (f := .noat "Example" "options") rfl))⟩ (em_callTy call_dictD ok_dict (He.free_ok KX G (c.t.d.fact 1 (f := .free "dict") rfl)) (by decide +kernel) (ea_cons (em_var 6) (ea_nil)))) <|
    ess_one (es_attr 0 0 ⟨(He.cls_ok (c.t.d.fact 26 (f := .cls "Example") rfl)), (He.noat_ok (c.t.d.fact 33 (f := .noat "Example" "bare") rfl))⟩ (em_call (c_bare_source KX G c) (hr.mono (by decide)) (er_im (em_attrO 0 0 "source" ⟨(He.cls_ok (c.t.d.fact 26 (f := .cls "Example") rfl)), (He.noat_ok (c.t.d.fact 27 (f := .noat "Example" "source") rfl))⟩) (er_nil)) len_bare_source (an_ok (an_im an_nil') rfl))))⟩
theorem f_Example_parts {h : Heap} {mg : Str → Option Value} (KX : K.In h) (G : h.Ns mainGlobals mg) (c : He.SaysX fa fn ts [] exK w h K) : ∃ fd : FuncData, FunD K "parts" "Example.parts" (defArgs s14) (defBody s14) (defScope s14) ([]) ([]) (He.fAd K ("Example", some "parts")) fd ∧ FnOk P w K mg base CX0 2 (He.fAd K ("Example", some "parts")) fd ["self"] (spM K (cl K) 1 F_Example_parts) := by
  obtain ⟨fd, F⟩ := c.t.d.def_ 14 (d := d14) rfl
  have F : FunD K "parts" "Example.parts" (defArgs s14) (defBody s14) (defScope s14) ([]) ([]) (He.fAd K ("Example", some "parts")) fd := F
  have nd : (["self"] : List Str).Nodup := by decide +kernel
  have sc : FnScope ["self"] ["self"] (defScope s14) := ⟨rfl, rfl, rfl, nd, rfl, by decide +kernel, by decide +kernel⟩
  refine ⟨fd, F, fn_ok (cl := cl K) (n := 1) (nN := 1) (sm := m_Example_parts) F sc (by decide) rfl rfl (fun cdv A outer s H E hr =>
    ess_one (es_ret (em_ef (ef_lst (ea_cons (em_attr [0, 1] "source" (allC_cons ⟨(He.cls_ok (c.t.d.fact 26 (f := .cls "Example") rfl)), (He.noat_ok (c.t.d.fact 27 (f := .noat "Example" "source") rfl))⟩ (allC_cons ⟨(He.cls_ok (c.t.d.fact 34 (f := .cls "Comment") rfl)), (He.noat_ok (c.t.d.fact 38 (f := .noat "Comment" "source") rfl))⟩ allC_nil)) (em_var 0)) (ea_cons (em_attr [0, 1] "want" (allC_cons ⟨(He.cls_ok (c.t.d.fact 26 (f := .cls "Example") rfl)), (He.noat_ok (c.t.d.fact 28 (f := .noat "Example" "want") rfl))⟩ (allC_cons ⟨(He.cls_ok (c.t.d.fact 34 (f := .cls "Comment") rfl)), (He.noat_ok (c.t.d.fact 37 (f := .noat "Comment" "want") rfl))⟩ allC_nil)) (em_var 0)) (ea_cons (em_attr [0] "error" (allC_cons ⟨(He.cls_ok (c.t.d.fact 26 (f := .cls "Example") rfl)), (He.noat_ok (c.t.d.fact 29 (f := .noat "Example" "error") rfl))⟩ allC_nil) (em_var 0)) (ea_cons (em_attr [0, 1] "line" (allC_cons ⟨(He.cls_ok (c.t.d.fact 26 (f := .cls "Example") rfl)), (He.noat_ok (c.t.d.fact 30 (f := .noat "Example" "line") rfl))⟩ (allC_cons ⟨(He.cls_ok (c.t.d.fact 34 (f := .cls "Comment") rfl)), (He.noat_ok (c.t.d.fact 36 (f := .noat "Comment" "line") rfl))⟩ allC_nil)) (em_var 0)) (ea_cons (em_attr [0, 1] "indent" (allC_cons ⟨(He.cls_ok (c.t.d.fact 26 (f := .cls "Example") rfl)), (He.noat_ok (c.t.d.fact 31 (f := .noat "Example" "indent") rfl))⟩ (allC_cons ⟨(He.cls_ok (c.t.d.fact 34 (f := .cls "Comment") rfl)), (He.noat_ok (c.t.d.fact 35 (f := .noat "Comment" "indent") rfl))⟩ allC_nil)) (em_var 0)) (ea_cons (em_attr [0] "options" (allC_cons ⟨(He.cls_ok (c.t.d.fact 26 (f := .cls "Example") rfl)), (He.noat_ok (c.t.d.fact 32 (f := .noat "Example" "options") rfl))⟩ allC_nil) (em_var 0)) (ea_nil)))))))))))⟩
theorem f_Example___eq__ {h : Heap} {mg : Str → Option Value} (KX : K.In h) (G : h.Ns mainGlobals mg) (c : He.SaysX fa fn ts [] exK w h K) : ∃ fd : FuncData, FunD K "__eq__" "Example.__eq__" (defArgs s15) (defBody s15) (defScope s15) ([]) ([]) (He.fAd K ("Example", some "__eq__")) fd ∧ FnOk P w K mg base CX0 2 (He.fAd K ("Example", some "__eq__")) fd ["self", "other"] (spM K (cl K) 2 F_Example___eq__) := by
  obtain ⟨fd, F⟩ := c.t.d.def_ 15 (d := d15) rfl
  have F : FunD K "__eq__" "Example.__eq__" (defArgs s15) (defBody s15) (defScope s15) ([]) ([]) (He.fAd K ("Example", some "__eq__")) fd := F
  have nd : (["self", "other"] : List Str).Nodup := by decide +kernel
  have sc : FnScope ["self", "other"] ["self", "other"] (defScope s15) := ⟨rfl, rfl, rfl, nd, rfl, by decide +kernel, by decide +kernel⟩
  refine ⟨fd, F, fn_ok (cl := cl K) (n := 2) (nN := 2) (sm := m_Example___eq__) F sc (by decide) rfl rfl (fun cdv A outer s H E hr =>
    ess_one (es_ret (em_and (em_isiC 0 [0, 1] (He.free_ok KX G (c.t.d.fact 0 (f := .free "isinstance") rfl)) (He.glo_ok KX G (c.t.d.fact 39 (f := .glo "Example") rfl)) (all_at c.more 2 rfl) (allC_cons (He.cls_ok (c.t.d.fact 26 (f := .cls "Example") rfl)) (allC_cons (He.cls_ok (c.t.d.fact 34 (f := .cls "Comment") rfl)) allC_nil)) (em_var 1)) (em_one (em_cmp (op_eqA hr) ok_eq (nomark _) (em_bad) (em_bad))))))⟩
theorem f_Comment___init__ {h : Heap} {mg : Str → Option Value} (KX : K.In h) (G : h.Ns mainGlobals mg) (c : He.SaysX fa fn ts [] exK w h K) : ∃ fd : FuncData, FunD K "__init__" "Comment.__init__" (defArgs s16) (defBody s16) (defScope s16) (d16.dvs K) (d16.kws K) (He.fAd K ("Comment", some "__init__")) fd ∧ FnOk P w K mg base CX0 4 (He.fAd K ("Comment", some "__init__")) fd ["self", "source", "want", "line", "indent"] (spM K (cl K) 5 F_Comment___init__) := by
  obtain ⟨fd, F⟩ := c.t.d.def_ 16 (d := d16) rfl
  have F : FunD K "__init__" "Comment.__init__" (defArgs s16) (defBody s16) (defScope s16) (d16.dvs K) (d16.kws K) (He.fAd K ("Comment", some "__init__")) fd := F
  have nd : (["self", "source", "want", "line", "indent"] : List Str).Nodup := by decide +kernel
  have sc : FnScope ["self", "source", "want", "line", "indent"] ["self", "source", "want", "line", "indent"] (defScope s16) := ⟨rfl, rfl, rfl, nd, rfl, by decide +kernel, by decide +kernel⟩
  refine ⟨fd, F, fn_ok (cl := cl K) (n := 5) (nN := 5) (sm := m_Comment___init__) F sc (by decide) rfl rfl (fun cdv A outer s H E hr =>
    ess_cons (es_attr 0 1 ⟨(He.cls_ok (c.t.d.fact 34 (f := .cls "Comment") rfl)), (He.noat_ok (c.t.d.fact 38 (f := .noat "Comment" "source") rfl))⟩ (em_call (c_with_line_feed KX G c) (hr.mono (by decide)) (er_im (em_var 1) (er_nil)) len_with_line_feed (an_ok (an_im an_nil') rfl))) <|
    ess_cons (es_attr 0 1 ⟨(He.cls_ok (c.t.d.fact 34 (f := .cls "Comment") rfl)), (He.noat_ok (c.t.d.fact 37 (f := .noat "Comment" "want") rfl))⟩ (em_if (eb_cmp (op_eqA hr) ok_eq (nomark _) (em_var 2) (em_str)) (em_var 2) (em_call (c_with_line_feed KX G c) (hr.mono (by decide)) (er_im (em_var 2) (er_nil)) len_with_line_feed (an_ok (an_im an_nil') rfl)))) <|
    ess_cons (es_attr 0 1 ⟨(He.cls_ok (c.t.d.fact 34 (f := .cls "Comment") rfl)), (He.noat_ok (c.t.d.fact 36 (f := .noat "Comment" "line") rfl))⟩ (em_var 3)) <|
    ess_one (es_attr 0 1 ⟨(He.cls_ok (c.t.d.fact 34 (f := .cls "Comment") rfl)), (He.noat_ok (c.t.d.fact 35 (f := .noat "Comment" "indent") rfl))⟩ (em_var 4)))⟩
theorem f_Comment_parts {h : Heap} {mg : Str → Option Value} (KX : K.In h) (G : h.Ns mainGlobals mg) (c : He.SaysX fa fn ts [] exK w h K) : ∃ fd : FuncData, FunD K "parts" "Comment.parts" (defArgs s17) (defBody s17) (defScope s17) ([]) ([]) (He.fAd K ("Comment", some "parts")) fd ∧ FnOk P w K mg base CX0 2 (He.fAd K ("Comment", some "parts")) fd ["self"] (spM K (cl K) 1 F_Comment_parts) := by
  obtain ⟨fd, F⟩ := c.t.d.def_ 17 (d := d17) rfl
  have F : FunD K "parts" "Comment.parts" (defArgs s17) (defBody s17) (defScope s17) ([]) ([]) (He.fAd K ("Comment", some "parts")) fd := F
  have nd : (["self"] : List Str).Nodup := by decide +kernel
  have sc : FnScope ["self"] ["self"] (defScope s17) := ⟨rfl, rfl, rfl, nd, rfl, by decide +kernel, by decide +kernel⟩
  refine ⟨fd, F, fn_ok (cl := cl K) (n := 1) (nN := 1) (sm := m_Comment_parts) F sc (by decide) rfl rfl (fun cdv A outer s H E hr =>
    ess_one (es_ret (em_ef (ef_lst (ea_cons (em_attr [0, 1] "source" (allC_cons ⟨(He.cls_ok (c.t.d.fact 26 (f := .cls "Example") rfl)), (He.noat_ok (c.t.d.fact 27 (f := .noat "Example" "source") rfl))⟩ (allC_cons ⟨(He.cls_ok (c.t.d.fact 34 (f := .cls "Comment") rfl)), (He.noat_ok (c.t.d.fact 38 (f := .noat "Comment" "source") rfl))⟩ allC_nil)) (em_var 0)) (ea_cons (em_attr [0, 1] "want" (allC_cons ⟨(He.cls_ok (c.t.d.fact 26 (f := .cls "Example") rfl)), (He.noat_ok (c.t.d.fact 28 (f := .noat "Example" "want") rfl))⟩ (allC_cons ⟨(He.cls_ok (c.t.d.fact 34 (f := .cls "Comment") rfl)), (He.noat_ok (c.t.d.fact 37 (f := .noat "Comment" "want") rfl))⟩ allC_nil)) (em_var 0)) (ea_cons (em_attr [0, 1] "line" (allC_cons ⟨(He.cls_ok (c.t.d.fact 26 (f := .cls "Example") rfl)), (He.noat_ok (c.t.d.fact 30 (f := .noat "Example" "line") rfl))⟩ (allC_cons ⟨(He.cls_ok (c.t.d.fact 34 (f := .cls "Comment") rfl)), (He.noat_ok (c.t.d.fact 36 (f := .noat "Comment" "line") rfl))⟩ allC_nil)) (em_var 0)) (ea_cons (em_attr [0, 1] "indent" (allC_cons ⟨(He.cls_ok (c.t.d.fact 26 (f := .cls "Example") rfl)), (He.noat_ok (c.t.d.fact 31 (f := .noat "Example" "indent") rfl))⟩ (allC_cons ⟨(He.cls_ok (c.t.d.fact 34 (f := .cls "Comment") rfl)), (He.noat_ok (c.t.d.fact 35 (f := .noat "Comment" "indent") rfl))⟩ allC_nil)) (em_var 0)) (ea_nil)))))))))⟩
theorem f_Comment___eq__ {h : Heap} {mg : Str → Option Value} (KX : K.In h) (G : h.Ns mainGlobals mg) (c : He.SaysX fa fn ts [] exK w h K) : ∃ fd : FuncData, FunD K "__eq__" "Comment.__eq__" (defArgs s18) (defBody s18) (defScope s18) ([]) ([]) (He.fAd K ("Comment", some "__eq__")) fd ∧ FnOk P w K mg base CX0 2 (He.fAd K ("Comment", some "__eq__")) fd ["self", "other"] (spM K (cl K) 2 F_Comment___eq__) := by
  obtain ⟨fd, F⟩ := c.t.d.def_ 18 (d := d18) rfl
  have F : FunD K "__eq__" "Comment.__eq__" (defArgs s18) (defBody s18) (defScope s18) ([]) ([]) (He.fAd K ("Comment", some "__eq__")) fd := F
  have nd : (["self", "other"] : List Str).Nodup := by decide +kernel
  have sc : FnScope ["self", "other"] ["self", "other"] (defScope s18) := ⟨rfl, rfl, rfl, nd, rfl, by decide +kernel, by decide +kernel⟩
  refine ⟨fd, F, fn_ok (cl := cl K) (n := 2) (nN := 2) (sm := m_Comment___eq__) F sc (by decide) rfl rfl (fun cdv A outer s H E hr =>
    ess_one (es_ret (em_and (em_isiC 1 [0, 1] (He.free_ok KX G (c.t.d.fact 0 (f := .free "isinstance") rfl)) (He.glo_ok KX G (c.t.d.fact 40 (f := .glo "Comment") rfl)) (all_at c.more 3 rfl) (allC_cons (He.cls_ok (c.t.d.fact 26 (f := .cls "Example") rfl)) (allC_cons (He.cls_ok (c.t.d.fact 34 (f := .cls "Comment") rfl)) allC_nil)) (em_var 1)) (em_one (em_cmp (op_eqA hr) ok_eq (nomark _) (em_bad) (em_bad))))))⟩
theorem f_is_prompt {h : Heap} {mg : Str → Option Value} (KX : K.In h) (G : h.Ns mainGlobals mg) (c : He.SaysX fa fn ts [] exK w h K) : ∃ fd : FuncData, FunD K "is_prompt" "is_prompt" (defArgs s19) (defBody s19) (defScope s19) ([]) ([]) (He.fAd K ("is_prompt", none)) fd ∧ FnOk P w K mg base CX0 2 (He.fAd K ("is_prompt", none)) fd ["line"] (spM K (cl K) 1 F_is_prompt) := by
  obtain ⟨fd, F⟩ := c.t.d.def_ 19 (d := d19) rfl
  have F : FunD K "is_prompt" "is_prompt" (defArgs s19) (defBody s19) (defScope s19) ([]) ([]) (He.fAd K ("is_prompt", none)) fd := F
  have nd : (["line"] : List Str).Nodup := by decide +kernel
  have sc : FnScope ["line"] ["line"] (defScope s19) := ⟨rfl, rfl, rfl, nd, rfl, by decide +kernel, by decide +kernel⟩
  refine ⟨fd, F, fn_ok (cl := cl K) (n := 1) (nN := 1) (sm := m_is_prompt) F sc (by decide) rfl rfl (fun cdv A outer s H E hr =>
    ess_one (es_ret (em_sm PySem.F.plainAttrs_str PySem.F.slot_str_startswith PySem.F.type_str_startswith mt_startswith ok_starts (em_sm PySem.F.plainAttrs_str PySem.F.slot_str_lstrip PySem.F.type_str_lstrip mt_lstripChars ok_strip (em_var 0) (ea_cons (em_str) (ea_nil))) (ea_cons (em_glob (v := .str ">>>") (glob_str (He.str_ok KX G (c.t.d.fact 41 (f := .str "PROMPT" ">>>") rfl))) (fun _ => .str _)) (ea_nil)))))⟩
theorem c_is_prompt {h : Heap} {mg : Str → Option Value} (KX : K.In h) (G : h.Ns mainGlobals mg) (c : He.SaysX fa fn ts [] exK w h K) : Cal P w K mg base (cl K) "is_prompt" 2 1 [] F_is_prompt := by
  obtain ⟨fd, F, h⟩ := f_is_prompt (P := P) (base := base) KX G c
  exact ⟨_, fd, _, [], [], h, He.glo_ok KX G (c.t.d.fact 42 (f := .glo "is_prompt") rfl), F.kp, F.bindsN (fun _ _ _ _ _ _ us hl => match us, hl with | [_], _ => rfl), .nil, fun _ => .nil⟩
theorem f_check_lines {h : Heap} {mg : Str → Option Value} (KX : K.In h) (G : h.Ns mainGlobals mg) (c : He.SaysX fa fn ts [] exK w h K) : ∃ fd : FuncData, FunD K "check_lines" "check_lines" (defArgs s20) (defBody s20) (defScope s20) ([]) ([]) (He.fAd K ("check_lines", none)) fd ∧ FnOk P w K mg base CX0 4 (He.fAd K ("check_lines", none)) fd ["lines", "begin", "middle", "end"] (spM K (cl K) 4 F_check_lines) := by
  obtain ⟨fd, F⟩ := c.t.d.def_ 20 (d := d20) rfl
  have F : FunD K "check_lines" "check_lines" (defArgs s20) (defBody s20) (defScope s20) ([]) ([]) (He.fAd K ("check_lines", none)) fd := F
  have nd : (["lines", "begin", "middle", "end", "indent", "at"] : List Str).Nodup := by decide +kernel
  have sc : FnScope ["lines", "begin", "middle", "end", "indent", "at"] ["lines", "begin", "middle", "end"] (defScope s20) := ⟨rfl, rfl, rfl, nd, rfl, by decide +kernel, by decide +kernel⟩
  refine ⟨fd, F, fn_ok (cl := cl K) (n := 4) (nN := 6) (sm := m_check_lines) F sc (by decide) rfl rfl (fun cdv A outer s H E hr =>
    ess_cons (es_set 4 nd (em_call (c_indent_of KX G c) (hr.mono (by decide)) (er_im (em_ix (em_var 0) (em_var 1)) (er_nil)) len_indent_of (an_ok (an_im an_nil') rfl))) <|
    ess_cons (es_for (t := (.one 5)) (ei_range2 (He.free_ok KX G (c.t.d.fact 22 (f := .free "range") rfl)) (ea_cons (em_var 1) (ea_cons (em_var 2) (ea_nil)))) (pg_name (i := 5) nd rfl (by first | exact Or.inl rfl | exact Or.inr rfl)) (ess_one (es_if (eb_cmp op_ninA ok_nin (by rfl) (em_sl (em_ix (em_var 0) (em_var 5)) (eo_some (em_op op_addA ok_add (em_var 4) (em_int))) (eo_some (em_op op_addA ok_add (em_var 4) (em_int)))) (em_tup (ea_cons (em_str) (ea_cons (em_str) (ea_nil))))) (ess_one (es_bad)) (ess_nil)))) <|
    ess_cons (es_for (t := (.one 5)) (ei_range2 (He.free_ok KX G (c.t.d.fact 22 (f := .free "range") rfl)) (ea_cons (em_op op_addA ok_add (em_var 1) (em_int)) (ea_cons (em_var 2) (ea_nil)))) (pg_name (i := 5) nd rfl (by first | exact Or.inl rfl | exact Or.inr rfl)) (ess_one (es_if (eb_not (eb_tru (em_sm PySem.F.plainAttrs_str PySem.F.slot_str_startswith PySem.F.type_str_startswith mt_startswith ok_starts (em_ix (em_var 0) (em_var 5)) (ea_cons (em_op op_addA ok_add (em_op op_mulA ok_mul (em_str) (em_var 4)) (em_str)) (ea_nil))))) (ess_one (es_bad)) (ess_nil)))) <|
    ess_one (es_for (t := (.one 5)) (ei_range2 (He.free_ok KX G (c.t.d.fact 22 (f := .free "range") rfl)) (ea_cons (em_var 2) (ea_cons (em_var 3) (ea_nil)))) (pg_name (i := 5) nd rfl (by first | exact Or.inl rfl | exact Or.inr rfl)) (ess_one (es_if (eb_not (eb_tru (em_sm PySem.F.plainAttrs_str PySem.F.slot_str_startswith PySem.F.type_str_startswith mt_startswith ok_starts (em_ix (em_var 0) (em_var 5)) (ea_cons (em_op op_mulA ok_mul (em_str) (em_var 4)) (ea_nil))))) (ess_one (es_bad)) (ess_nil)))))⟩
theorem c_check_lines {h : Heap} {mg : Str → Option Value} (KX : K.In h) (G : h.Ns mainGlobals mg) (c : He.SaysX fa fn ts [] exK w h K) : Cal P w K mg base (cl K) "check_lines" 4 4 [] F_check_lines := by
  obtain ⟨fd, F, h⟩ := f_check_lines (P := P) (base := base) KX G c
  exact ⟨_, fd, _, [], [], h, He.glo_ok KX G (c.t.d.fact 43 (f := .glo "check_lines") rfl), F.kp, F.bindsN (fun _ _ _ _ _ _ us hl => match us, hl with | [_, _, _, _], _ => rfl), .nil, fun _ => .nil⟩
theorem f_options_of {h : Heap} {mg : Str → Option Value} (KX : K.In h) (G : h.Ns mainGlobals mg) (c : He.SaysX fa fn ts [] exK w h K) : ∃ fd : FuncData, FunD K "options_of" "options_of" (defArgs s21) (defBody s21) (defScope s21) ([]) ([]) (He.fAd K ("options_of", none)) fd ∧ FnOk P w K mg base CX0 6 (He.fAd K ("options_of", none)) fd ["source", "line"] (spM K (cl K) 2 F_options_of) := by
  obtain ⟨fd, F⟩ := c.t.d.def_ 21 (d := d21) rfl
  have F : FunD K "options_of" "options_of" (defArgs s21) (defBody s21) (defScope s21) ([]) ([]) (He.fAd K ("options_of", none)) fd := F
  have nd : (["source", "line", "found", "word"] : List Str).Nodup := by decide +kernel
  have sc : FnScope ["source", "line", "found", "word"] ["source", "line"] (defScope s21) := ⟨rfl, rfl, rfl, nd, rfl, by decide +kernel, by decide +kernel⟩
  refine ⟨fd, F, fn_ok (cl := cl K) (n := 2) (nN := 4) (sm := m_options_of) F sc (by decide) rfl rfl (fun cdv A outer s H E hr =>
    ess_cons (es_set 2 nd (em_dict0)) <|
    ess_cons (es_for (t := (.one 3)) (ei_any (em_call (c_option_words KX G c) (hr.mono (by decide)) (er_im (em_var 0) (er_nil)) len_option_words (an_ok (an_im an_nil') rfl))) (pg_name (i := 3) nd rfl (by first | exact Or.inl rfl | exact Or.inr rfl)) (ess_cons (es_if (eb_not (eb_tru (em_call (c_is_option_word KX G c) (hr.mono (by decide)) (er_im (em_var 3) (er_nil)) len_is_option_word (an_ok (an_im an_nil') rfl)))) (ess_one (es_bad)) (ess_nil)) <|
    ess_one (es_bad))) <|
    ess_one (es_ret (em_var 2)))⟩
theorem c_options_of {h : Heap} {mg : Str → Option Value} (KX : K.In h) (G : h.Ns mainGlobals mg) (c : He.SaysX fa fn ts [] exK w h K) : Cal P w K mg base (cl K) "options_of" 6 2 [] F_options_of := by
  obtain ⟨fd, F, h⟩ := f_options_of (P := P) (base := base) KX G c
  exact ⟨_, fd, _, [], [], h, He.glo_ok KX G (c.t.d.fact 44 (f := .glo "options_of") rfl), F.kp, F.bindsN (fun _ _ _ _ _ _ us hl => match us, hl with | [_, _], _ => rfl), .nil, fun _ => .nil⟩
theorem k_Example_0 {h : Heap} {mg : Str → Option Value} (KX : K.In h) (G : h.Ns mainGlobals mg) (c : He.SaysX fa fn ts [] exK w h K) : Mkc P w K mg base (cl K) "Example" 6 7 0 2 ["error", "line", "indent", "options"] (fun ds es => ds ++ es) F_Example___init__ := by
  obtain ⟨fd, F, h⟩ := f_Example___init__ (P := P) (base := base) KX G c
  obtain ⟨its, hb⟩ := F.kbindsD (ps := ["self", "source", "want", "error", "line", "indent", "options"]) 3 ["error", "line", "indent", "options"] (fun us _ ws => us ++ ws) (fun z => nomatch z) (fun r1 _ r3 => r1.append r3) (fun T kV doc pm an cdv ct us its ws hu hi hw => match us, its, ws, hu, hi, hw with | [_, _, _], [_], [_, _, _, _], _, _, _ => ⟨_, rfl, rfl⟩)
  exact ⟨_, fd, _, _, _, He.mkr_ok (c.t.d.fact 46 (f := .mkr "Example") rfl), h, (He.glo_ok KX G (c.t.d.fact 39 (f := .glo "Example") rfl)), hb, fun I u vs zs ds es r1 r2 l1 l2 => ⟨vs ++ zs, rfl, r1.append r2, by rw [List.length_append, r1.length, r2.length, l1, l2]; rfl⟩⟩
theorem k_Comment_1 {h : Heap} {mg : Str → Option Value} (KX : K.In h) (G : h.Ns mainGlobals mg) (c : He.SaysX fa fn ts [] exK w h K) : Mkc P w K mg base (cl K) "Comment" 4 5 1 2 ["line", "indent"] (fun ds es => ds ++ es) F_Comment___init__ := by
  obtain ⟨fd, F, h⟩ := f_Comment___init__ (P := P) (base := base) KX G c
  obtain ⟨its, hb⟩ := F.kbindsD (ps := ["self", "source", "want", "line", "indent"]) 3 ["line", "indent"] (fun us _ ws => us ++ ws) (fun z => nomatch z) (fun r1 _ r3 => r1.append r3) (fun T kV doc pm an cdv ct us its ws hu hi hw => match us, its, ws, hu, hi, hw with | [_, _, _], [_], [_, _], _, _, _ => ⟨_, rfl, rfl⟩)
  exact ⟨_, fd, _, _, _, He.mkr_ok (c.t.d.fact 47 (f := .mkr "Comment") rfl), h, (He.glo_ok KX G (c.t.d.fact 40 (f := .glo "Comment") rfl)), hb, fun I u vs zs ds es r1 r2 l1 l2 => ⟨vs ++ zs, rfl, r1.append r2, by rw [List.length_append, r1.length, r2.length, l1, l2]; rfl⟩⟩
theorem f_piece_of {h : Heap} {mg : Str → Option Value} (KX : K.In h) (G : h.Ns mainGlobals mg) (c : He.SaysX fa fn ts [] exK w h K) : ∃ fd : FuncData, FunD K "piece_of" "piece_of" (defArgs s22) (defBody s22) (defScope s22) ([]) ([]) (He.fAd K ("piece_of", none)) fd ∧ FnOk P w K mg base CX0 9 (He.fAd K ("piece_of", none)) fd ["lines", "begin", "middle", "end"] (spM K (cl K) 4 F_piece_of) := by
  obtain ⟨fd, F⟩ := c.t.d.def_ 22 (d := d22) rfl
  have F : FunD K "piece_of" "piece_of" (defArgs s22) (defBody s22) (defScope s22) ([]) ([]) (He.fAd K ("piece_of", none)) fd := F
  have nd : (["lines", "begin", "middle", "end", "indent", "rows", "source", "want", "options", "line", "row"] : List Str).Nodup := by decide +kernel
  have sc : FnScope ["lines", "begin", "middle", "end", "indent", "rows", "source", "want", "options", "line", "row"] ["lines", "begin", "middle", "end"] (defScope s22) := ⟨rfl, rfl, rfl, nd, rfl, by decide +kernel, by decide +kernel⟩
  refine ⟨fd, F, fn_ok (cl := cl K) (n := 4) (nN := 11) (sm := m_piece_of) F sc (by decide) rfl rfl (fun cdv A outer s H E hr =>
    ess_cons (es_expr (em_call (c_check_lines KX G c) (hr.mono (by decide)) (er_im (em_var 0) (er_im (em_var 1) (er_im (em_var 2) (er_im (em_var 3) (er_nil))))) len_check_lines (an_ok (an_im (an_im (an_im (an_im an_nil')))) rfl))) <|
    ess_cons (es_set 4 nd (em_call (c_indent_of KX G c) (hr.mono (by decide)) (er_im (em_ix (em_var 0) (em_var 1)) (er_nil)) len_indent_of (an_ok (an_im an_nil') rfl))) <|
    ess_cons (es_lcIm 5 (own := [("line", 9)]) nd (ei_any (em_sl (em_var 0) (eo_some (em_var 1)) (eo_some (em_var 2)))) (by kernel_rfl) (fun _ _ _ _ _ => (pg_name (i := 9) nd rfl (by first | exact Or.inl rfl | exact Or.inr rfl))) (fun _ _ _ _ _ => ets_nil) (fun _ _ _ _ _ => em_sl (em_var 9) (eo_some (em_op op_addA ok_add (em_var 4) (em_int))) (eo_none)) (sw_true rfl rfl rfl (by kernel_rfl))) <|
    ess_cons (es_set 6 nd (em_sm PySem.F.plainAttrs_str PySem.F.slot_str_join PySem.F.type_str_join mt_join ok_join (em_str) (ea_cons (em_ef (ef_lc (own := [("row", 10)]) nd (ei_any (em_var 5)) (by kernel_rfl) (fun _ _ _ _ _ => (pg_name (i := 10) nd rfl (by first | exact Or.inl rfl | exact Or.inr rfl))) (fun _ _ _ _ _ => ets_nil) (fun _ _ _ _ _ => em_op op_addA ok_add (em_var 10) (em_str)))) (ea_nil)))) <|
    ess_cons (es_set 7 nd (em_sm PySem.F.plainAttrs_str PySem.F.slot_str_join PySem.F.type_str_join mt_join ok_join (em_str) (ea_cons (em_ef (ef_lc (own := [("line", 9)]) nd (ei_any (em_sl (em_var 0) (eo_some (em_var 2)) (eo_some (em_var 3)))) (by kernel_rfl) (fun _ _ _ _ _ => (pg_name (i := 9) nd rfl (by first | exact Or.inl rfl | exact Or.inr rfl))) (fun _ _ _ _ _ => ets_nil) (fun _ _ _ _ _ => em_op op_addA ok_add (em_sl (em_var 9) (eo_some (em_var 4)) (eo_none)) (em_str)))) (ea_nil)))) <|
    ess_cons (es_set 8 nd (em_call (c_options_of KX G c) (hr.mono (by decide)) (er_im (em_var 6) (er_im (em_op op_addA ok_add (em_var 1) (em_int)) (er_nil))) len_options_of (an_ok (an_im (an_im an_nil')) rfl))) <|
    ess_cons (es_if (eb_not (eb_tru (em_callB (cr_all rfl) ok_all (He.free_ok KX G (c.t.d.fact 45 (f := .free "all") rfl)) (by decide +kernel) (ea_cons (em_ef (ef_lc (own := [("row", 10)]) nd (ei_any (em_var 5)) (by kernel_rfl) (fun _ _ _ _ _ => (pg_name (i := 10) nd rfl (by first | exact Or.inl rfl | exact Or.inr rfl))) (fun _ _ _ _ _ => ets_nil) (fun _ _ _ _ _ => em_or (em_call (c_is_blank KX G c) (hr.mono (by decide)) (er_im (em_var 10) (er_nil)) len_is_blank (an_ok (an_im an_nil') rfl)) (em_one (em_sm PySem.F.plainAttrs_str PySem.F.slot_str_startswith PySem.F.type_str_startswith mt_startswith ok_starts (em_sm PySem.F.plainAttrs_str PySem.F.slot_str_lstrip PySem.F.type_str_lstrip mt_lstripChars ok_strip (em_var 10) (ea_cons (em_glob (v := .str " \t") (glob_str (He.str_ok KX G (c.t.d.fact 9 (f := .str "BLANKS" " \t") rfl))) (fun _ => .str _)) (ea_nil))) (ea_cons (em_str) (ea_nil))))))) (ea_nil))))) (ess_one (es_ret (em_make (c := 0) (ks := ["error", "line", "indent", "options"]) (k_Example_0 KX G c) (hr.mono (by decide)) (ea_cons (em_var 6) (ea_cons (em_var 7) (ea_nil))) (ek_cons (em_call (c_error_of KX G c) (hr.mono (by decide)) (er_im (em_var 7) (er_nil)) len_error_of (an_ok (an_im an_nil') rfl)) (ek_cons (em_op op_addA ok_add (em_var 1) (em_int)) (ek_cons (em_var 4) (ek_cons (em_var 8) (ek_nil)))))))) (ess_nil)) <|
    ess_cons (es_if (eb_cmp (op_neA hr) ok_ne (nomark _) (em_var 8) (em_dict0)) (ess_one (es_bad)) (ess_nil)) <|
    ess_one (es_ret (em_make (c := 1) (ks := ["line", "indent"]) (k_Comment_1 KX G c) (hr.mono (by decide)) (ea_cons (em_var 6) (ea_cons (em_var 7) (ea_nil))) (ek_cons (em_op op_addA ok_add (em_var 1) (em_int)) (ek_cons (em_var 4) (ek_nil))))))⟩
theorem c_piece_of {h : Heap} {mg : Str → Option Value} (KX : K.In h) (G : h.Ns mainGlobals mg) (c : He.SaysX fa fn ts [] exK w h K) : Cal P w K mg base (cl K) "piece_of" 9 4 [] F_piece_of := by
  obtain ⟨fd, F, h⟩ := f_piece_of (P := P) (base := base) KX G c
  exact ⟨_, fd, _, [], [], h, He.glo_ok KX G (c.t.d.fact 48 (f := .glo "piece_of") rfl), F.kp, F.bindsN (fun _ _ _ _ _ _ us hl => match us, hl with | [_, _, _, _], _ => rfl), .nil, fun _ => .nil⟩
theorem f_rows_of {h : Heap} {mg : Str → Option Value} (KX : K.In h) (G : h.Ns mainGlobals mg) (c : He.SaysX fa fn ts [] exK w h K) : ∃ fd : FuncData, FunD K "rows_of" "rows_of" (defArgs s23) (defBody s23) (defScope s23) ([]) ([]) (He.fAd K ("rows_of", none)) fd ∧ FnOk P w K mg base CX0 2 (He.fAd K ("rows_of", none)) fd ["text"] (spM K (cl K) 1 F_rows_of) := by
  obtain ⟨fd, F⟩ := c.t.d.def_ 23 (d := d23) rfl
  have F : FunD K "rows_of" "rows_of" (defArgs s23) (defBody s23) (defScope s23) ([]) ([]) (He.fAd K ("rows_of", none)) fd := F
  have nd : (["text", "parts", "part"] : List Str).Nodup := by decide +kernel
  have sc : FnScope ["text", "parts", "part"] ["text"] (defScope s23) := ⟨rfl, rfl, rfl, nd, rfl, by decide +kernel, by decide +kernel⟩
  refine ⟨fd, F, fn_ok (cl := cl K) (n := 1) (nN := 3) (sm := m_rows_of) F sc (by decide) rfl rfl (fun cdv A outer s H E hr =>
    ess_cons (es_set 1 nd (em_ef (ef_sm PySem.F.plainAttrs_str PySem.F.slot_str_split PySem.F.type_str_split mt_split okf_split (em_var 0) (ea_cons (em_str) (ea_nil))))) <|
    ess_one (es_ret (em_op op_addA ok_add (em_ef (ef_lc (own := [("part", 2)]) nd (ei_any (em_sl (em_var 1) (eo_none) (eo_some (em_neg (em_int))))) (by kernel_rfl) (fun _ _ _ _ _ => (pg_name (i := 2) nd rfl (by first | exact Or.inl rfl | exact Or.inr rfl))) (fun _ _ _ _ _ => ets_nil) (fun _ _ _ _ _ => em_op op_addA ok_add (em_var 2) (em_str)))) (em_ef (ef_lc (own := [("part", 2)]) nd (ei_any (em_sl (em_var 1) (eo_some (em_neg (em_int))) (eo_none))) (by kernel_rfl) (fun _ _ _ _ _ => (pg_name (i := 2) nd rfl (by first | exact Or.inl rfl | exact Or.inr rfl))) (fun _ _ _ _ _ => ets_one (eb_cmp (op_neA hr) ok_ne (nomark _) (em_var 2) (em_str))) (fun _ _ _ _ _ => em_var 2))))))⟩
theorem c_rows_of {h : Heap} {mg : Str → Option Value} (KX : K.In h) (G : h.Ns mainGlobals mg) (c : He.SaysX fa fn ts [] exK w h K) : Cal P w K mg base (cl K) "rows_of" 2 1 [] F_rows_of := by
  obtain ⟨fd, F, h⟩ := f_rows_of (P := P) (base := base) KX G c
  exact ⟨_, fd, _, [], [], h, He.glo_ok KX G (c.t.d.fact 49 (f := .glo "rows_of") rfl), F.kp, F.bindsN (fun _ _ _ _ _ _ us hl => match us, hl with | [_], _ => rfl), .nil, fun _ => .nil⟩
theorem q_Comment_2 {h : Heap} {mg : Str → Option Value} (KX : K.In h) (G : h.Ns mainGlobals mg) (c : He.SaysX fa fn ts [] exK w h K) : EqC P w K mg base (cl K) 2 1 F_Comment___eq__ := by
  obtain ⟨fd, F, h⟩ := f_Comment___eq__ (P := P) (base := base) KX G c
  exact eqc_of h (F.bindsN (fun _ _ _ _ _ _ us hl => match us, hl with | [_, _], _ => rfl)) (all_at c.more 4 rfl)
theorem q_Example_2 {h : Heap} {mg : Str → Option Value} (KX : K.In h) (G : h.Ns mainGlobals mg) (c : He.SaysX fa fn ts [] exK w h K) : EqC P w K mg base (cl K) 2 0 F_Example___eq__ := by
  obtain ⟨fd, F, h⟩ := f_Example___eq__ (P := P) (base := base) KX G c
  exact eqc_of h (F.bindsN (fun _ _ _ _ _ _ us hl => match us, hl with | [_, _], _ => rfl)) (all_at c.more 5 rfl)
theorem f_parsed {h : Heap} {mg : Str → Option Value} (KX : K.In h) (G : h.Ns mainGlobals mg) (c : He.SaysX fa fn ts [] exK w h K) : ∃ fd : FuncData, FunD K "parsed" "parsed" (defArgs s24) (defBody s24) (defScope s24) ([]) ([]) (He.fAd K ("parsed", none)) fd ∧ FnOk P w K mg base CX0 11 (He.fAd K ("parsed", none)) fd ["text"] (spM K (cl K) 1 F_parsed) := by
  obtain ⟨fd, F⟩ := c.t.d.def_ 24 (d := d24) rfl
  have F : FunD K "parsed" "parsed" (defArgs s24) (defBody s24) (defScope s24) ([]) ([]) (He.fAd K ("parsed", none)) fd := F
  have nd : (["text", "rows", "lines", "found", "at", "kept", "begin", "middle", "row", "piece"] : List Str).Nodup := by decide +kernel
  have sc : FnScope ["text", "rows", "lines", "found", "at", "kept", "begin", "middle", "row", "piece"] ["text"] (defScope s24) := ⟨rfl, rfl, rfl, nd, rfl, by decide +kernel, by decide +kernel⟩
  refine ⟨fd, F, fn_ok (cl := cl K) (n := 1) (nN := 10) (sm := m_parsed) F sc (by decide) rfl rfl (fun cdv A outer s H E hr =>
    ess_cons (es_set 1 nd (em_call (c_rows_of KX G c) (hr.mono (by decide)) (er_im (em_call (c_levelled KX G c) (hr.mono (by decide)) (er_im (em_var 0) (er_nil)) len_levelled (an_ok (an_im an_nil') rfl)) (er_nil)) len_rows_of (an_ok (an_im an_nil') rfl))) <|
    ess_cons (es_lcIm 2 (own := [("row", 8)]) nd (ei_any (em_var 1)) (by kernel_rfl) (fun _ _ _ _ _ => (pg_name (i := 8) nd rfl (by first | exact Or.inl rfl | exact Or.inr rfl))) (fun _ _ _ _ _ => ets_nil) (fun _ _ _ _ _ => em_if (eb_tru (em_sm PySem.F.plainAttrs_str PySem.F.slot_str_endswith PySem.F.type_str_endswith mt_endswith ok_ends (em_var 8) (ea_cons (em_str) (ea_nil)))) (em_sl (em_var 8) (eo_none) (eo_some (em_neg (em_int)))) (em_var 8)) (sw_true rfl rfl rfl (by kernel_rfl))) <|
    ess_cons (es_par3 3 4 5 nd (ep_ow (ef_lst (ea_nil)) (ep_im (em_int) (ep_im (em_int) (ep_nil))))) <|
    ess_cons (es_while 100000 (eb_cmp op_ltA ok_cmp (nomark _) (em_var 4) (em_callB call_len ok_len (He.free_ok KX G (c.t.d.fact 6 (f := .free "len") rfl)) (by decide +kernel) (ea_cons (em_var 2) (ea_nil)))) (ess_cons (es_if (eb_not (eb_tru (em_call (c_is_prompt KX G c) (hr.mono (by decide)) (er_im (em_ix (em_var 2) (em_var 4)) (er_nil)) len_is_prompt (an_ok (an_im an_nil') rfl)))) (ess_cons (es_aug 4 nd (em_int)) <|
    ess_one (es_cont)) (ess_nil)) <|
    ess_cons (es_set 6 nd (em_var 4)) <|
    ess_cons (es_aug 4 nd (em_int)) <|
    ess_cons (es_while 100000 (eb_w (ew_and (eb_cmp op_ltA ok_cmp (nomark _) (em_var 4) (em_callB call_len ok_len (He.free_ok KX G (c.t.d.fact 6 (f := .free "len") rfl)) (by decide +kernel) (ea_cons (em_var 2) (ea_nil)))) (ew_and1 (eb_tru (em_sm PySem.F.plainAttrs_str PySem.F.slot_str_startswith PySem.F.type_str_startswith mt_startswith ok_starts (em_sm PySem.F.plainAttrs_str PySem.F.slot_str_lstrip PySem.F.type_str_lstrip mt_lstripChars ok_strip (em_ix (em_var 2) (em_var 4)) (ea_cons (em_str) (ea_nil))) (ea_cons (em_glob (v := .str "...") (glob_str (He.str_ok KX G (c.t.d.fact 50 (f := .str "MORE" "...") rfl))) (fun _ => .str _)) (ea_nil))))))) (ess_one (es_aug 4 nd (em_int)))) <|
    ess_cons (es_set 7 nd (em_var 4)) <|
    ess_cons (es_while 100000 (eb_w (ew_and (eb_cmp op_ltA ok_cmp (nomark _) (em_var 4) (em_callB call_len ok_len (He.free_ok KX G (c.t.d.fact 6 (f := .free "len") rfl)) (by decide +kernel) (ea_cons (em_var 2) (ea_nil)))) (ew_and (eb_not (eb_tru (em_call (c_is_blank KX G c) (hr.mono (by decide)) (er_im (em_ix (em_var 2) (em_var 4)) (er_nil)) len_is_blank (an_ok (an_im an_nil') rfl)))) (ew_and1 (eb_not (eb_tru (em_call (c_is_prompt KX G c) (hr.mono (by decide)) (er_im (em_ix (em_var 2) (em_var 4)) (er_nil)) len_is_prompt (an_ok (an_im an_nil') rfl)))))))) (ess_one (es_aug 4 nd (em_int)))) <|
    ess_cons (es_expr (em_append 3 (em_sm PySem.F.plainAttrs_str PySem.F.slot_str_join PySem.F.type_str_join mt_join ok_join (em_str) (ea_cons (em_sl (em_var 1) (eo_some (em_var 5)) (eo_some (em_var 6))) (ea_nil))))) <|
    ess_cons (es_expr (em_append 3 (em_call (c_piece_of KX G c) (hr.mono (by decide)) (er_im (em_var 2) (er_im (em_var 6) (er_im (em_var 7) (er_im (em_var 4) (er_nil))))) len_piece_of (an_ok (an_im (an_im (an_im (an_im an_nil')))) rfl)))) <|
    ess_one (es_set 5 nd (em_var 4)))) <|
    ess_cons (es_expr (em_append 3 (em_sm PySem.F.plainAttrs_str PySem.F.slot_str_join PySem.F.type_str_join mt_join ok_join (em_str) (ea_cons (em_sl (em_var 1) (eo_some (em_var 5)) (eo_none)) (ea_nil))))) <|
    ess_one (es_ret (em_ef (ef_lc (own := [("piece", 9)]) nd (ei_any (em_var 3)) (by kernel_rfl) (fun _ _ _ _ _ => (pg_name (i := 9) nd rfl (by first | exact Or.inl rfl | exact Or.inr rfl))) (fun _ _ _ _ _ => ets_one (eb_cmp (OpR.or (op_neA hr) (op_neO (k := 2) (Fs := [(0, F_Example___eq__), (1, F_Comment___eq__)]) (allC_cons (q_Example_2 KX G c) (allC_cons (q_Comment_2 KX G c) allC_nil)) (hr.mono (by decide)))) (ok_neO ok_ne) (nomark _) (em_var 9) (em_str))) (fun _ _ _ _ _ => em_var 9)))))⟩
theorem c_parsed {h : Heap} {mg : Str → Option Value} (KX : K.In h) (G : h.Ns mainGlobals mg) (c : He.SaysX fa fn ts [] exK w h K) : Cal P w K mg base (cl K) "parsed" 11 1 [] F_parsed := by
  obtain ⟨fd, F, h⟩ := f_parsed (P := P) (base := base) KX G c
  exact ⟨_, fd, _, [], [], h, He.glo_ok KX G (c.t.d.fact 51 (f := .glo "parsed") rfl), F.kp, F.bindsN (fun _ _ _ _ _ _ us hl => match us, hl with | [_], _ => rfl), .nil, fun _ => .nil⟩
theorem f_examples_of {h : Heap} {mg : Str → Option Value} (KX : K.In h) (G : h.Ns mainGlobals mg) (c : He.SaysX fa fn ts [] exK w h K) : ∃ fd : FuncData, FunD K "examples_of" "examples_of" (defArgs s25) (defBody s25) (defScope s25) ([]) ([]) (He.fAd K ("examples_of", none)) fd ∧ FnOk P w K mg base CX0 13 (He.fAd K ("examples_of", none)) fd ["text"] (spM K (cl K) 1 F_examples_of) := by
  obtain ⟨fd, F⟩ := c.t.d.def_ 25 (d := d25) rfl
  have F : FunD K "examples_of" "examples_of" (defArgs s25) (defBody s25) (defScope s25) ([]) ([]) (He.fAd K ("examples_of", none)) fd := F
  have nd : (["text", "piece"] : List Str).Nodup := by decide +kernel
  have sc : FnScope ["text", "piece"] ["text"] (defScope s25) := ⟨rfl, rfl, rfl, nd, rfl, by decide +kernel, by decide +kernel⟩
  refine ⟨fd, F, fn_ok (cl := cl K) (n := 1) (nN := 2) (sm := m_examples_of) F sc (by decide) rfl rfl (fun cdv A outer s H E hr =>
    ess_one (es_ret (em_ef (ef_lc (own := [("piece", 1)]) nd (ei_any (em_call (c_parsed KX G c) (hr.mono (by decide)) (er_im (em_var 0) (er_nil)) len_parsed (an_ok (an_im an_nil') rfl))) (by kernel_rfl) (fun _ _ _ _ _ => (pg_name (i := 1) nd rfl (by first | exact Or.inl rfl | exact Or.inr rfl))) (fun _ _ _ _ _ => ets_one (eb_tru (em_isiC 0 [0, 1] (He.free_ok KX G (c.t.d.fact 0 (f := .free "isinstance") rfl)) (He.glo_ok KX G (c.t.d.fact 39 (f := .glo "Example") rfl)) (all_at c.more 2 rfl) (allC_cons (He.cls_ok (c.t.d.fact 26 (f := .cls "Example") rfl)) (allC_cons (He.cls_ok (c.t.d.fact 34 (f := .cls "Comment") rfl)) allC_nil)) (em_var 1)))) (fun _ _ _ _ _ => em_var 1)))))⟩
theorem c_examples_of {h : Heap} {mg : Str → Option Value} (KX : K.In h) (G : h.Ns mainGlobals mg) (c : He.SaysX fa fn ts [] exK w h K) : Cal P w K mg base (cl K) "examples_of" 13 1 [] F_examples_of := by
  obtain ⟨fd, F, h⟩ := f_examples_of (P := P) (base := base) KX G c
  exact ⟨_, fd, _, [], [], h, He.glo_ok KX G (c.t.d.fact 52 (f := .glo "examples_of") rfl), F.kp, F.bindsN (fun _ _ _ _ _ _ us hl => match us, hl with | [_], _ => rfl), .nil, fun _ => .nil⟩
theorem c_law_draws {h : Heap} {mg : Str → Option Value} (KX : K.In h) (G : h.Ns mainGlobals mg) (c : He.SaysX fa fn ts [] exK w h K) : CalDr P w K mg base "_law_draws" 2 fA fB := by
  obtain ⟨fd, F⟩ := c.t.d.def_ 26 (d := d26) rfl
  have F : FunD K "_law_draws" "_law_draws" (defArgs s26) (defBody s26) (defScope s26) [] [] (He.fAd K ("_law_draws", none)) fd := F
  have nd : (["script", "item"] : List Str).Nodup := by decide +kernel
  have sc : FnScope ["script", "item"] ["script"] (defScope s26) := ⟨rfl, rfl, rfl, nd, rfl, by decide +kernel, by decide +kernel⟩
  refine ⟨_, fd, fn_draws (cl := cl K) (m := m_law_draws) F sc (by decide) (fun cdv A outer s H E hr => pss_one (ps_ret (pe_lst (ep_ow (ef_lc (own := [("item", 1)]) nd (ei_any (em_var 0)) (by kernel_rfl) (fun _ _ _ _ _ => (pg_name (i := 1) nd rfl (by first | exact Or.inl rfl | exact Or.inr rfl))) (fun _ _ _ _ _ => ets_one (eb_cmp op_geA ok_cmp (nomark _) (em_var 1) (em_op op_pow ok_pow (em_int) (em_int)))) (fun _ _ _ _ _ => em_var 1)) (ep_im (em_int) (ep_ow (ef_lc (own := [("item", 1)]) nd (ei_any (em_var 0)) (by kernel_rfl) (fun _ _ _ _ _ => (pg_name (i := 1) nd rfl (by first | exact Or.inl rfl | exact Or.inr rfl))) (fun _ _ _ _ _ => ets_one (eb_cmp op_ltA ok_cmp (nomark _) (em_var 1) (em_op op_pow ok_pow (em_int) (em_int)))) (fun _ _ _ _ _ => em_var 1)) (ep_im (em_int) (ep_nil)))))))) mir_law_draws, He.glo_ok KX G (c.t.d.fact 53 (f := .glo "_law_draws") rfl), F.kp, F.bindsN (fun _ _ _ _ _ _ us hl => match us, hl with | [_], _ => rfl)⟩
theorem f_law_mixed {h : Heap} {mg : Str → Option Value} (KX : K.In h) (G : h.Ns mainGlobals mg) (c : He.SaysX fa fn ts [] exK w h K) : ∃ fd : FuncData, FunD K "_law_mixed" "_law_mixed" (defArgs s27) (defBody s27) (defScope s27) ([]) ([]) (He.fAd K ("_law_mixed", none)) fd ∧ FnOk P w K mg base CX0 2 (He.fAd K ("_law_mixed", none)) fd ["seed", "k"] (spM K (cl K) 2 F_law_mixed) := by
  obtain ⟨fd, F⟩ := c.t.d.def_ 27 (d := d27) rfl
  have F : FunD K "_law_mixed" "_law_mixed" (defArgs s27) (defBody s27) (defScope s27) ([]) ([]) (He.fAd K ("_law_mixed", none)) fd := F
  have nd : (["seed", "k", "first"] : List Str).Nodup := by decide +kernel
  have sc : FnScope ["seed", "k", "first"] ["seed", "k"] (defScope s27) := ⟨rfl, rfl, rfl, nd, rfl, by decide +kernel, by decide +kernel⟩
  refine ⟨fd, F, fn_ok (cl := cl K) (n := 2) (nN := 3) (sm := m_law_mixed) F sc (by decide) rfl rfl (fun cdv A outer s H E hr =>
    ess_cons (es_set 2 nd (em_op op_mod ok_mod (em_op op_pow ok_pow (em_op op_addA ok_add (em_op op_addA ok_add (em_op op_mod ok_mod (em_var 0) (em_int)) (em_op op_mulA ok_mul (em_int) (em_var 1))) (em_int)) (em_int)) (em_int))) <|
    ess_one (es_ret (em_op op_mod ok_mod (em_op op_pow ok_pow (em_op op_addA ok_add (em_op op_addA ok_add (em_op op_mulA ok_mul (em_var 2) (em_int)) (em_op op_mulA ok_mul (em_op op_mulA ok_mul (em_int) (em_var 1)) (em_var 1))) (em_int)) (em_int)) (em_int))))⟩
theorem c_law_mixed {h : Heap} {mg : Str → Option Value} (KX : K.In h) (G : h.Ns mainGlobals mg) (c : He.SaysX fa fn ts [] exK w h K) : Cal P w K mg base (cl K) "_law_mixed" 2 2 [] F_law_mixed := by
  obtain ⟨fd, F, h⟩ := f_law_mixed (P := P) (base := base) KX G c
  exact ⟨_, fd, _, [], [], h, He.glo_ok KX G (c.t.d.fact 54 (f := .glo "_law_mixed") rfl), F.kp, F.bindsN (fun _ _ _ _ _ _ us hl => match us, hl with | [_, _], _ => rfl), .nil, fun _ => .nil⟩
theorem f_law_take {h : Heap} {mg : Str → Option Value} (KX : K.In h) (G : h.Ns mainGlobals mg) (c : He.SaysX fa fn ts [] exK w h K) : ∃ fd : FuncData, FunD K "_law_take" "_law_take" (defArgs s28) (defBody s28) (defScope s28) ([]) ([]) (He.fAd K ("_law_take", none)) fd ∧ FnOk P w K mg base CX0 4 (He.fAd K ("_law_take", none)) fd ["draws", "size"] (spM K (cl K) 2 F_law_take) := by
  obtain ⟨fd, F⟩ := c.t.d.def_ 28 (d := d28) rfl
  have F : FunD K "_law_take" "_law_take" (defArgs s28) (defBody s28) (defScope s28) ([]) ([]) (He.fAd K ("_law_take", none)) fd := F
  have nd : (["draws", "size", "drawn", "seed", "reach"] : List Str).Nodup := by decide +kernel
  have sc : FnScope ["draws", "size", "drawn", "seed", "reach"] ["draws", "size"] (defScope s28) := ⟨rfl, rfl, rfl, nd, rfl, by decide +kernel, by decide +kernel⟩
  refine ⟨fd, F, fn_ok (cl := cl K) (n := 2) (nN := 5) (sm := m_law_take) F sc (by decide) rfl rfl (fun cdv A outer s H E hr =>
    ess_cons (es_dr 0 3 (em_op op_addA ok_add (em_dr 0 3) (em_int))) <|
    ess_cons (es_if (eb_w (ew_and (eb_cmp (op_eqA hr) ok_eq (nomark _) (em_dr 0 1) (em_int)) (ew_and1 (eb_drNe 0 0 hr)))) (ess_one (es_dr 0 1 (em_drPop 0))) (ess_nil)) <|
    ess_cons (es_if (eb_cmp op_gtA ok_cmp (nomark _) (em_dr 0 1) (em_int)) (ess_cons (es_set 2 nd (em_op op_mod ok_mod (em_dr 0 1) (em_var 1))) <|
    ess_cons (es_dr 0 1 (em_op op_fdiv ok_fdiv (em_dr 0 1) (em_var 1))) <|
    ess_one (es_ret (em_var 2))) (ess_nil)) <|
    ess_cons (es_set 3 nd (em_int)) <|
    ess_cons (es_if (eb_drNe 0 2 hr) (ess_one (es_set 3 nd (em_drSeed' 0 (He.free_ok KX G (c.t.d.fact 6 (f := .free "len") rfl))))) (ess_nil)) <|
    ess_cons (es_set 2 nd (em_int)) <|
    ess_cons (es_set 4 nd (em_int)) <|
    ess_cons (es_while 3 (eb_cmp op_ltA ok_cmp (nomark _) (em_var 4) (em_var 1)) (ess_cons (es_set 2 nd (em_op op_addA ok_add (em_op op_mulA ok_mul (em_var 2) (em_int)) (em_call (c_law_mixed KX G c) (hr.mono (by decide)) (er_im (em_var 3) (er_im (em_op op_addA ok_add (em_dr 0 3) (em_op op_mulA ok_mul (em_int) (em_op op_mod ok_mod (em_var 2) (em_int)))) (er_nil))) len_law_mixed (an_ok (an_im (an_im an_nil')) rfl)))) <|
    ess_one (es_set 4 nd (em_op op_mulA ok_mul (em_var 4) (em_int))))) <|
    ess_one (es_ret (em_op op_mod ok_mod (em_var 2) (em_var 1))))⟩
theorem c_law_take {h : Heap} {mg : Str → Option Value} (KX : K.In h) (G : h.Ns mainGlobals mg) (c : He.SaysX fa fn ts [] exK w h K) : Cal P w K mg base (cl K) "_law_take" 4 2 [] F_law_take := by
  obtain ⟨fd, F, h⟩ := f_law_take (P := P) (base := base) KX G c
  exact ⟨_, fd, _, [], [], h, He.glo_ok KX G (c.t.d.fact 55 (f := .glo "_law_take") rfl), F.kp, F.bindsN (fun _ _ _ _ _ _ us hl => match us, hl with | [_, _], _ => rfl), .nil, fun _ => .nil⟩
theorem f_law_same_r0 {h : Heap} {mg : Str → Option Value} (KX : K.In h) (G : h.Ns mainGlobals mg) (c : He.SaysX fa fn ts [] exK w h K) : ∃ fd : FuncData, FunD K "_law_same" "_law_same" (defArgs s29) (defBody s29) (defScope s29) ([]) ([]) (He.fAd K ("_law_same", none)) fd ∧ FnOk P w K mg base CX0 2 (He.fAd K ("_law_same", none)) fd ["found", "due"] (spM K (cl K) 2 F_law_same_r0) := by
  obtain ⟨fd, F⟩ := c.t.d.def_ 29 (d := d29) rfl
  have F : FunD K "_law_same" "_law_same" (defArgs s29) (defBody s29) (defScope s29) ([]) ([]) (He.fAd K ("_law_same", none)) fd := F
  have nd : (["found", "due", "one", "two"] : List Str).Nodup := by decide +kernel
  have sc : FnScope ["found", "due", "one", "two"] ["found", "due"] (defScope s29) := ⟨rfl, rfl, rfl, nd, rfl, by decide +kernel, by decide +kernel⟩
  refine ⟨fd, F, fn_ok (cl := cl K) (n := 2) (nN := 4) (sm := m_law_same_r0) F sc (by decide) rfl rfl (fun cdv A outer s H E hr =>
    ess_cons (es_if (eb_tru (em_isiT "list" "tuple" (He.free_ok KX G (c.t.d.fact 0 (f := .free "isinstance") rfl)) (He.free_ok KX G (c.t.d.fact 2 (f := .free "list") rfl)) (He.free_ok KX G (c.t.d.fact 3 (f := .free "tuple") rfl)) (em_var 1))) (ess_cons (es_if (eb_w (ew_or (eb_cmp (op_neA hr) ok_ne (nomark _) (em_isi "list" (He.free_ok KX G (c.t.d.fact 0 (f := .free "isinstance") rfl)) (He.free_ok KX G (c.t.d.fact 2 (f := .free "list") rfl)) (em_var 0)) (em_isi "list" (He.free_ok KX G (c.t.d.fact 0 (f := .free "isinstance") rfl)) (He.free_ok KX G (c.t.d.fact 2 (f := .free "list") rfl)) (em_var 1))) (ew_or1 (eb_cmp (op_neA hr) ok_ne (nomark _) (em_isi "tuple" (He.free_ok KX G (c.t.d.fact 0 (f := .free "isinstance") rfl)) (He.free_ok KX G (c.t.d.fact 3 (f := .free "tuple") rfl)) (em_var 0)) (em_isi "tuple" (He.free_ok KX G (c.t.d.fact 0 (f := .free "isinstance") rfl)) (He.free_ok KX G (c.t.d.fact 3 (f := .free "tuple") rfl)) (em_var 1)))))) (ess_one (es_ret (em_bl))) (ess_nil)) <|
    ess_one (es_ret (em_and (em_cmp (op_eqA hr) ok_eq (nomark _) (em_callB call_len ok_len (He.free_ok KX G (c.t.d.fact 6 (f := .free "len") rfl)) (by decide +kernel) (ea_cons (em_var 0) (ea_nil))) (em_callB call_len ok_len (He.free_ok KX G (c.t.d.fact 6 (f := .free "len") rfl)) (by decide +kernel) (ea_cons (em_var 1) (ea_nil)))) (em_one (em_callB (cr_all rfl) ok_all (He.free_ok KX G (c.t.d.fact 45 (f := .free "all") rfl)) (by decide +kernel) (ea_cons (em_ef (ef_lc (own := [("one", 2), ("two", 3)]) nd (ei_zip (He.free_ok KX G (c.t.d.fact 56 (f := .free "zip") rfl)) (ea_cons (em_var 0) (ea_cons (em_var 1) (ea_nil)))) (by kernel_rfl) (fun _ _ _ _ _ => (pg_tup (by rfl) (pgs_cons (pg_name (i := 2) nd rfl (by first | exact Or.inl rfl | exact Or.inr rfl)) (pgs_cons (pg_name (i := 3) nd rfl (by first | exact Or.inl rfl | exact Or.inr rfl)) pgs_nil)))) (fun _ _ _ _ _ => ets_nil) (fun _ _ _ _ _ => em_bad))) (ea_nil))))))) (ess_nil)) <|
    ess_cons (es_if (eb_tru (em_isiT "bool" "int" (He.free_ok KX G (c.t.d.fact 0 (f := .free "isinstance") rfl)) (He.free_ok KX G (c.t.d.fact 57 (f := .free "bool") rfl)) (He.free_ok KX G (c.t.d.fact 58 (f := .free "int") rfl)) (em_var 1))) (ess_one (es_ret (em_and (em_isi "int" (He.free_ok KX G (c.t.d.fact 0 (f := .free "isinstance") rfl)) (He.free_ok KX G (c.t.d.fact 58 (f := .free "int") rfl)) (em_var 0)) (em_and (em_cmp (op_eqA hr) ok_eq (nomark _) (em_isi "bool" (He.free_ok KX G (c.t.d.fact 0 (f := .free "isinstance") rfl)) (He.free_ok KX G (c.t.d.fact 57 (f := .free "bool") rfl)) (em_var 0)) (em_isi "bool" (He.free_ok KX G (c.t.d.fact 0 (f := .free "isinstance") rfl)) (He.free_ok KX G (c.t.d.fact 57 (f := .free "bool") rfl)) (em_var 1))) (em_one (em_cmp (op_eqA hr) ok_eq (nomark _) (em_var 0) (em_var 1))))))) (ess_nil)) <|
    ess_one (es_ret (em_and (em_cmp op_isBl ok_isB (by rfl) (em_isi "bool" (He.free_ok KX G (c.t.d.fact 0 (f := .free "isinstance") rfl)) (He.free_ok KX G (c.t.d.fact 57 (f := .free "bool") rfl)) (em_var 0)) (em_bl)) (em_one (em_cmp (op_eqA hr) ok_eq (nomark _) (em_var 0) (em_var 1))))))⟩
theorem c_law_same_r0 {h : Heap} {mg : Str → Option Value} (KX : K.In h) (G : h.Ns mainGlobals mg) (c : He.SaysX fa fn ts [] exK w h K) : Cal P w K mg base (cl K) "_law_same" 2 2 [] F_law_same_r0 := by
  obtain ⟨fd, F, h⟩ := f_law_same_r0 (P := P) (base := base) KX G c
  exact ⟨_, fd, _, [], [], h, He.glo_ok KX G (c.t.d.fact 59 (f := .glo "_law_same") rfl), F.kp, F.bindsN (fun _ _ _ _ _ _ us hl => match us, hl with | [_, _], _ => rfl), .nil, fun _ => .nil⟩
theorem f_law_same_r1 {h : Heap} {mg : Str → Option Value} (KX : K.In h) (G : h.Ns mainGlobals mg) (c : He.SaysX fa fn ts [] exK w h K) : ∃ fd : FuncData, FunD K "_law_same" "_law_same" (defArgs s29) (defBody s29) (defScope s29) ([]) ([]) (He.fAd K ("_law_same", none)) fd ∧ FnOk P w K mg base CX0 4 (He.fAd K ("_law_same", none)) fd ["found", "due"] (spM K (cl K) 2 F_law_same_r1) := by
  obtain ⟨fd, F⟩ := c.t.d.def_ 29 (d := d29) rfl
  have F : FunD K "_law_same" "_law_same" (defArgs s29) (defBody s29) (defScope s29) ([]) ([]) (He.fAd K ("_law_same", none)) fd := F
  have nd : (["found", "due", "one", "two"] : List Str).Nodup := by decide +kernel
  have sc : FnScope ["found", "due", "one", "two"] ["found", "due"] (defScope s29) := ⟨rfl, rfl, rfl, nd, rfl, by decide +kernel, by decide +kernel⟩
  refine ⟨fd, F, fn_ok (cl := cl K) (n := 2) (nN := 4) (sm := m_law_same_r1) F sc (by decide) rfl rfl (fun cdv A outer s H E hr =>
    ess_cons (es_if (eb_tru (em_isiT "list" "tuple" (He.free_ok KX G (c.t.d.fact 0 (f := .free "isinstance") rfl)) (He.free_ok KX G (c.t.d.fact 2 (f := .free "list") rfl)) (He.free_ok KX G (c.t.d.fact 3 (f := .free "tuple") rfl)) (em_var 1))) (ess_cons (es_if (eb_w (ew_or (eb_cmp (op_neA hr) ok_ne (nomark _) (em_isi "list" (He.free_ok KX G (c.t.d.fact 0 (f := .free "isinstance") rfl)) (He.free_ok KX G (c.t.d.fact 2 (f := .free "list") rfl)) (em_var 0)) (em_isi "list" (He.free_ok KX G (c.t.d.fact 0 (f := .free "isinstance") rfl)) (He.free_ok KX G (c.t.d.fact 2 (f := .free "list") rfl)) (em_var 1))) (ew_or1 (eb_cmp (op_neA hr) ok_ne (nomark _) (em_isi "tuple" (He.free_ok KX G (c.t.d.fact 0 (f := .free "isinstance") rfl)) (He.free_ok KX G (c.t.d.fact 3 (f := .free "tuple") rfl)) (em_var 0)) (em_isi "tuple" (He.free_ok KX G (c.t.d.fact 0 (f := .free "isinstance") rfl)) (He.free_ok KX G (c.t.d.fact 3 (f := .free "tuple") rfl)) (em_var 1)))))) (ess_one (es_ret (em_bl))) (ess_nil)) <|
    ess_one (es_ret (em_and (em_cmp (op_eqA hr) ok_eq (nomark _) (em_callB call_len ok_len (He.free_ok KX G (c.t.d.fact 6 (f := .free "len") rfl)) (by decide +kernel) (ea_cons (em_var 0) (ea_nil))) (em_callB call_len ok_len (He.free_ok KX G (c.t.d.fact 6 (f := .free "len") rfl)) (by decide +kernel) (ea_cons (em_var 1) (ea_nil)))) (em_one (em_callB (cr_all rfl) ok_all (He.free_ok KX G (c.t.d.fact 45 (f := .free "all") rfl)) (by decide +kernel) (ea_cons (em_ef (ef_lc (own := [("one", 2), ("two", 3)]) nd (ei_zip (He.free_ok KX G (c.t.d.fact 56 (f := .free "zip") rfl)) (ea_cons (em_var 0) (ea_cons (em_var 1) (ea_nil)))) (by kernel_rfl) (fun _ _ _ _ _ => (pg_tup (by rfl) (pgs_cons (pg_name (i := 2) nd rfl (by first | exact Or.inl rfl | exact Or.inr rfl)) (pgs_cons (pg_name (i := 3) nd rfl (by first | exact Or.inl rfl | exact Or.inr rfl)) pgs_nil)))) (fun _ _ _ _ _ => ets_nil) (fun _ _ _ _ _ => em_call (c_law_same_r0 KX G c) (hr.mono (by decide)) (er_im (em_var 2) (er_im (em_var 3) (er_nil))) len_law_same_r0 (an_ok (an_im (an_im an_nil')) rfl)))) (ea_nil))))))) (ess_nil)) <|
    ess_cons (es_if (eb_tru (em_isiT "bool" "int" (He.free_ok KX G (c.t.d.fact 0 (f := .free "isinstance") rfl)) (He.free_ok KX G (c.t.d.fact 57 (f := .free "bool") rfl)) (He.free_ok KX G (c.t.d.fact 58 (f := .free "int") rfl)) (em_var 1))) (ess_one (es_ret (em_and (em_isi "int" (He.free_ok KX G (c.t.d.fact 0 (f := .free "isinstance") rfl)) (He.free_ok KX G (c.t.d.fact 58 (f := .free "int") rfl)) (em_var 0)) (em_and (em_cmp (op_eqA hr) ok_eq (nomark _) (em_isi "bool" (He.free_ok KX G (c.t.d.fact 0 (f := .free "isinstance") rfl)) (He.free_ok KX G (c.t.d.fact 57 (f := .free "bool") rfl)) (em_var 0)) (em_isi "bool" (He.free_ok KX G (c.t.d.fact 0 (f := .free "isinstance") rfl)) (He.free_ok KX G (c.t.d.fact 57 (f := .free "bool") rfl)) (em_var 1))) (em_one (em_cmp (op_eqA hr) ok_eq (nomark _) (em_var 0) (em_var 1))))))) (ess_nil)) <|
    ess_one (es_ret (em_and (em_cmp op_isBl ok_isB (by rfl) (em_isi "bool" (He.free_ok KX G (c.t.d.fact 0 (f := .free "isinstance") rfl)) (He.free_ok KX G (c.t.d.fact 57 (f := .free "bool") rfl)) (em_var 0)) (em_bl)) (em_one (em_cmp (op_eqA hr) ok_eq (nomark _) (em_var 0) (em_var 1))))))⟩
theorem c_law_same_r1 {h : Heap} {mg : Str → Option Value} (KX : K.In h) (G : h.Ns mainGlobals mg) (c : He.SaysX fa fn ts [] exK w h K) : Cal P w K mg base (cl K) "_law_same" 4 2 [] F_law_same_r1 := by
  obtain ⟨fd, F, h⟩ := f_law_same_r1 (P := P) (base := base) KX G c
  exact ⟨_, fd, _, [], [], h, He.glo_ok KX G (c.t.d.fact 59 (f := .glo "_law_same") rfl), F.kp, F.bindsN (fun _ _ _ _ _ _ us hl => match us, hl with | [_, _], _ => rfl), .nil, fun _ => .nil⟩
theorem f_law_same {h : Heap} {mg : Str → Option Value} (KX : K.In h) (G : h.Ns mainGlobals mg) (c : He.SaysX fa fn ts [] exK w h K) : ∃ fd : FuncData, FunD K "_law_same" "_law_same" (defArgs s29) (defBody s29) (defScope s29) ([]) ([]) (He.fAd K ("_law_same", none)) fd ∧ FnOk P w K mg base CX0 6 (He.fAd K ("_law_same", none)) fd ["found", "due"] (spM K (cl K) 2 F_law_same) := by
  obtain ⟨fd, F⟩ := c.t.d.def_ 29 (d := d29) rfl
  have F : FunD K "_law_same" "_law_same" (defArgs s29) (defBody s29) (defScope s29) ([]) ([]) (He.fAd K ("_law_same", none)) fd := F
  have nd : (["found", "due", "one", "two"] : List Str).Nodup := by decide +kernel
  have sc : FnScope ["found", "due", "one", "two"] ["found", "due"] (defScope s29) := ⟨rfl, rfl, rfl, nd, rfl, by decide +kernel, by decide +kernel⟩
  refine ⟨fd, F, fn_ok (cl := cl K) (n := 2) (nN := 4) (sm := m_law_same) F sc (by decide) rfl rfl (fun cdv A outer s H E hr =>
    ess_cons (es_if (eb_tru (em_isiT "list" "tuple" (He.free_ok KX G (c.t.d.fact 0 (f := .free "isinstance") rfl)) (He.free_ok KX G (c.t.d.fact 2 (f := .free "list") rfl)) (He.free_ok KX G (c.t.d.fact 3 (f := .free "tuple") rfl)) (em_var 1))) (ess_cons (es_if (eb_w (ew_or (eb_cmp (op_neA hr) ok_ne (nomark _) (em_isi "list" (He.free_ok KX G (c.t.d.fact 0 (f := .free "isinstance") rfl)) (He.free_ok KX G (c.t.d.fact 2 (f := .free "list") rfl)) (em_var 0)) (em_isi "list" (He.free_ok KX G (c.t.d.fact 0 (f := .free "isinstance") rfl)) (He.free_ok KX G (c.t.d.fact 2 (f := .free "list") rfl)) (em_var 1))) (ew_or1 (eb_cmp (op_neA hr) ok_ne (nomark _) (em_isi "tuple" (He.free_ok KX G (c.t.d.fact 0 (f := .free "isinstance") rfl)) (He.free_ok KX G (c.t.d.fact 3 (f := .free "tuple") rfl)) (em_var 0)) (em_isi "tuple" (He.free_ok KX G (c.t.d.fact 0 (f := .free "isinstance") rfl)) (He.free_ok KX G (c.t.d.fact 3 (f := .free "tuple") rfl)) (em_var 1)))))) (ess_one (es_ret (em_bl))) (ess_nil)) <|
    ess_one (es_ret (em_and (em_cmp (op_eqA hr) ok_eq (nomark _) (em_callB call_len ok_len (He.free_ok KX G (c.t.d.fact 6 (f := .free "len") rfl)) (by decide +kernel) (ea_cons (em_var 0) (ea_nil))) (em_callB call_len ok_len (He.free_ok KX G (c.t.d.fact 6 (f := .free "len") rfl)) (by decide +kernel) (ea_cons (em_var 1) (ea_nil)))) (em_one (em_callB (cr_all rfl) ok_all (He.free_ok KX G (c.t.d.fact 45 (f := .free "all") rfl)) (by decide +kernel) (ea_cons (em_ef (ef_lc (own := [("one", 2), ("two", 3)]) nd (ei_zip (He.free_ok KX G (c.t.d.fact 56 (f := .free "zip") rfl)) (ea_cons (em_var 0) (ea_cons (em_var 1) (ea_nil)))) (by kernel_rfl) (fun _ _ _ _ _ => (pg_tup (by rfl) (pgs_cons (pg_name (i := 2) nd rfl (by first | exact Or.inl rfl | exact Or.inr rfl)) (pgs_cons (pg_name (i := 3) nd rfl (by first | exact Or.inl rfl | exact Or.inr rfl)) pgs_nil)))) (fun _ _ _ _ _ => ets_nil) (fun _ _ _ _ _ => em_call (c_law_same_r1 KX G c) (hr.mono (by decide)) (er_im (em_var 2) (er_im (em_var 3) (er_nil))) len_law_same_r1 (an_ok (an_im (an_im an_nil')) rfl)))) (ea_nil))))))) (ess_nil)) <|
    ess_cons (es_if (eb_tru (em_isiT "bool" "int" (He.free_ok KX G (c.t.d.fact 0 (f := .free "isinstance") rfl)) (He.free_ok KX G (c.t.d.fact 57 (f := .free "bool") rfl)) (He.free_ok KX G (c.t.d.fact 58 (f := .free "int") rfl)) (em_var 1))) (ess_one (es_ret (em_and (em_isi "int" (He.free_ok KX G (c.t.d.fact 0 (f := .free "isinstance") rfl)) (He.free_ok KX G (c.t.d.fact 58 (f := .free "int") rfl)) (em_var 0)) (em_and (em_cmp (op_eqA hr) ok_eq (nomark _) (em_isi "bool" (He.free_ok KX G (c.t.d.fact 0 (f := .free "isinstance") rfl)) (He.free_ok KX G (c.t.d.fact 57 (f := .free "bool") rfl)) (em_var 0)) (em_isi "bool" (He.free_ok KX G (c.t.d.fact 0 (f := .free "isinstance") rfl)) (He.free_ok KX G (c.t.d.fact 57 (f := .free "bool") rfl)) (em_var 1))) (em_one (em_cmp (op_eqA hr) ok_eq (nomark _) (em_var 0) (em_var 1))))))) (ess_nil)) <|
    ess_one (es_ret (em_and (em_cmp op_isBl ok_isB (by rfl) (em_isi "bool" (He.free_ok KX G (c.t.d.fact 0 (f := .free "isinstance") rfl)) (He.free_ok KX G (c.t.d.fact 57 (f := .free "bool") rfl)) (em_var 0)) (em_bl)) (em_one (em_cmp (op_eqA hr) ok_eq (nomark _) (em_var 0) (em_var 1))))))⟩
theorem c_law_same {h : Heap} {mg : Str → Option Value} (KX : K.In h) (G : h.Ns mainGlobals mg) (c : He.SaysX fa fn ts [] exK w h K) : Cal P w K mg base (cl K) "_law_same" 6 2 [] F_law_same := by
  obtain ⟨fd, F, h⟩ := f_law_same (P := P) (base := base) KX G c
  exact ⟨_, fd, _, [], [], h, He.glo_ok KX G (c.t.d.fact 59 (f := .glo "_law_same") rfl), F.kp, F.bindsN (fun _ _ _ _ _ _ us hl => match us, hl with | [_, _], _ => rfl), .nil, fun _ => .nil⟩
theorem f_law_pick {h : Heap} {mg : Str → Option Value} (KX : K.In h) (G : h.Ns mainGlobals mg) (c : He.SaysX fa fn ts [] exK w h K) : ∃ fd : FuncData, FunD K "_law_pick" "_law_pick" (defArgs s30) (defBody s30) (defScope s30) ([]) ([]) (He.fAd K ("_law_pick", none)) fd ∧ FnOk P w K mg base CX0 6 (He.fAd K ("_law_pick", none)) fd ["draws", "things"] (spM K (cl K) 2 F_law_pick) := by
  obtain ⟨fd, F⟩ := c.t.d.def_ 30 (d := d30) rfl
  have F : FunD K "_law_pick" "_law_pick" (defArgs s30) (defBody s30) (defScope s30) ([]) ([]) (He.fAd K ("_law_pick", none)) fd := F
  have nd : (["draws", "things"] : List Str).Nodup := by decide +kernel
  have sc : FnScope ["draws", "things"] ["draws", "things"] (defScope s30) := ⟨rfl, rfl, rfl, nd, rfl, by decide +kernel, by decide +kernel⟩
  refine ⟨fd, F, fn_ok (cl := cl K) (n := 2) (nN := 2) (sm := m_law_pick) F sc (by decide) rfl rfl (fun cdv A outer s H E hr =>
    ess_one (es_ret (em_ix (em_var 1) (em_call (c_law_take KX G c) (hr.mono (by decide)) (er_sl 0 (er_im (em_callB call_len ok_len (He.free_ok KX G (c.t.d.fact 6 (f := .free "len") rfl)) (by decide +kernel) (ea_cons (em_var 1) (ea_nil))) (er_nil))) len_law_take (an_ok (an_sl (an_im an_nil')) rfl)))))⟩
theorem c_law_pick {h : Heap} {mg : Str → Option Value} (KX : K.In h) (G : h.Ns mainGlobals mg) (c : He.SaysX fa fn ts [] exK w h K) : Cal P w K mg base (cl K) "_law_pick" 6 2 [] F_law_pick := by
  obtain ⟨fd, F, h⟩ := f_law_pick (P := P) (base := base) KX G c
  exact ⟨_, fd, _, [], [], h, He.glo_ok KX G (c.t.d.fact 60 (f := .glo "_law_pick") rfl), F.kp, F.bindsN (fun _ _ _ _ _ _ us hl => match us, hl with | [_, _], _ => rfl), .nil, fun _ => .nil⟩
theorem f_law_error {h : Heap} {mg : Str → Option Value} (KX : K.In h) (G : h.Ns mainGlobals mg) (c : He.SaysX fa fn ts [] exK w h K) : ∃ fd : FuncData, FunD K "_law_error" "_law_error" (defArgs s31) (defBody s31) (defScope s31) ([]) ([]) (He.fAd K ("_law_error", none)) fd ∧ FnOk P w K mg base CX0 2 (He.fAd K ("_law_error", none)) fd ["lines"] (spM K (cl K) 1 F_law_error) := by
  obtain ⟨fd, F⟩ := c.t.d.def_ 31 (d := d31) rfl
  have F : FunD K "_law_error" "_law_error" (defArgs s31) (defBody s31) (defScope s31) ([]) ([]) (He.fAd K ("_law_error", none)) fd := F
  have nd : (["lines", "heads", "at", "each"] : List Str).Nodup := by decide +kernel
  have sc : FnScope ["lines", "heads", "at", "each"] ["lines"] (defScope s31) := ⟨rfl, rfl, rfl, nd, rfl, by decide +kernel, by decide +kernel⟩
  refine ⟨fd, F, fn_ok (cl := cl K) (n := 1) (nN := 4) (sm := m_law_error) F sc (by decide) rfl rfl (fun cdv A outer s H E hr =>
    ess_cons (es_set 1 nd (em_tup (ea_cons (em_str) (ea_cons (em_str) (ea_nil))))) <|
    ess_cons (es_if (eb_w (ew_or (eb_cmp (op_eqA hr) ok_eq (nomark _) (em_var 0) (em_ef (ef_lst (ea_nil)))) (ew_or1 (eb_cmp op_ninA ok_nin (by rfl) (em_sm PySem.F.plainAttrs_str PySem.F.slot_str_rstrip PySem.F.type_str_rstrip mt_rstripChars ok_strip (em_ix (em_var 0) (em_int)) (ea_cons (em_str) (ea_nil))) (em_var 1))))) (ess_one (es_ret (em_non))) (ess_nil)) <|
    ess_cons (es_for (t := (.one 2)) (ei_range2 (He.free_ok KX G (c.t.d.fact 22 (f := .free "range") rfl)) (ea_cons (em_int) (ea_cons (em_callB call_len ok_len (He.free_ok KX G (c.t.d.fact 6 (f := .free "len") rfl)) (by decide +kernel) (ea_cons (em_var 0) (ea_nil))) (ea_nil)))) (pg_name (i := 2) nd rfl (by first | exact Or.inl rfl | exact Or.inr rfl)) (ess_one (es_if (eb_w (ew_or (eb_tru (em_sm0 PySem.F.plainAttrs_str PySem.F.slot_str_isalnum PySem.F.type_str_isalnum mt_isalnum ok_alnum (em_sl (em_ix (em_var 0) (em_var 2)) (eo_none) (eo_some (em_int))))) (ew_or1 (eb_cmp (op_eqA hr) ok_eq (nomark _) (em_sl (em_ix (em_var 0) (em_var 2)) (eo_none) (eo_some (em_int))) (em_str))))) (ess_one (es_ret (em_sm PySem.F.plainAttrs_str PySem.F.slot_str_join PySem.F.type_str_join mt_join ok_join (em_str) (ea_cons (em_ef (ef_lc (own := [("each", 3)]) nd (ei_any (em_sl (em_var 0) (eo_some (em_var 2)) (eo_none))) (by kernel_rfl) (fun _ _ _ _ _ => (pg_name (i := 3) nd rfl (by first | exact Or.inl rfl | exact Or.inr rfl))) (fun _ _ _ _ _ => ets_nil) (fun _ _ _ _ _ => em_op op_addA ok_add (em_var 3) (em_str)))) (ea_nil))))) (ess_nil)))) <|
    ess_one (es_ret (em_non)))⟩
theorem c_law_error {h : Heap} {mg : Str → Option Value} (KX : K.In h) (G : h.Ns mainGlobals mg) (c : He.SaysX fa fn ts [] exK w h K) : Cal P w K mg base (cl K) "_law_error" 2 1 [] F_law_error := by
  obtain ⟨fd, F, h⟩ := f_law_error (P := P) (base := base) KX G c
  exact ⟨_, fd, _, [], [], h, He.glo_ok KX G (c.t.d.fact 61 (f := .glo "_law_error") rfl), F.kp, F.bindsN (fun _ _ _ _ _ _ us hl => match us, hl with | [_], _ => rfl), .nil, fun _ => .nil⟩
theorem f_law_head {h : Heap} {mg : Str → Option Value} (KX : K.In h) (G : h.Ns mainGlobals mg) (c : He.SaysX fa fn ts [] exK w h K) : ∃ fd : FuncData, FunD K "_law_head" "_law_head" (defArgs s32) (defBody s32) (defScope s32) ([]) ([]) (He.fAd K ("_law_head", none)) fd ∧ FnOk P w K mg base CX0 8 (He.fAd K ("_law_head", none)) fd ["draws"] (spM K (cl K) 1 F_law_head) := by
  obtain ⟨fd, F⟩ := c.t.d.def_ 32 (d := d32) rfl
  have F : FunD K "_law_head" "_law_head" (defArgs s32) (defBody s32) (defScope s32) ([]) ([]) (He.fAd K ("_law_head", none)) fd := F
  have nd : (["draws", "heads", "some"] : List Str).Nodup := by decide +kernel
  have sc : FnScope ["draws", "heads", "some"] ["draws"] (defScope s32) := ⟨rfl, rfl, rfl, nd, rfl, by decide +kernel, by decide +kernel⟩
  refine ⟨fd, F, fn_ok (cl := cl K) (n := 1) (nN := 3) (sm := m_law_head) F sc (by decide) rfl rfl (fun cdv A outer s H E hr =>
    ess_cons (es_set 1 nd (em_ef (ef_lst (ea_cons (em_str) (ea_cons (em_str) (ea_nil)))))) <|
    ess_cons (es_set 2 nd (em_ef (ef_lst (ea_cons (em_op op_addA ok_add (em_ix (em_var 1) (em_int)) (em_str)) (ea_cons (em_op op_addA ok_add (em_ix (em_var 1) (em_int)) (em_str)) (ea_cons (em_op op_addA ok_add (em_str) (em_ix (em_var 1) (em_int))) (ea_cons (em_sl (em_ix (em_var 1) (em_int)) (eo_none) (eo_some (em_neg (em_int)))) (ea_cons (em_op op_addA ok_add (em_ix (em_var 1) (em_int)) (em_str)) (ea_cons (em_op op_addA ok_add (em_ix (em_var 1) (em_int)) (em_str)) (ea_nil)))))))))) <|
    ess_one (es_ret (em_call (c_law_pick KX G c) (hr.mono (by decide)) (er_sl 0 (er_im (em_op op_addA ok_add (em_op op_addA ok_add (em_ef (ef_op op_rep okf_mul (em_var 1) (em_int))) (em_var 2)) (em_ef (ef_lst (ea_cons (em_str) (ea_cons (em_str) (ea_cons (em_op op_addA ok_add (em_ix (em_var 1) (em_int)) (em_str)) (ea_nil))))))) (er_nil))) len_law_pick (an_ok (an_sl (an_im an_nil')) rfl))))⟩
theorem c_law_head {h : Heap} {mg : Str → Option Value} (KX : K.In h) (G : h.Ns mainGlobals mg) (c : He.SaysX fa fn ts [] exK w h K) : Cal P w K mg base (cl K) "_law_head" 8 1 [] F_law_head := by
  obtain ⟨fd, F, h⟩ := f_law_head (P := P) (base := base) KX G c
  exact ⟨_, fd, _, [], [], h, He.glo_ok KX G (c.t.d.fact 62 (f := .glo "_law_head") rfl), F.kp, F.bindsN (fun _ _ _ _ _ _ us hl => match us, hl with | [_], _ => rfl), .nil, fun _ => .nil⟩
theorem f_law {h : Heap} {mg : Str → Option Value} (KX : K.In h) (G : h.Ns mainGlobals mg) (c : He.SaysX fa fn ts [] exK w h K) : ∃ fd : FuncData, FunD K "law" "law" (defArgs s33) (defBody s33) (defScope s33) ([]) ([]) (He.fAd K ("law", none)) fd ∧ FnOk P w K mg base CX0 15 (He.fAd K ("law", none)) fd ["script"] (spM K (cl K) 1 F_law) := by
  obtain ⟨fd, F⟩ := c.t.d.def_ 33 (d := d33) rfl
  have F : FunD K "law" "law" (defArgs s33) (defBody s33) (defScope s33) ([]) ([]) (He.fAd K ("law", none)) fd := F
  have nd : (["script", "draws", "turn", "lines", "k", "end", "want", "some", "due", "found", "line", "one"] : List Str).Nodup := by decide +kernel
  have sc : FnScope ["script", "draws", "turn", "lines", "k", "end", "want", "some", "due", "found", "line", "one"] ["script"] (defScope s33) := ⟨rfl, rfl, rfl, nd, rfl, by decide +kernel, by decide +kernel⟩
  refine ⟨fd, F, fn_ok (cl := cl K) (n := 1) (nN := 12) (sm := m_law) F sc (by decide) rfl rfl (fun cdv A outer s H E hr =>
    ess_cons (es_draws 1 0 2 (c_law_draws KX G c) (hr.mono (by decide)) nd) <|
    ess_cons (es_for (t := (.one 2)) (ei_range1 (He.free_ok KX G (c.t.d.fact 22 (f := .free "range") rfl)) (ea_cons (em_int) (ea_nil))) (pg_name (i := 2) nd rfl (by first | exact Or.inl rfl | exact Or.inr rfl)) (ess_cons (es_own 3 nd (ef_lst (ea_cons (em_call (c_law_head KX G c) (hr.mono (by decide)) (er_sl 1 (er_nil)) len_law_head (an_ok (an_sl an_nil') rfl)) (ea_nil)))) <|
    ess_cons (es_for (t := (.one 4)) (ei_range1 (He.free_ok KX G (c.t.d.fact 22 (f := .free "range") rfl)) (ea_cons (em_call (c_law_take KX G c) (hr.mono (by decide)) (er_sl 1 (er_im (em_int) (er_nil))) len_law_take (an_ok (an_sl (an_im an_nil')) rfl)) (ea_nil))) (pg_name (i := 4) nd rfl (by first | exact Or.inl rfl | exact Or.inr rfl)) (ess_cons (es_set 7 nd (em_ef (ef_lst (ea_cons (em_str) (ea_cons (em_str) (ea_cons (em_str) (ea_cons (em_str) (ea_cons (em_str) (ea_cons (em_str) (ea_cons (em_str) (ea_cons (em_str) (ea_cons (em_str) (ea_cons (em_str) (ea_cons (em_str) (ea_cons (em_str) (ea_nil)))))))))))))))) <|
    ess_one (es_expr (em_append 3 (em_call (c_law_pick KX G c) (hr.mono (by decide)) (er_sl 1 (er_im (em_op op_addA ok_add (em_var 7) (em_ef (ef_lst (ea_cons (em_str) (ea_cons (em_str) (ea_cons (em_str) (ea_nil))))))) (er_nil))) len_law_pick (an_ok (an_sl (an_im an_nil')) rfl)))))) <|
    ess_cons (es_for (t := (.one 5)) (ei_any (em_tup (ea_cons (em_str) (ea_cons (em_str) (ea_nil))))) (pg_name (i := 5) nd rfl (by first | exact Or.inl rfl | exact Or.inr rfl)) (ess_cons (es_set 8 nd (em_call (c_law_error KX G c) (hr.mono (by decide)) (er_im (em_var 3) (er_nil)) len_law_error (an_ok (an_im an_nil') rfl))) <|
    ess_cons (es_if (eb_w (ew_and (eb_notN (em_var 8)) (ew_and1 (eb_cmp (op_eqA hr) ok_eq (nomark _) (em_var 5) (em_str))))) (ess_one (es_set 8 nd (em_sl (em_var 8) (eo_none) (eo_some (em_neg (em_int)))))) (ess_nil)) <|
    ess_one (es_if (eb_not (eb_tru (em_call (c_law_same KX G c) (hr.mono (by decide)) (er_im (em_call (c_error_of KX G c) (hr.mono (by decide)) (er_im (em_op op_addA ok_add (em_sm PySem.F.plainAttrs_str PySem.F.slot_str_join PySem.F.type_str_join mt_join ok_join (em_str) (ea_cons (em_var 3) (ea_nil))) (em_var 5)) (er_nil)) len_error_of (an_ok (an_im an_nil') rfl)) (er_im (em_var 8) (er_nil))) len_law_same (an_ok (an_im (an_im an_nil')) rfl)))) (ess_one (es_ret (em_bl))) (ess_nil)))) <|
    ess_cons (es_lcIm 6 (own := [("line", 10)]) nd (ei_any (em_var 3)) (by kernel_rfl) (fun _ _ _ _ _ => (pg_name (i := 10) nd rfl (by first | exact Or.inl rfl | exact Or.inr rfl))) (fun _ _ _ _ _ => ets_one (eb_cmp (op_neA hr) ok_ne (nomark _) (em_sm PySem.F.plainAttrs_str PySem.F.slot_str_strip PySem.F.type_str_strip mt_stripChars ok_strip (em_var 10) (ea_cons (em_str) (ea_nil))) (em_str))) (fun _ _ _ _ _ => em_var 10) (sw_true rfl rfl rfl (by kernel_rfl))) <|
    ess_one (es_if (eb_w (ew_and (eb_cmp (op_eqA hr) ok_eq (nomark _) (em_var 6) (em_var 3)) (ew_and (eb_cmp (op_neA hr) ok_ne (nomark _) (em_sl (em_ix (em_var 3) (em_int)) (eo_none) (eo_some (em_int))) (em_str)) (ew_and1 (eb_cmp op_ninA ok_nin (by rfl) (em_str) (em_ix (em_var 3) (em_int))))))) (ess_cons (es_set 9 nd (em_call (c_examples_of KX G c) (hr.mono (by decide)) (er_im (em_op op_addA ok_add (em_str) (em_sm PySem.F.plainAttrs_str PySem.F.slot_str_join PySem.F.type_str_join mt_join ok_join (em_str) (ea_cons (em_var 3) (ea_nil)))) (er_nil)) len_examples_of (an_ok (an_im an_nil') rfl))) <|
    ess_one (es_if (eb_not (eb_tru (em_call (c_law_same KX G c) (hr.mono (by decide)) (er_im (em_ef (ef_lc (own := [("one", 11)]) nd (ei_any (em_var 9)) (by kernel_rfl) (fun _ _ _ _ _ => (pg_name (i := 11) nd rfl (by first | exact Or.inl rfl | exact Or.inr rfl))) (fun _ _ _ _ _ => ets_nil) (fun _ _ _ _ _ => em_attr [0] "error" (allC_cons ⟨(He.cls_ok (c.t.d.fact 26 (f := .cls "Example") rfl)), (He.noat_ok (c.t.d.fact 29 (f := .noat "Example" "error") rfl))⟩ allC_nil) (em_var 11)))) (er_im (em_ef (ef_lst (ea_cons (em_call (c_law_error KX G c) (hr.mono (by decide)) (er_im (em_var 3) (er_nil)) len_law_error (an_ok (an_im an_nil') rfl)) (ea_nil)))) (er_nil))) len_law_same (an_ok (an_im (an_im an_nil')) rfl)))) (ess_one (es_ret (em_bl))) (ess_nil))) (ess_nil)))) <|
    ess_one (es_ret (em_isN (em_call (c_error_of KX G c) (hr.mono (by decide)) (er_im (em_str) (er_nil)) len_error_of (an_ok (an_im an_nil') rfl)))))⟩
end
end Zz

set_option Elab.async false
set_option maxRecDepth 100000
set_option maxHeartbeats 0
namespace Zz
open PySem PySem.Spec PyProof.Rows L2 Zf
abbrev R : PySem.W.OpenRow := PySem.W.OpenLaw.row PySem.Challenge.rw_promptyard_k75_error_texts
abbrev hk : PySem.W.Hook := He.hookX 5 fa fn ts [] exK
def ob (s : PySem.W.SharedT) : He.AlX := He.obsX 5 fa fn ts [] exK (HandSHeadRun.getT s)
theorem ob_eq (s : PySem.W.SharedT) : ob s = hk.obs s.abs := He.obsX_eq (HandSHeadRun.getT_eq s)
theorem run_f (w : World) : HandSHeadRun.RunEq R (PySem.W.view R.prog [50]) hk ob 20000 loose (w.withFollow "special-get-raises" false) := by
  intro os
  kernel_rfl
theorem run_t (w : World) : HandSHeadRun.RunEq R (PySem.W.view R.prog [50]) hk ob 20000 loose (w.withFollow "special-get-raises" true) := by
  intro os
  kernel_rfl
theorem run (w : World) : HandSHeadRun.RunEq R (PySem.W.view R.prog [50]) hk ob 20000 loose w := PySem.W.byRow2 "special-get-raises" (P := fun w => HandSHeadRun.RunEq R (PySem.W.view R.prog [50]) hk ob 20000 loose w) run_f run_t w
theorem facts {P : Program} {w : World} {K : PySem.W.Frag} {h : Heap} {mg : Str → Option Value} {f : Addr} (X : K.In h) (G : h.Ns mainGlobals mg) (hfa : mg ("law" : Str) = some (.ref f)) (c : He.SaysX fa fn ts [] exK w h K) :
    ∃ fd : FuncData, (∀ (s : Shared) (v : Value), BindsTo s fd ⟨[v], []⟩ [("script", v)]) ∧ ∀ base : Heap, K.In base → base.Ns mainGlobals mg → FnOk P w K mg base CX0 15 f fd ["script"] (spLaw K) := by
  obtain ⟨fd, F⟩ := c.t.d.def_ 33 (d := d33) rfl
  have e := hfa.symm.trans (He.glo_ok X G (c.t.d.fact 63 (f := .glo "law") rfl))
  cases e
  have b := FunD.bindsA (ps := ["script"]) F fun _ _ _ _ _ _ us hl => match us, hl with | [_], _ => rfl
  refine ⟨fd, fun s v => b s [v] rfl, fun base KB GB => ?_⟩
  obtain ⟨fd', F', hF⟩ := f_law (P := P) (base := base) X G c
  have e2 : fd' = fd := by
    obtain ⟨_, _, _, _, _, _, _, _, _, _, e3, l3, _⟩ := F'.ex
    obtain ⟨_, _, _, _, _, _, _, _, _, _, e4, l4, _⟩ := F.ex
    have l4 : K.lookup (He.fAd K ("law", none)) = _ := l4
    rw [l3] at l4
    injection l4 with l5
    injection l5 with _ _ l6 _
    injection l6
  subst e2
  exact law_imp hF law_true
end Zz
open PySem PySem.W PySem.Calls PyProof.Rows
theorem PySem.Challenge.cw_promptyard_k75_error_texts_holds : PySem.Challenge.rw_promptyard_k75_error_texts.Holds := by
  w_on; o_law
  refine HandSHeadRun.head_any (r := OpenLaw.row PySem.Challenge.rw_promptyard_k75_error_texts) (q := view (OpenLaw.row PySem.Challenge.rw_promptyard_k75_error_texts).prog [50]) (H := Zz.hk) (ob := Zz.ob) (M := 20000) (loose := Zz.loose) (d := HandSHeadRun.topDef (OpenLaw.row PySem.Challenge.rw_promptyard_k75_error_texts).prog 50) (kwd := []) Zz.ob_eq
    (by kernel_rfl) (fun s => by kernel_rfl) Zz.run (by kernel_rfl) (by kernel_rfl) (by kernel_rfl) (by rfl) (by first | assumption | decide +kernel) (by decide +kernel) ⟨rfl, rfl, rfl, rfl, rfl, by decide +kernel⟩ ?hw ?hc
  case hw => w_witness2
  case hc =>
    refine L2.walk_ofE (l := PySem.Challenge.rw_promptyard_k75_error_texts) (n := 63) (k := 15) (x := "script") (CX := L2.CX0) rfl (by decide) (by kernel_rfl) ⟨rfl, by decide, by decide⟩ ?F (fun _ _ _ _ z => z)
    intro w mg fa h Y G hmg0
    obtain ⟨K, KX, c⟩ := Y
    have hmg : mg ("law" : PySem.Str) = some (.ref fa) := by
      have e : (HandSHeadRun.topDef (OpenLaw.row PySem.Challenge.rw_promptyard_k75_error_texts).prog 50).name = ("law" : PySem.Str) := by kernel_rfl
      rw [← e]
      exact hmg0
    obtain ⟨fd, hb, hF⟩ := Zz.facts (P := (PySem.Challenge.rw_promptyard_k75_error_texts).prog) (w := w) KX G hmg c
    exact ⟨K, fd, Zf.spLaw K, KX, hb, fun H a ns hl _ hS => ⟨a, ns, rfl, hS, hl, fun _ => rfl⟩, hF⟩

