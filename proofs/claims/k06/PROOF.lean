import PyProof.Rows.All
import Wide.All
import OpenK.AllK
import Wide.FinOn
import HandS.ForMost
import HandS.StrMore
import HandS.IsInst
import HandS.Style
import HandS.Flow
import HandS.Walk
import HandS.Zip
import HandS.Defaults
import HandS.TupAny
import HandS.Small
import KE.KStateDown
import HandS.Head0
import HandS.Head1
import HandS.Head2
import HandS.HeadEnd
import HandS.HeadHook1
import HandS.HeadHook2
import HandS.HeadHook3
import HandS.HeadHook4
import HandS.Conv
import HandS.Deep
import HandS.MakeKw
import HandS.OwnEq
import PyProof.Draws
import PyProof.EnumMake
import HandS.ReplaceLit
import HandS.ReplaceList
import PySem.Challenge.RW_promptyard_k06_whole_stages_together
set_option Elab.async false
set_option linter.all false
set_option maxRecDepth 100000
set_option maxHeartbeats 1000000
/-! Zf, part 1: data by value, the state of a body, judgements. -/
namespace Zf
open PySem PySem.Spec L2

/-- data by value -/
inductive D where
  | non | bl (b : Bool) | int (i : Int) | str (x : Str) | lst (xs : List D) | tup (xs : List D) | dct (kvs : List (Key × D)) | obj (c : Nat) (fs : List (Str × D)) | scr (ns : List Int)
instance : Inhabited D := ⟨.non⟩

section
variable (K : PySem.W.Frag) (cl : Nat → Addr)
mutual
inductive Rep (I : Hp) : V → D → Prop
  | non : Rep I .non .non
  | bl (b : Bool) : Rep I (.bl b) (.bl b)
  | int (i : Int) : Rep I (.int i) (.int i)
  | str (x : Str) : Rep I (.str x) (.str x)
  | lst {a : Addr} {vs : List V} {ds : List D} : I a = some (.lst vs) → RepL I vs ds → Rep I (.ref a) (.lst ds)
  | tup {a : Addr} {vs : List V} {ds : List D} : SqT K I a vs → RepL I vs ds → Rep I (.ref a) (.tup ds)
  | dct {a : Addr} {vs : List (Key × V)} {ds : List (Key × D)} : I a = some (.dK vs) → RepK I vs ds → Rep I (.ref a) (.dct ds)
  | scr {a : Addr} {ns : List Int} : SqL K I a (ns.map V.int) → Rep I (.ref a) (.scr ns)
  | obj {a dx : Addr} {c : Nat} {vs : List (Str × V)} {ds : List (Str × D)} : I a = some (.ins (cl c) dx vs) → RepF I vs ds → Rep I (.ref a) (.obj c ds)
inductive RepL (I : Hp) : List V → List D → Prop
  | nil : RepL I [] []
  | cons {v : V} {d : D} {vs : List V} {ds : List D} : Rep I v d → RepL I vs ds → RepL I (v :: vs) (d :: ds)
inductive RepK (I : Hp) : List (Key × V) → List (Key × D) → Prop
  | nil : RepK I [] []
  | cons {k : Key} {v : V} {d : D} {vs : List (Key × V)} {ds : List (Key × D)} : Rep I v d → RepK I vs ds → RepK I ((k, v) :: vs) ((k, d) :: ds)
inductive RepF (I : Hp) : List (Str × V) → List (Str × D) → Prop
  | nil : RepF I [] []
  | cons {k : Str} {v : V} {d : D} {vs : List (Str × V)} {ds : List (Str × D)} : Rep I v d → RepF I vs ds → RepF I ((k, v) :: vs) ((k, d) :: ds)
end
end
def Ex (H H' : Hp) : Prop := ∀ a o, H a = some o → H' a = some o
theorem Ex.refl (H : Hp) : Ex H H := fun _ _ h => h
theorem Ex.trans {H H1 H2 : Hp} (a : Ex H H1) (b : Ex H1 H2) : Ex H H2 := fun x o h => b x o (a x o h)
theorem Ex.new {H : Hp} {p : Addr} {o : HO} (h : H p = none) : Ex H (upd H p o) := fun a u e => by
  rw [upd_ne (ne_of_none e h)]
  exact e
theorem Ex.mut {H H' : Hp} {p : Addr} {o : HO} (e : Ex H H') (h : H p = none) : Ex H (upd H' p o) := fun a u ha => by
  rw [upd_ne (ne_of_none ha h)]
  exact e a u ha
theorem Ex.none {H H' : Hp} {p : Addr} (e : Ex H H') (h : H' p = none) : H p = none := by
  cases h1 : H p with
  | none => rfl
  | some o =>
    rw [e p o h1] at h
    cases h
theorem ex_rd {H H' : Hp} {a : Addr} {u : HO} (e : Ex H H') (h : Rd H a u) : Rd H' a u := by
  rcases h with h | ⟨o, h⟩
  · exact Or.inl (e a _ h)
  · exact Or.inr ⟨o, e a _ h⟩
section
variable {K : PySem.W.Frag} {cl : Nat → Addr}
theorem ex_l {H H' : Hp} {a : Addr} {xs : List V} (e : Ex H H') (h : SqL K H a xs) : SqL K H' a xs := by
  rcases h with h | h
  · exact Or.inl (ex_rd e h)
  · exact Or.inr h
theorem ex_t {H H' : Hp} {a : Addr} {xs : List V} (e : Ex H H') (h : SqT K H a xs) : SqT K H' a xs := by
  rcases h with h | h
  · exact Or.inl (ex_rd e h)
  · exact Or.inr h
theorem rl {I H : Hp} {a : Addr} {vs : List V} (h : I a = some (.lst vs)) (e : Ex I H) : SqL K H a vs := .inl (.inl (e _ _ h))
mutual
theorem Rep.ex {I I' : Hp} (e : Ex I I') : ∀ {v : V} {d : D}, Rep K cl I v d → Rep K cl I' v d
  | _, _, .non => .non
  | _, _, .bl b => .bl b
  | _, _, .int i => .int i
  | _, _, .str x => .str x
  | _, _, .lst h r => .lst (e _ _ h) (RepL.ex e r)
  | _, _, .tup h r => .tup (ex_t e h) (RepL.ex e r)
  | _, _, .dct h r => .dct (e _ _ h) (RepK.ex e r)
  | _, _, .obj h r => .obj (e _ _ h) (RepF.ex e r)
  | _, _, .scr h => .scr (ex_l e h)
theorem RepL.ex {I I' : Hp} (e : Ex I I') : ∀ {v : List V} {d : List D}, RepL K cl I v d → RepL K cl I' v d
  | _, _, .nil => .nil
  | _, _, .cons h r => .cons (Rep.ex e h) (RepL.ex e r)
theorem RepK.ex {I I' : Hp} (e : Ex I I') : ∀ {v : List (Key × V)} {d : List (Key × D)}, RepK K cl I v d → RepK K cl I' v d
  | _, _, .nil => .nil
  | _, _, .cons h r => .cons (Rep.ex e h) (RepK.ex e r)
theorem RepF.ex {I I' : Hp} (e : Ex I I') : ∀ {v : List (Str × V)} {d : List (Str × D)}, RepF K cl I v d → RepF K cl I' v d
  | _, _, .nil => .nil
  | _, _, .cons h r => .cons (Rep.ex e h) (RepF.ex e r)
end
/-! lists of data -/
theorem RepL.length {I : Hp} {vs : List V} {ds : List D} (r : RepL K cl I vs ds) : vs.length = ds.length := by
  induction vs generalizing ds with
  | nil => cases r; rfl
  | cons v vs ih =>
    cases r with
    | cons h r => simp [ih r]
theorem RepL.get {I : Hp} {vs : List V} {ds : List D} (r : RepL K cl I vs ds) {i : Nat} {d : D} (h : ds[i]? = some d) : ∃ v, vs[i]? = some v ∧ Rep K cl I v d := by
  induction vs generalizing ds i with
  | nil => cases r; cases h
  | cons v vs ih =>
    cases r with
    | cons h1 r =>
      cases i with
      | zero => cases h; exact ⟨v, rfl, h1⟩
      | succ i => exact ih r (by simpa using h)
theorem RepL.getV {I : Hp} {vs : List V} {ds : List D} (r : RepL K cl I vs ds) {i : Nat} {v : V} (h : vs[i]? = some v) : ∃ d, ds[i]? = some d ∧ Rep K cl I v d := by
  induction vs generalizing ds i with
  | nil => cases h
  | cons w vs ih =>
    cases r with
    | cons h1 r =>
      cases i with
      | zero => cases h; exact ⟨_, rfl, h1⟩
      | succ i => exact ih r (by simpa using h)
theorem RepL.append {I : Hp} {vs ws : List V} {ds es : List D} (r : RepL K cl I vs ds) (q : RepL K cl I ws es) : RepL K cl I (vs ++ ws) (ds ++ es) := by
  induction vs generalizing ds with
  | nil => cases r; exact q
  | cons v vs ih =>
    cases r with
    | cons h r => exact .cons h (ih r)
theorem RepL.take {I : Hp} {vs : List V} {ds : List D} (n : Nat) (r : RepL K cl I vs ds) : RepL K cl I (vs.take n) (ds.take n) := by
  induction n generalizing vs ds with
  | zero => exact .nil
  | succ n ih => cases r with
    | nil => exact .nil
    | cons h r => exact .cons h (ih r)
theorem RepL.drop {I : Hp} {vs : List V} {ds : List D} (n : Nat) (r : RepL K cl I vs ds) : RepL K cl I (vs.drop n) (ds.drop n) := by
  induction n generalizing vs ds with
  | zero => exact r
  | succ n ih => cases r with
    | nil => exact .nil
    | cons h r => exact ih r
theorem RepL.strs {I : Hp} : ∀ (xs : List Str), RepL K cl I (xs.map V.str) (xs.map D.str)
  | [] => .nil
  | x :: xs => .cons (.str x) (RepL.strs xs)
theorem RepL.ints {I : Hp} : ∀ (xs : List Int), RepL K cl I (xs.map V.int) (xs.map D.int)
  | [] => .nil
  | x :: xs => .cons (.int x) (RepL.ints xs)
/-- data that are texts alone -/
def strsD : List D → Option (List Str)
  | [] => some []
  | .str x :: r => (strsD r).map (x :: ·)
  | _ => none
theorem strsD_map : ∀ (xs : List Str), strsD (xs.map D.str) = some xs
  | [] => rfl
  | x :: xs => by simp [strsD, strsD_map xs]
theorem RepL.strsV {I : Hp} {vs : List V} {ds : List D} {xs : List Str} (r : RepL K cl I vs ds) (h : strsD ds = some xs) : vs = xs.map V.str := by
  induction vs generalizing ds xs with
  | nil => cases r; cases h; rfl
  | cons v vs ih =>
    cases r with
    | cons h1 r =>
      cases h1 <;> try (simp [strsD] at h)
      obtain ⟨ys, h2, rfl⟩ := h
      rw [ih r h2]; rfl
def intsD : List D → Option (List Int)
  | [] => some []
  | .int x :: r => (intsD r).map (x :: ·)
  | _ => none
theorem intsD_map : ∀ (xs : List Int), intsD (xs.map D.int) = some xs
  | [] => rfl
  | x :: xs => by simp [intsD, intsD_map xs]
theorem RepL.intsV {I : Hp} {vs : List V} {ds : List D} {xs : List Int} (r : RepL K cl I vs ds) (h : intsD ds = some xs) : vs = xs.map V.int := by
  induction vs generalizing ds xs with
  | nil => cases r; cases h; rfl
  | cons v vs ih =>
    cases r with
    | cons h1 r =>
      cases h1 <;> try (simp [intsD] at h)
      obtain ⟨ys, h2, rfl⟩ := h
      rw [ih r h2]; rfl
def bolsD : List D → Option (List Bool)
  | [] => some []
  | .bl x :: r => (bolsD r).map (x :: ·)
  | _ => none
theorem bolsD_map : ∀ (xs : List Bool), bolsD (xs.map D.bl) = some xs
  | [] => rfl
  | x :: xs => by simp [bolsD, bolsD_map xs]
theorem RepL.bolsV {I : Hp} {vs : List V} {ds : List D} {xs : List Bool} (r : RepL K cl I vs ds) (h : bolsD ds = some xs) : vs = xs.map V.bl := by
  induction vs generalizing ds xs with
  | nil => cases r; cases h; rfl
  | cons v vs ih =>
    cases r with
    | cons h1 r =>
      cases h1 <;> try (simp [bolsD] at h)
      obtain ⟨ys, h2, rfl⟩ := h
      rw [ih r h2]; rfl
end

/-! ### slots -/
/-- the source of draws -/
structure DS where
  A : List Int
  cur : Int
  B : List Int
  cnt : Int
/-- what may change in place -/
inductive Mu where
  | ml (ds : List D) | md (kvs : List (Key × D)) | dr (s : DS) | ob (c : Nat) (fs : List (Str × D))
/-- a slot: nothing known, data that stand still, an object that may change (pin: the caller's) -/
inductive Sl where
  | no | im (d : D) | mu (pin : Bool) (m : Mu)
instance : Inhabited Sl := ⟨.no⟩
abbrev En := List Sl
abbrev MM (α : Type) := En → Option (α × En)
inductive Out where
  | nx (e : En) | rt (d : D) (e : En) | bk (e : En) | ct (e : En)
abbrev SM := En → Option Out
abbrev FM := En → Option (D × En)

section
variable (K : PySem.W.Frag) (cl : Nat → Addr)
def MuR (I H : Hp) (v : V) (fs : List Addr) : Mu → Prop
  | .ml ds => ∃ l vs, v = .ref l ∧ fs = [l] ∧ H l = some (.lst vs) ∧ RepL K cl I vs ds
  | .md kvs => ∃ l vs, v = .ref l ∧ fs = [l] ∧ H l = some (.dK vs) ∧ RepK K cl I vs kvs
  | .dr s => ∃ d a b, v = .ref d ∧ fs = [d, a, b] ∧ d ≠ a ∧ d ≠ b ∧ a ≠ b ∧ H d = some (.lst [.ref a, .int s.cur, .ref b, .int s.cnt]) ∧ H a = some (.lst (s.A.map V.int)) ∧ H b = some (.lst (s.B.map V.int))
  | .ob c ds => ∃ l dx vs, v = .ref l ∧ fs = [l] ∧ H l = some (.ins (cl c) dx vs) ∧ RepF K cl I vs ds
/-- the slots hold what the environment says; fs: the footprint of each -/
structure SlP (I H : Hp) (s : Nat → Option V) (e : Nat → Option Sl) (f : Nat → List Addr) : Prop where
  im : ∀ i d, e i = some (.im d) → ∃ v, s i = some v ∧ Rep K cl I v d
  mu : ∀ i p m, e i = some (.mu p m) → (∃ v, s i = some v ∧ MuR K cl I H v (f i) m) ∧ ∀ a ∈ f i, I a = none
  dj : ∀ i j p m q n a, i ≠ j → e i = some (.mu p m) → e j = some (.mu q n) → a ∈ f i → a ∈ f j → False
/-- a def's frame: the known heap and the heap at its entry, its arguments, their footprints -/
structure Fx where
  I0 : Hp
  H0 : Hp
  vs : List V
  as : En
  af : Nat → List Addr
structure SRx (F : Fx) (I H : Hp) (σ : L2.St) (env : En) (f : Nat → List Addr) (ex : List (Addr × HO)) : Prop where
  sl : SlP K cl I H (fun i => (σ[i]?).join) (fun i => env[i]?) f
  ln : env.length = σ.length
  ih : Ex I H
  ii : Ex F.I0 I
  fr : ∀ a, F.H0 a ≠ none → F.I0 a = none → I a = none
  st : ∀ a o, F.H0 a = some o → (∀ i p m, F.as[i]? = some (.mu p m) → a ∉ F.af i) → H a = some o
  nw : ∀ i p m a, env[i]? = some (.mu p m) → a ∈ f i → F.H0 a = none ∨ ∃ j q n, F.as[j]? = some (.mu q n) ∧ a ∈ F.af j
  pn : ∀ i p m, F.as[i]? = some (.mu p m) → ∃ m', env[i]? = some (.mu true m') ∧ f i = F.af i ∧ (σ[i]?).join = F.vs[i]?
  ex0 : ∀ a ∈ ex, I a.1 = none ∧ H a.1 = some a.2 ∧ F.H0 a.1 = none
  exd : ∀ a ∈ ex, ∀ i p m, env[i]? = some (.mu p m) → a.1 ∉ f i
  exn : (ex.map (·.1)).Nodup
def SR (F : Fx) (I H : Hp) (σ : L2.St) (env : En) (ex : List (Addr × HO)) : Prop := ∃ f, SRx K cl F I H σ env f ex
end
/-- both heaps grow -/
structure Gr (I H I' H' : Hp) : Prop where
  i : Ex I I'
  h : Ex H H'
  ih : Ex I' H'
  fr : ∀ a, H a ≠ none → I a = none → I' a = none
theorem Gr.refl {I H : Hp} (e : Ex I H) : Gr I H I H := ⟨Ex.refl _, Ex.refl _, e, fun _ _ h => h⟩
theorem Gr.trans {I H I1 H1 I2 H2 : Hp} (a : Gr I H I1 H1) (b : Gr I1 H1 I2 H2) : Gr I H I2 H2 :=
  ⟨a.i.trans b.i, a.h.trans b.h, b.ih, fun x h1 h2 => b.fr x (fun z => h1 (a.h.none z)) (a.fr x h1 h2)⟩
/-- a new object that stands still -/
theorem Gr.new {I H : Hp} {p : Addr} {o : HO} (e : Ex I H) (h : H p = none) : Gr I H (upd I p o) (upd H p o) := by
  have hi : I p = none := e.none h
  refine ⟨Ex.new hi, Ex.new h, fun a u => ?_, fun a h1 h2 => ?_⟩
  · by_cases q : a = p
    · rw [q, upd_same, upd_same]; exact id
    · rw [upd_ne q, upd_ne q]; exact e a u
  · have : a ≠ p := fun q => h1 (q ▸ h)
    rw [upd_ne this]; exact h2
section
variable {K : PySem.W.Frag} {cl : Nat → Addr}
theorem MuR.here {I H : Hp} {v : V} {fs : List Addr} {m : Mu} (h : MuR K cl I H v fs m) : ∀ a ∈ fs, H a ≠ none := by
  cases m with
  | ml ds => obtain ⟨l, vs, rfl, rfl, h1, _⟩ := h; intro a ha; simp at ha; subst ha; rw [h1]; simp
  | md ds => obtain ⟨l, vs, rfl, rfl, h1, _⟩ := h; intro a ha; simp at ha; subst ha; rw [h1]; simp
  | dr s =>
    obtain ⟨d, a, b, rfl, rfl, _, _, _, h1, h2, h3⟩ := h
    intro c hc
    simp at hc
    rcases hc with rfl | rfl | rfl
    · rw [h1]; simp
    · rw [h2]; simp
    · rw [h3]; simp
  | ob c ds => obtain ⟨l, dx, vs, rfl, rfl, h1, _⟩ := h; intro a ha; simp at ha; subst ha; rw [h1]; simp
/-- .. where the footprint is kept -/
theorem MuR.kept {I H I' H' : Hp} {v : V} {fs : List Addr} {m : Mu} (h : MuR K cl I H v fs m) (e : Ex I I') (k : ∀ a ∈ fs, H' a = H a) : MuR K cl I' H' v fs m := by
  cases m with
  | ml ds => obtain ⟨l, vs, rfl, rfl, h1, h2⟩ := h; exact ⟨l, vs, rfl, rfl, (k l (by simp)).trans h1, h2.ex e⟩
  | md ds => obtain ⟨l, vs, rfl, rfl, h1, h2⟩ := h; exact ⟨l, vs, rfl, rfl, (k l (by simp)).trans h1, h2.ex e⟩
  | dr s =>
    obtain ⟨d, a, b, rfl, rfl, n1, n2, n3, h1, h2, h3⟩ := h
    exact ⟨d, a, b, rfl, rfl, n1, n2, n3, (k d (by simp)).trans h1, (k a (by simp)).trans h2, (k b (by simp)).trans h3⟩
  | ob c ds => obtain ⟨l, dx, vs, rfl, rfl, h1, h2⟩ := h; exact ⟨l, dx, vs, rfl, rfl, (k l (by simp)).trans h1, RepF.ex e h2⟩
theorem SRx.gr {F : Fx} {I H I' H' : Hp} {σ : L2.St} {env : En} {f : Nat → List Addr} {ex : List (Addr × HO)} (s : SRx K cl F I H σ env f ex) (g : Gr I H I' H') : SRx K cl F I' H' σ env f ex where
  sl := ⟨fun i d h => let ⟨v, h1, h2⟩ := s.sl.im i d h; ⟨v, h1, h2.ex g.i⟩, fun i p m h => by
    obtain ⟨⟨v, h1, h2⟩, h3⟩ := s.sl.mu i p m h
    refine ⟨⟨v, h1, h2.kept g.i fun a ha => ?_⟩, fun a ha => g.fr a (h2.here a ha) (h3 a ha)⟩
    cases q : H a with
    | none => exact absurd q (h2.here a ha)
    | some o => exact g.h a o q, s.sl.dj⟩
  ln := s.ln
  ih := g.ih
  ii := s.ii.trans g.i
  fr := fun a h1 h2 => by
    by_cases z : H a = none
    · exfalso
      by_cases hq : ∃ i p m, F.as[i]? = some (.mu p m) ∧ a ∈ F.af i
      · obtain ⟨i, p, m, h3, h4⟩ := hq
        obtain ⟨m', h5, h6, _⟩ := s.pn i p m h3
        obtain ⟨⟨v, _, h7⟩, _⟩ := s.sl.mu i true m' h5
        exact h7.here a (h6 ▸ h4) z
      · cases e : F.H0 a with
        | none => exact h1 e
        | some o =>
          rw [s.st a o e fun i p m h3 h4 => hq ⟨i, p, m, h3, h4⟩] at z
          cases z
    · exact g.fr a z (s.fr a h1 h2)
  st := fun a o h1 h2 => g.h a o (s.st a o h1 h2)
  nw := s.nw
  pn := s.pn
  ex0 := fun a ha => let ⟨h1, h2, h3⟩ := s.ex0 a ha; ⟨g.fr a.1 (by rw [h2]; simp) h1, g.h _ _ h2, h3⟩
  exd := s.exd
  exn := s.exn
theorem SR.gr {F : Fx} {I H I' H' : Hp} {σ : L2.St} {env : En} {ex : List (Addr × HO)} (s : SR K cl F I H σ env ex) (g : Gr I H I' H') : SR K cl F I' H' σ env ex := let ⟨f, h⟩ := s; ⟨f, h.gr g⟩
theorem SR.ih {F : Fx} {I H : Hp} {σ : L2.St} {env : En} {ex : List (Addr × HO)} (s : SR K cl F I H σ env ex) : Ex I H := let ⟨_, h⟩ := s; h.ih
/-- how an own object is seen when it stands still -/
def Mu.out : Mu → Option D
  | .ml ds => some (.lst ds)
  | .md ds => some (.dct ds)
  | .dr _ => none
  | .ob c fs => some (.obj c fs)
theorem SRx.look {F : Fx} {I H : Hp} {σ : L2.St} {env : En} {f : Nat → List Addr} {ex : List (Addr × HO)} (s : SRx K cl F I H σ env f ex) {i : Nat} {d : D} (h : env[i]? = some (.im d)) : ∃ v, σ[i]? = some (some v) ∧ Rep K cl I v d := by
  obtain ⟨v, h1, h2⟩ := s.sl.im i d h
  cases q : σ[i]? with
  | none => simp [q] at h1
  | some o => simp [q] at h1; subst h1; exact ⟨v, rfl, h2⟩
theorem SRx.lookM {F : Fx} {I H : Hp} {σ : L2.St} {env : En} {f : Nat → List Addr} {ex : List (Addr × HO)} (s : SRx K cl F I H σ env f ex) {i : Nat} {p : Bool} {m : Mu} (h : env[i]? = some (.mu p m)) :
    ∃ v, σ[i]? = some (some v) ∧ MuR K cl I H v (f i) m ∧ ∀ a ∈ f i, I a = none := by
  obtain ⟨⟨v, h1, h2⟩, h3⟩ := s.sl.mu i p m h
  cases q : σ[i]? with
  | none => simp [q] at h1
  | some o => simp [q] at h1; subst h1; exact ⟨v, rfl, h2, h3⟩
/-- a slot takes data that stand still -/
theorem SRx.setIm {F : Fx} {I H : Hp} {σ : L2.St} {env : En} {f : Nat → List Addr} {ex : List (Addr × HO)} (s : SRx K cl F I H σ env f ex) {i : Nat} {d : D} {v : V} (hi : ∀ m, env[i]? ≠ some (.mu true m)) (hl : i < env.length) (r : Rep K cl I v d) :
    SRx K cl F I H (σ.set i (some v)) (env.set i (.im d)) f ex where
  sl := by
    refine ⟨fun j e h => ?_, fun j p m h => ?_, fun j k p m q n a hjk h1 h2 => ?_⟩
    · by_cases q : i = j
      · subst q
        rw [List.getElem?_set_self hl] at h
        cases h
        exact ⟨v, by rw [List.getElem?_set_self (s.ln ▸ hl)]; rfl, r⟩
      · rw [List.getElem?_set_ne q] at h ⊢
        exact s.sl.im j e h
    · by_cases q : i = j
      · subst q; rw [List.getElem?_set_self hl] at h; cases h
      · rw [List.getElem?_set_ne q] at h ⊢
        exact s.sl.mu j p m h
    · have g : ∀ {j : Nat} {p : Bool} {m : Mu}, (env.set i (.im d))[j]? = some (Sl.mu p m) → env[j]? = some (Sl.mu p m) := fun {j p m} h => by
        by_cases q : i = j
        · subst q; rw [List.getElem?_set_self hl] at h; cases h
        · rwa [List.getElem?_set_ne q] at h
      exact s.sl.dj j k p m q n a hjk (g h1) (g h2)
  ln := by simp [s.ln]
  ih := s.ih
  ii := s.ii
  fr := s.fr
  st := s.st
  nw := fun j p m a h => by
    by_cases q : i = j
    · subst q; rw [List.getElem?_set_self hl] at h; cases h
    · rw [List.getElem?_set_ne q] at h; exact s.nw j p m a h
  pn := fun j p m h => by
    obtain ⟨m', h1, h2, h3⟩ := s.pn j p m h
    have q : i ≠ j := fun q => hi m' (q ▸ h1)
    exact ⟨m', by rw [List.getElem?_set_ne q]; exact h1, h2, by rw [List.getElem?_set_ne q]; exact h3⟩
  ex0 := s.ex0
  exd := fun a ha j p m h => by
    by_cases q : i = j
    · subst q; rw [List.getElem?_set_self hl] at h; cases h
    · rw [List.getElem?_set_ne q] at h; exact s.exd a ha j p m h
  exn := s.exn
/-- a slot is forgotten -/
theorem SRx.setNo {F : Fx} {I H : Hp} {σ : L2.St} {env : En} {f : Nat → List Addr} {ex : List (Addr × HO)} (s : SRx K cl F I H σ env f ex) {i : Nat} {o : Option V} (hi : ∀ m, env[i]? ≠ some (.mu true m)) :
    SRx K cl F I H (σ.set i o) (env.set i .no) f ex where
  sl := by
    refine ⟨fun j e h => ?_, fun j p m h => ?_, fun j k p m q n a hjk h1 h2 => ?_⟩
    · by_cases q : i = j
      · subst q
        by_cases hl : i < env.length
        · rw [List.getElem?_set_self hl] at h; cases h
        · rw [List.getElem?_eq_none (by simpa using hl)] at h; cases h
      · rw [List.getElem?_set_ne q] at h ⊢
        exact s.sl.im j e h
    · by_cases q : i = j
      · subst q
        by_cases hl : i < env.length
        · rw [List.getElem?_set_self hl] at h; cases h
        · rw [List.getElem?_eq_none (by simpa using hl)] at h; cases h
      · rw [List.getElem?_set_ne q] at h ⊢
        exact s.sl.mu j p m h
    · have g : ∀ {j : Nat} {p : Bool} {m : Mu}, (env.set i .no)[j]? = some (Sl.mu p m) → env[j]? = some (Sl.mu p m) := fun {j p m} h => by
        by_cases q : i = j
        · subst q
          by_cases hl : i < env.length
          · rw [List.getElem?_set_self hl] at h; cases h
          · rw [List.getElem?_eq_none (by simpa using hl)] at h; cases h
        · rwa [List.getElem?_set_ne q] at h
      exact s.sl.dj j k p m q n a hjk (g h1) (g h2)
  ln := by simp [s.ln]
  ih := s.ih
  ii := s.ii
  fr := s.fr
  st := s.st
  nw := fun j p m a h => by
    by_cases q : i = j
    · subst q
      by_cases hl : i < env.length
      · rw [List.getElem?_set_self hl] at h; cases h
      · rw [List.getElem?_eq_none (by simpa using hl)] at h; cases h
    · rw [List.getElem?_set_ne q] at h; exact s.nw j p m a h
  pn := fun j p m h => by
    obtain ⟨m', h1, h2, h3⟩ := s.pn j p m h
    have q : i ≠ j := fun q => hi m' (q ▸ h1)
    exact ⟨m', by rw [List.getElem?_set_ne q]; exact h1, h2, by rw [List.getElem?_set_ne q]; exact h3⟩
  ex0 := s.ex0
  exd := fun a ha j p m h => by
    by_cases q : i = j
    · subst q
      by_cases hl : i < env.length
      · rw [List.getElem?_set_self hl] at h; cases h
      · rw [List.getElem?_eq_none (by simpa using hl)] at h; cases h
    · rw [List.getElem?_set_ne q] at h; exact s.exd a ha j p m h
  exn := s.exn
/-- an own object of one cell stands still from now on -/
theorem SRx.freeze {F : Fx} {I H : Hp} {σ : L2.St} {env : En} {f : Nat → List Addr} {ex : List (Addr × HO)} (s : SRx K cl F I H σ env f ex) {i : Nat} {m : Mu} {d : D} (h : env[i]? = some (.mu false m)) (ho : m.out = some d) :
    ∃ v I', σ[i]? = some (some v) ∧ Ex I I' ∧ Rep K cl I' v d ∧ SRx K cl F I' H σ (env.set i (.im d)) f ex := by
  obtain ⟨v, hv, hm, hn⟩ := s.lookM h
  have key : ∃ l o, v = .ref l ∧ f i = [l] ∧ H l = some o ∧ (∀ I', Ex I I' → I' l = some o → Rep K cl I' v d) := by
    cases m with
    | ml ds =>
      obtain ⟨l, vs, rfl, h1, h2, h3⟩ := hm
      cases ho
      exact ⟨l, _, rfl, h1, h2, fun I' e z => .lst z (h3.ex e)⟩
    | md ds =>
      obtain ⟨l, vs, rfl, h1, h2, h3⟩ := hm
      cases ho
      exact ⟨l, _, rfl, h1, h2, fun I' e z => .dct z (h3.ex e)⟩
    | dr s => cases ho
    | ob c fs =>
      obtain ⟨l, dx, vs, rfl, h1, h2, h3⟩ := hm
      cases ho
      exact ⟨l, _, rfl, h1, h2, fun I' e z => .obj z (RepF.ex e h3)⟩
  obtain ⟨l, o, rfl, hf, hl, hr⟩ := key
  have il : I l = none := hn l (by rw [hf]; simp)
  have hlen : i < env.length := (List.getElem?_eq_some_iff.mp h).1
  have e1 : Ex I (upd I l o) := Ex.new il
  have r1 : Rep K cl (upd I l o) (.ref l) d := hr _ e1 upd_same
  have nl : ∀ j p n, env[j]? = some (.mu p n) → j ≠ i → l ∉ f j := fun j p n h1 h2 h3 => s.sl.dj j i p n false m l h2 h1 h h3 (by rw [hf]; simp)
  have hH0 : F.H0 l = none := by
    rcases s.nw i false m l h (by rw [hf]; simp) with z | ⟨j, q, n, h1, h2⟩
    · exact z
    · obtain ⟨m', h3, h4, _⟩ := s.pn j q n h1
      by_cases hj : j = i
      · subst hj; rw [h] at h3; cases h3
      · exact absurd (h4 ▸ h2) (nl j true m' h3 hj)
  have fresh : ∀ a, a ≠ l → I a = none → upd I l o a = none := fun a h1 h2 => by rw [upd_ne h1]; exact h2
  have g : ∀ {j : Nat} {p : Bool} {n : Mu}, (env.set i (.im d))[j]? = some (Sl.mu p n) → env[j]? = some (Sl.mu p n) ∧ j ≠ i := fun {j p n} h => by
    by_cases q : i = j
    · subst q; rw [List.getElem?_set_self hlen] at h; cases h
    · rw [List.getElem?_set_ne q] at h; exact ⟨h, Ne.symm q⟩
  refine ⟨.ref l, upd I l o, hv, e1, r1, ?_⟩
  refine ⟨⟨fun j e h1 => ?_, fun j p n h1 => ?_, fun j k p n q n' a hjk h1 h2 => s.sl.dj j k p n q n' a hjk (g h1).1 (g h2).1⟩, by simp [s.ln], fun a u h1 => ?_, s.ii.trans e1, fun a h1 h2 => ?_, s.st, fun j p n a h1 h2 => s.nw j p n a (g h1).1 h2, fun j p n h1 => ?_, fun a ha => ?_, fun a ha j p n h1 => s.exd a ha j p n (g h1).1, s.exn⟩
  · by_cases q : i = j
    · subst q
      rw [List.getElem?_set_self hlen] at h1
      cases h1
      exact ⟨.ref l, by rw [hv]; rfl, r1⟩
    · rw [List.getElem?_set_ne q] at h1
      obtain ⟨u, h2, h3⟩ := s.sl.im j e h1
      exact ⟨u, h2, h3.ex e1⟩
  · obtain ⟨h2, h3⟩ := g h1
    obtain ⟨⟨u, h4, h5⟩, h6⟩ := s.sl.mu j p n h2
    exact ⟨⟨u, h4, h5.kept e1 fun _ _ => rfl⟩, fun a ha => fresh a (fun q => nl j p n h2 h3 (q ▸ ha)) (h6 a ha)⟩
  · by_cases q : a = l
    · rw [q, upd_same] at h1; rw [q, hl]; exact h1
    · rw [upd_ne q] at h1; exact s.ih a u h1
  · have q : a ≠ l := fun q => h1 (q ▸ hH0)
    exact fresh a q (s.fr a h1 h2)
  · obtain ⟨m', h2, h3, h4⟩ := s.pn j p n h1
    have q : i ≠ j := fun q => by subst q; rw [h] at h2; cases h2
    exact ⟨m', by rw [List.getElem?_set_ne q]; exact h2, h3, h4⟩
  · obtain ⟨h1, h2, h3⟩ := s.ex0 a ha
    exact ⟨fresh a.1 (fun q => s.exd a ha i false m h (by rw [hf, q]; simp)) h1, h2, h3⟩
/-- an extra own list becomes a slot's own -/
theorem SRx.setOwn {F : Fx} {I H : Hp} {σ : L2.St} {env : En} {f : Nat → List Addr} {ex : List (Addr × HO)} {l : Addr} {o : HO} (s : SRx K cl F I H σ env f ((l, o) :: ex)) {i : Nat} {m : Mu} (hi : ∀ m, env[i]? ≠ some (.mu true m)) (hl : i < env.length)
    (r : MuR K cl I H (.ref l) [l] m) : SRx K cl F I H (σ.set i (some (.ref l))) (env.set i (.mu false m)) (fun j => if j = i then [l] else f j) ex := by
  obtain ⟨il, hll, h0⟩ := s.ex0 (l, o) (by simp)
  have nl := s.exd (l, o) (by simp)
  have hx : ∀ a ∈ ex, a.1 ≠ l := fun a ha q => (List.nodup_cons.mp s.exn).1 (List.mem_map.mpr ⟨a, ha, q⟩)
  have g : ∀ {j : Nat} {p : Bool} {n : Mu}, (env.set i (.mu false m))[j]? = some (Sl.mu p n) → j ≠ i → env[j]? = some (Sl.mu p n) := fun {j p n} h q => by
    rw [List.getElem?_set_ne (Ne.symm q)] at h; exact h
  refine ⟨⟨fun j e h => ?_, fun j p n h => ?_, fun j k p n q n' a hjk h1 h2 h3 h4 => ?_⟩, by simp [s.ln], s.ih, s.ii, s.fr, s.st, fun j p n a h h1 => ?_, fun j p n h => ?_, fun a ha => s.ex0 a (by simp [ha]), fun a ha j p n h => ?_, (List.nodup_cons.mp s.exn).2⟩
  · by_cases q : i = j
    · subst q; rw [List.getElem?_set_self hl] at h; cases h
    · rw [List.getElem?_set_ne q] at h ⊢; exact s.sl.im j e h
  · by_cases q : j = i
    · subst q
      rw [List.getElem?_set_self hl] at h
      cases h
      refine ⟨⟨.ref l, by rw [List.getElem?_set_self (s.ln ▸ hl)]; rfl, by rw [if_pos rfl]; exact r⟩, fun a ha => ?_⟩
      rw [if_pos rfl] at ha
      simp at ha
      rw [ha]; exact il
    · have h1 := g h q
      obtain ⟨⟨u, h4, h5⟩, h6⟩ := s.sl.mu j p n h1
      exact ⟨⟨u, by rw [List.getElem?_set_ne (Ne.symm q)]; exact h4, by rw [if_neg q]; exact h5⟩, by rw [if_neg q]; exact h6⟩
  · by_cases q1 : j = i
    · by_cases q2 : k = i
      · exact hjk (q1.trans q2.symm)
      · rw [if_pos q1] at h3; rw [if_neg q2] at h4
        simp at h3
        exact nl k q n' (g h2 q2) (h3 ▸ h4)
    · rw [if_neg q1] at h3
      by_cases q2 : k = i
      · rw [if_pos q2] at h4
        simp at h4
        exact nl j p n (g h1 q1) (h4 ▸ h3)
      · rw [if_neg q2] at h4
        exact s.sl.dj j k p n q n' a hjk (g h1 q1) (g h2 q2) h3 h4
  · by_cases q : j = i
    · rw [if_pos q] at h1
      simp at h1
      rw [h1]; exact .inl h0
    · rw [if_neg q] at h1
      exact s.nw j p n a (g h q) h1
  · obtain ⟨m', h1, h2, h3⟩ := s.pn j p n h
    have q : i ≠ j := fun q => hi m' (q ▸ h1)
    exact ⟨m', by rw [List.getElem?_set_ne q]; exact h1, by rw [if_neg (Ne.symm q)]; exact h2, by rw [List.getElem?_set_ne q]; exact h3⟩
  · by_cases q : j = i
    · rw [if_pos q]
      simp
      exact hx a ha
    · rw [if_neg q]
      exact s.exd a (by simp [ha]) j p n (g h q)
/-- an own object changes in place -/
theorem SRx.change {F : Fx} {I H H' : Hp} {σ : L2.St} {env : En} {f : Nat → List Addr} {ex : List (Addr × HO)} (s : SRx K cl F I H σ env f ex) {i : Nat} {p : Bool} {m m' : Mu} (h : env[i]? = some (.mu p m))
    (k : ∀ a, a ∉ f i → H' a = H a) (r : ∀ v, σ[i]? = some (some v) → MuR K cl I H' v (f i) m') : SRx K cl F I H' σ (env.set i (.mu p m')) f ex := by
  have hlen : i < env.length := (List.getElem?_eq_some_iff.mp h).1
  obtain ⟨v, hv, hm, hn⟩ := s.lookM h
  have g : ∀ {j : Nat} {q : Bool} {n : Mu}, (env.set i (.mu p m'))[j]? = some (Sl.mu q n) → ∃ n', env[j]? = some (Sl.mu q n') ∧ (j ≠ i → n' = n) := fun {j q n} h1 => by
    by_cases z : i = j
    · subst z; rw [List.getElem?_set_self hlen] at h1; cases h1; exact ⟨m, h, fun z => absurd rfl z⟩
    · rw [List.getElem?_set_ne z] at h1; exact ⟨n, h1, fun _ => rfl⟩
  have off : ∀ a o, I a = some o → a ∉ f i := fun a o h1 h2 => by rw [hn a h2] at h1; cases h1
  refine ⟨⟨fun j e h1 => ?_, fun j q n h1 => ?_, fun j k q n q' n' a hjk h1 h2 => ?_⟩, by simp [s.ln], fun a o h1 => by rw [k a (off a o h1)]; exact s.ih a o h1, s.ii, s.fr, fun a o h1 h2 => ?_, fun j q n a h1 h2 => ?_, fun j q n h1 => ?_, fun a ha => ?_, fun a ha j q n h1 => ?_, s.exn⟩
  · by_cases z : i = j
    · subst z; rw [List.getElem?_set_self hlen] at h1; cases h1
    · rw [List.getElem?_set_ne z] at h1; exact s.sl.im j e h1
  · obtain ⟨n', h2, h3⟩ := g h1
    by_cases z : j = i
    · subst z
      rw [List.getElem?_set_self hlen] at h1
      cases h1
      exact ⟨⟨v, by rw [hv]; rfl, r v hv⟩, hn⟩
    · cases h3 z
      obtain ⟨⟨u, h4, h5⟩, h6⟩ := s.sl.mu j q _ h2
      exact ⟨⟨u, h4, h5.kept (Ex.refl _) fun a ha => k a fun hb => s.sl.dj j i q _ p m a z h2 h ha hb⟩, h6⟩
  · obtain ⟨_, h3, _⟩ := g h1
    obtain ⟨_, h4, _⟩ := g h2
    exact s.sl.dj j k q _ q' _ a hjk h3 h4
  · rw [k a fun hb => ?_]
    · exact s.st a o h1 h2
    · rcases s.nw i p m a h hb with z | ⟨j, q, n, h3, h4⟩
      · rw [z] at h1; cases h1
      · exact h2 j q n h3 h4
  · obtain ⟨n', h3, _⟩ := g h1
    exact s.nw j q n' a h3 h2
  · obtain ⟨n', h2, h3, h4⟩ := s.pn j q n h1
    by_cases z : i = j
    · subst z
      rw [h] at h2
      cases h2
      exact ⟨m', by rw [List.getElem?_set_self hlen], h3, h4⟩
    · exact ⟨n', by rw [List.getElem?_set_ne z]; exact h2, h3, h4⟩
  · obtain ⟨h1, h2, h3⟩ := s.ex0 a ha
    exact ⟨h1, by rw [k a.1 (s.exd a ha i p m h)]; exact h2, h3⟩
  · obtain ⟨n', h2, _⟩ := g h1
    exact s.exd a ha j q n' h2
end
end Zf

set_option Elab.async false
set_option linter.all false
set_option maxRecDepth 100000
set_option maxHeartbeats 1000000
/-! Zf, part 2: judgements and rules. -/
namespace Zf
open PySem PySem.Spec L2
section
variable {K : PySem.W.Frag} {cl : Nat → Addr}
/-! ### extra own objects -/
theorem SRx.fresh0 {F : Fx} {I H : Hp} {σ : L2.St} {env : En} {f : Nat → List Addr} {ex : List (Addr × HO)} (s : SRx K cl F I H σ env f ex) {p : Addr} (h : H p = none) : F.H0 p = none := by
  cases e : F.H0 p with
  | none => rfl
  | some o =>
    exfalso
    by_cases hq : ∃ i q m, F.as[i]? = some (.mu q m) ∧ p ∈ F.af i
    · obtain ⟨i, q, m, h3, h4⟩ := hq
      obtain ⟨m', h5, h6, _⟩ := s.pn i q m h3
      obtain ⟨⟨v, _, h7⟩, _⟩ := s.sl.mu i true m' h5
      exact h7.here p (h6 ▸ h4) h
    · rw [s.st p o e fun i q m h3 h4 => hq ⟨i, q, m, h3, h4⟩] at h
      cases h
/-- a new own object -/
theorem SRx.alloc {F : Fx} {I H : Hp} {σ : L2.St} {env : En} {f : Nat → List Addr} {ex : List (Addr × HO)} (s : SRx K cl F I H σ env f ex) {p : Addr} {o : HO} (h : H p = none) : SRx K cl F I (upd H p o) σ env f ((p, o) :: ex) := by
  have hi : I p = none := s.ih.none h
  have keep : ∀ a, H a ≠ none → upd H p o a = H a := fun a z => upd_ne fun q => z (q ▸ h)
  refine ⟨⟨s.sl.im, fun i q m e => ?_, s.sl.dj⟩, s.ln, s.ih.mut hi, s.ii, s.fr, fun a u e n => ?_, s.nw, s.pn, fun a ha => ?_, fun a ha i q m e z => ?_, List.nodup_cons.mpr ⟨fun z => ?_, s.exn⟩⟩
  · obtain ⟨⟨v, h1, h2⟩, h3⟩ := s.sl.mu i q m e
    exact ⟨⟨v, h1, h2.kept (Ex.refl _) fun a ha => keep a (h2.here a ha)⟩, h3⟩
  · have := s.st a u e n
    rw [keep a (by rw [this]; simp)]
    exact this
  · rcases List.mem_cons.mp ha with rfl | ha
    · exact ⟨hi, upd_same, s.fresh0 h⟩
    · obtain ⟨h1, h2, h3⟩ := s.ex0 a ha
      exact ⟨h1, by rw [keep a.1 (by rw [h2]; simp)]; exact h2, h3⟩
  · rcases List.mem_cons.mp ha with rfl | ha
    · obtain ⟨⟨v, h1, h2⟩, h3⟩ := s.sl.mu i q m e
      exact h2.here _ z h
    · exact s.exd a ha i q m e z
  · obtain ⟨a, ha, e⟩ := List.mem_map.mp z
    have e : a.1 = p := e
    have := (s.ex0 a ha).2.1
    rw [e, h] at this
    cases this
/-- an extra own object changes -/
theorem SRx.exSet {F : Fx} {I H : Hp} {σ : L2.St} {env : En} {f : Nat → List Addr} {ex : List (Addr × HO)} {p : Addr} {o o' : HO} (s : SRx K cl F I H σ env f ((p, o) :: ex)) : SRx K cl F I (upd H p o') σ env f ((p, o') :: ex) := by
  obtain ⟨hi, hh, h0⟩ := s.ex0 (p, o) (by simp)
  refine ⟨⟨s.sl.im, fun i q m e => ?_, s.sl.dj⟩, s.ln, s.ih.mut hi, s.ii, s.fr, fun a u e n => ?_, s.nw, s.pn, fun a ha => ?_, fun a ha i q m e => ?_, s.exn⟩
  · obtain ⟨⟨v, h1, h2⟩, h3⟩ := s.sl.mu i q m e
    exact ⟨⟨v, h1, h2.kept (Ex.refl _) fun a ha => upd_ne fun z => s.exd (p, o) (by simp) i q m e (z ▸ ha)⟩, h3⟩
  · rw [upd_ne fun z => by rw [z, h0] at e; cases e]
    exact s.st a u e n
  · rcases List.mem_cons.mp ha with rfl | ha
    · exact ⟨hi, upd_same, h0⟩
    · obtain ⟨h1, h2, h3⟩ := s.ex0 a (by simp [ha])
      refine ⟨h1, ?_, h3⟩
      rw [upd_ne fun z => (List.nodup_cons.mp s.exn).1 (List.mem_map.mpr ⟨a, ha, z⟩)]
      exact h2
  · rcases List.mem_cons.mp ha with rfl | ha
    · exact s.exd (p, o) (by simp) i q m e
    · exact s.exd a (by simp [ha]) i q m e
/-- .. stands still from now on -/
theorem SRx.exFreeze {F : Fx} {I H : Hp} {σ : L2.St} {env : En} {f : Nat → List Addr} {ex : List (Addr × HO)} {p : Addr} {o : HO} (s : SRx K cl F I H σ env f ((p, o) :: ex)) : Ex I (upd I p o) ∧ SRx K cl F (upd I p o) H σ env f ex := by
  obtain ⟨hi, hh, h0⟩ := s.ex0 (p, o) (by simp)
  have hh : H p = some o := hh
  have hx : ∀ a ∈ ex, a.1 ≠ p := fun a ha q => (List.nodup_cons.mp s.exn).1 (List.mem_map.mpr ⟨a, ha, q⟩)
  have e1 : Ex I (upd I p o) := Ex.new hi
  have fresh : ∀ a, a ≠ p → I a = none → upd I p o a = none := fun a h1 h2 => by rw [upd_ne h1]; exact h2
  refine ⟨e1, ⟨fun i d e => let ⟨v, h1, h2⟩ := s.sl.im i d e; ⟨v, h1, h2.ex e1⟩, fun i q m e => ?_, s.sl.dj⟩, s.ln, fun a u e => ?_, s.ii.trans e1, fun a h1 h2 => fresh a (fun z => h1 (z ▸ h0)) (s.fr a h1 h2), s.st, s.nw, s.pn, fun a ha => ?_, fun a ha => s.exd a (by simp [ha]), (List.nodup_cons.mp s.exn).2⟩
  · obtain ⟨⟨v, h1, h2⟩, h3⟩ := s.sl.mu i q m e
    exact ⟨⟨v, h1, h2.kept e1 fun _ _ => rfl⟩, fun a ha => fresh a (fun z => s.exd (p, o) (by simp) i q m e (z ▸ ha)) (h3 a ha)⟩
  · by_cases q : a = p
    · rw [q, upd_same] at e; rw [q, hh]; exact e
    · rw [upd_ne q] at e; exact s.ih a u e
  · obtain ⟨h1, h2, h3⟩ := s.ex0 a (by simp [ha])
    exact ⟨fresh a.1 (hx a ha) h1, h2, h3⟩
theorem SRx.exSub {F : Fx} {I H : Hp} {σ : L2.St} {env : En} {f : Nat → List Addr} {ex ex' : List (Addr × HO)} (s : SRx K cl F I H σ env f ex) (h : ∀ a ∈ ex', a ∈ ex) (n : (ex'.map (·.1)).Nodup) : SRx K cl F I H σ env f ex' :=
  ⟨s.sl, s.ln, s.ih, s.ii, s.fr, s.st, s.nw, s.pn, fun a ha => s.ex0 a (h a ha), fun a ha => s.exd a (h a ha), n⟩
end
/-! ### readings -/
section
variable (K : PySem.W.Frag) (cl : Nat → Addr)
def tM (m : MM D) : TE := fun σ H Q => ∃ F I env ex d env', SR K cl F I H σ env ex ∧ m env = some (d, env') ∧ ∀ v I' H', SR K cl F I' H' σ env' ex → Ex I I' → Rep K cl I' v d → Q v H'
/-- a new list -/
def tF (m : MM (List D)) : TE := fun σ H Q => ∃ F I env ex ds env', SR K cl F I H σ env ex ∧ m env = some (ds, env') ∧ ∀ p vs I' H', SR K cl F I' H' σ env' ((p, .lst vs) :: ex) → Ex I I' → RepL K cl I' vs ds → Q (.ref p) H'
def tBo (m : MM Bool) : TT := fun σ H Q => ∃ F I env ex b env', SR K cl F I H σ env ex ∧ m env = some (b, env') ∧ ∀ I' H', SR K cl F I' H' σ env' ex → Ex I I' → Q b H'
def tL (m : MM (List D)) : TA := fun σ H Q => ∃ F I env ex ds env', SR K cl F I H σ env ex ∧ m env = some (ds, env') ∧ ∀ vs I' H', SR K cl F I' H' σ env' ex → Ex I I' → RepL K cl I' vs ds → Q vs H'
def Post (F : Fx) (I : Hp) (ex : List (Addr × HO)) (Dn : Ends) : Out → Prop
  | .nx env' => ∀ σ' I' H', SR K cl F I' H' σ' env' ex → Ex I I' → Dn.nx σ' H'
  | .bk env' => ∀ σ' I' H', SR K cl F I' H' σ' env' ex → Ex I I' → Dn.bk σ' H'
  | .ct env' => ∀ σ' I' H', SR K cl F I' H' σ' env' ex → Ex I I' → Dn.ct σ' H'
  | .rt d env' => ∀ v σ' I' H', SR K cl F I' H' σ' env' ex → Ex I I' → Rep K cl I' v d → Dn.rt v H'
def tS (m : SM) : TS := fun Dn σ H => ∃ F I env ex out, SR K cl F I H σ env ex ∧ m env = some out ∧ Post K cl F I ex Dn out
end
theorem Post.ex {K : PySem.W.Frag} {cl : Nat → Addr} {F : Fx} {I I1 : Hp} {ex : List (Addr × HO)} {Dn : Ends} {o : Out} (h : Post K cl F I ex Dn o) (e : Ex I I1) : Post K cl F I1 ex Dn o := by
  cases o with
  | nx env' => exact fun σ' I' H' s e' => h σ' I' H' s (e.trans e')
  | bk env' => exact fun σ' I' H' s e' => h σ' I' H' s (e.trans e')
  | ct env' => exact fun σ' I' H' s e' => h σ' I' H' s (e.trans e')
  | rt d env' => exact fun v σ' I' H' s e' => h v σ' I' H' s (e.trans e')
abbrev EM (X : Cx) (cl : Nat → Addr) (e : Expr) (m : MM D) : Prop := PE X e (tM X.K cl m)
abbrev EF (X : Cx) (cl : Nat → Addr) (e : Expr) (m : MM (List D)) : Prop := PE X e (tF X.K cl m)
abbrev EB (X : Cx) (cl : Nat → Addr) (e : Expr) (m : MM Bool) : Prop := PT X e (tBo X.K cl m)
abbrev EW (X : Cx) (cl : Nat → Addr) (e : Expr) (m : MM Bool) : Prop := PW X e (tBo X.K cl m)
abbrev EA (X : Cx) (cl : Nat → Addr) (es : List Expr) (m : MM (List D)) : Prop := PA X es (tL X.K cl m)
abbrev ES (X : Cx) (cl : Nat → Addr) (s : Stmt) (m : SM) : Prop := PS X s (tS X.K cl m)
abbrev ESs (X : Cx) (cl : Nat → Addr) (s : List Stmt) (m : SM) : Prop := PSs X s (tS X.K cl m)
section
variable {X : Cx} {e : Expr} {es : List Expr} {s : Stmt} {ss : List Stmt}
theorem _root_.L2.PE.zi {t t' : TE} (h : PE X e t) (hi : ∀ σ H Q, t' σ H Q → t σ H Q) : PE X e t' := ⟨fun pins s σ H Q I hw => h.run pins s σ H Q I (hi σ H Q hw)⟩
theorem _root_.L2.PT.zi {t t' : TT} (h : PT X e t) (hi : ∀ σ H Q, t' σ H Q → t σ H Q) : PT X e t' := ⟨fun pins s σ H Q I hw => h.run pins s σ H Q I (hi σ H Q hw)⟩
theorem _root_.L2.PW.zi {t t' : TT} (h : PW X e t) (hi : ∀ σ H Q, t' σ H Q → t σ H Q) : PW X e t' := ⟨fun wh pins s σ H Q I hw => h.run wh pins s σ H Q I (hi σ H Q hw)⟩
theorem _root_.L2.PA.zi {t t' : TA} (h : PA X es t) (hi : ∀ σ H Q, t' σ H Q → t σ H Q) : PA X es t' := ⟨fun pos pins s σ H Q I hw => h.run pos pins s σ H Q I (hi σ H Q hw)⟩
theorem _root_.L2.PS.zi {t t' : TS} (h : PS X s t) (hi : ∀ Dn σ H, t' Dn σ H → t Dn σ H) : PS X s t' := ⟨fun pins s σ H Q I hw => h.run pins s σ H Q I (hi Q σ H hw)⟩
theorem _root_.L2.PSs.zi {t t' : TS} (h : PSs X ss t) (hi : ∀ Dn σ H, t' Dn σ H → t Dn σ H) : PSs X ss t' := ⟨fun pins s σ H Q I hw => h.run pins s σ H Q I (hi Q σ H hw)⟩
end
/-! ### meanings -/
@[reducible] def MM.pure {α : Type} (a : α) : MM α := fun env => some (a, env)
@[reducible] def MM.bind {α β : Type} (m : MM α) (f : α → MM β) : MM β := fun env => match m env with
  | some (a, env') => f a env'
  | none => none
def MM.map {α β : Type} (m : MM α) (f : α → β) : MM β := fun env => match m env with
  | some (a, env') => some (f a, env')
  | none => none
/-- a partial function of the value -/
def MM.opt {α β : Type} (m : MM α) (f : α → Option β) : MM β := fun env => match m env with
  | some (a, env') => (match f a with
    | some b => some (b, env')
    | none => none)
  | none => none
def mvar (i : Nat) : MM D := fun env => match env[i]? with
  | some (.im d) => some (d, env)
  | some (.mu false m) => (match m.out with
    | some d => some (d, env.set i (.im d))
    | none => none)
  | _ => none
def mc (d : D) : MM D := fun env => some (d, env)
def mop2 (g : D → D → Option D) (ma mb : MM D) : MM D := fun env => match ma env with
  | some (a, e1) => (match mb e1 with
    | some (b, e2) => (match g a b with
      | some d => some (d, e2)
      | none => none)
    | none => none)
  | none => none
def mnil : MM (List D) := fun env => some ([], env)
def mcons (ma : MM D) (mr : MM (List D)) : MM (List D) := fun env => match ma env with
  | some (a, e1) => (match mr e1 with
    | some (r, e2) => some (a :: r, e2)
    | none => none)
  | none => none
section
variable {X : Cx} {cl : Nat → Addr} {a b e : Expr} {es : List Expr} {pos : Pos} {ma mb : MM D}
theorem SR.var {K : PySem.W.Frag} {F : Fx} {I H : Hp} {σ : L2.St} {env env' : En} {ex : List (Addr × HO)} (s : SR K cl F I H σ env ex) {i : Nat} {d : D} (h : mvar i env = some (d, env')) :
    ∃ v I', σ[i]? = some (some v) ∧ Ex I I' ∧ Rep K cl I' v d ∧ SR K cl F I' H σ env' ex := by
  obtain ⟨f, s⟩ := s
  unfold mvar at h
  split at h
  · rename_i d' e
    cases h
    obtain ⟨v, h1, h2⟩ := s.look e
    exact ⟨v, I, h1, Ex.refl _, h2, f, s⟩
  · rename_i m e
    split at h
    · rename_i d' ho
      cases h
      obtain ⟨v, I', h1, h2, h3, h4⟩ := s.freeze e ho
      exact ⟨v, I', h1, h2, h3, f, h4⟩
    · cases h
  · cases h
theorem em_var (i : Nat) {x : Str} {p : Pos} (hN : X.N[i]? = some x := by rfl) (hv : Vis X.env.scope x := by first | exact Or.inl rfl | exact Or.inr (Or.inl rfl) | exact Or.inr (Or.inr rfl)) (hd : (x == ("__debug__" : Str)) = false := by decide)
    (hcd : (x == ("__classdict__" : Str)) = false := by decide) : EM X cl (.Name x p) (mvar i) := by
  refine (pe_var hN hv hd hcd).zi fun σ H Q h => ?_
  obtain ⟨F, I, env, ex, d, env', s, hm, k⟩ := h
  obtain ⟨v, I', h1, h2, h3, h4⟩ := s.var hm
  exact ⟨v, h1, k v I' H h4 h2 h3⟩
theorem em_k {v : V} {d : D} (h : PE X e (tC v)) (r : ∀ I, Rep X.K cl I v d) : EM X cl e (mc d) := by
  refine h.zi fun σ H Q h => ?_
  obtain ⟨F, I, env, ex, d', env', s, hm, k⟩ := h
  cases hm
  exact k v I H s (Ex.refl _) (r I)
theorem em_int {i : Int} {j} : EM X cl (.Constant (.int i) j pos) (mc (.int i)) := em_k pe_int fun _ => .int i
theorem em_bl {i : Bool} {j} : EM X cl (.Constant (.bool i) j pos) (mc (.bl i)) := em_k pe_bl fun _ => .bl i
theorem em_non {j} : EM X cl (.Constant .none j pos) (mc .non) := em_k pe_non fun _ => .non
theorem em_str {i : Str} {j} : EM X cl (.Constant (.str i) j pos) (mc (.str i)) := em_k pe_str fun _ => .str i
/-- a module's constant -/
theorem em_glob {x : Str} {v : V} {d : D} {p : Pos} (hm : ∃ u, X.mg x = some u ∧ RelV v u) (r : ∀ I, Rep X.K cl I v d) (hg : Gl X x := by rfl) (hd : (x == ("__debug__" : Str)) = false := by decide) : EM X cl (.Name x p) (mc d) := by
  obtain ⟨u, h1, h2⟩ := hm
  exact em_k (pe_glob hg h1 h2 hd) r
/-! two operands -/
def OK2 (K : PySem.W.Frag) (cl : Nat → Addr) (r : R2) (g : D → D → Option D) : Prop := ∀ (I H : Hp) (v w : V) (d1 d2 d : D) (Q : VK), Ex I H → Rep K cl I v d1 → Rep K cl I w d2 → g d1 d2 = some d →
  (∀ u I' H', Gr I H I' H' → Rep K cl I' u d → Q u H') → r v w H Q
theorem mop2_of {g : D → D → Option D} {env env' : En} {d : D} (h : mop2 g ma mb env = some (d, env')) : ∃ a e1 b, ma env = some (a, e1) ∧ mb e1 = some (b, env') ∧ g a b = some d := by
  unfold mop2 at h
  split at h
  · rename_i a e1 h1
    split at h
    · rename_i b e2 h2
      split at h
      · rename_i d' h3
        cases h
        exact ⟨a, e1, b, h1, h2, h3⟩
      · cases h
    · cases h
  · cases h
theorem t2_imp {K : PySem.W.Frag} {r : R2} {g : D → D → Option D} (ok : OK2 K cl r g) (σ : L2.St) (H : Hp) (Q : VK) (h : tM K cl (mop2 g ma mb) σ H Q) : tOp r (tM K cl ma) (tM K cl mb) σ H Q := by
  obtain ⟨F, I, env, ex, d, env', s, hm, k⟩ := h
  obtain ⟨x, e1, y, h1, h2, h3⟩ := mop2_of hm
  refine ⟨F, I, env, ex, x, e1, s, h1, fun v I1 H1 s1 q1 r1 => ⟨F, I1, e1, ex, y, env', s1, h2, fun w I2 H2 s2 q2 r2 => ?_⟩⟩
  exact ok I2 H2 v w x y d Q s2.ih (r1.ex q2) r2 h3 fun u I' H' gr ru => k u I' H' (s2.gr gr) ((q1.trans q2).trans gr.i) ru
theorem em_op {op : Operator} {r : R2} {g : D → D → Option D} (ho : OpR X (binaryOp op) r) (ok : OK2 X.K cl r g) (ha : EM X cl a ma) (hb : EM X cl b mb) : EM X cl (.BinOp a op b pos) (mop2 g ma mb) := (pe_op ho ha hb).zi (t2_imp ok)
theorem em_cmp {op : CmpOp} {r : R2} {g : D → D → Option D} (ho : OpR X (compareOp op) r) (ok : OK2 X.K cl r g) (hm : behindInMarks op b = false) (ha : EM X cl a ma) (hb : EM X cl b mb) : EM X cl (.Compare a [op] [b] pos) (mop2 g ma mb) := (pe_cmpR ho ha hb hm).zi (t2_imp ok)
def blD : D → Option Bool
  | .bl b => some b
  | _ => none
theorem Rep.bl_of {K : PySem.W.Frag} {I : Hp} {v : V} {d : D} {b : Bool} (r : Rep K cl I v d) (h : blD d = some b) : v = .bl b := by
  cases r <;> simp [blD] at h
  rw [h]
theorem opt_of {α β : Type} {m : MM α} {f : α → Option β} {env env' : En} {b : β} (h : MM.opt m f env = some (b, env')) : ∃ a, m env = some (a, env') ∧ f a = some b := by
  unfold MM.opt at h
  split at h
  · rename_i a e1 h1
    split at h
    · rename_i b' h2
      cases h
      exact ⟨a, h1, h2⟩
    · cases h
  · cases h
theorem eb_of {t : TE} (h : PT X e (fun σ H Q => t σ H fun x H1 => ∃ c, x = .bl c ∧ Q c H1)) {m : MM D} (hi : ∀ σ H Q, tM X.K cl m σ H Q → t σ H Q) : EB X cl e (MM.opt m blD) := by
  refine h.zi fun σ H Q q => ?_
  obtain ⟨F, I, env, ex, b, env', s, hm, k⟩ := q
  obtain ⟨d, h1, h2⟩ := opt_of hm
  exact hi _ _ _ ⟨F, I, env, ex, d, env', s, h1, fun v I' H' s' e' r => ⟨b, r.bl_of h2, k I' H' s' e'⟩⟩
/-- a comparison as a test -/
theorem eb_cmp {op : CmpOp} {r : R2} {g : D → D → Option D} (ho : OpR X (compareOp op) r) (ok : OK2 X.K cl r g) (hm : behindInMarks op b = false) (ha : EM X cl a ma) (hb : EM X cl b mb) : EB X cl (.Compare a [op] [b] pos) (MM.opt (mop2 g ma mb) blD) :=
  eb_of (t := tOp r (tM X.K cl ma) (tM X.K cl mb)) (pt_cmpR ho ha hb hm) (t2_imp ok)
/-- an expression that is a bool, as a test -/
theorem eb_val (ha : EM X cl e ma) (he : ∀ whole, isTrue e X.env whole = (do let v ← whole; standAt e.pos; holding [v] (truthy v)) := by intro _; rfl) : EB X cl e (MM.opt ma blD) :=
  eb_of (pt_val ha he) fun _ _ _ h => h
/-! arguments -/
theorem ea_nil : EA X cl [] mnil := pa_nil.zi fun σ H Q h => by
  obtain ⟨F, I, env, ex, ds, env', s, hm, k⟩ := h
  cases hm
  exact k [] I H s (Ex.refl _) .nil
theorem mcons_of {mr : MM (List D)} {env env' : En} {ds : List D} (h : mcons ma mr env = some (ds, env')) : ∃ d e1 r, ma env = some (d, e1) ∧ mr e1 = some (r, env') ∧ ds = d :: r := by
  unfold mcons at h
  split at h
  · rename_i d e1 h1
    split at h
    · rename_i r e2 h2
      cases h
      exact ⟨d, e1, r, h1, h2, rfl⟩
    · cases h
  · cases h
theorem ea_cons {mr : MM (List D)} (ha : EM X cl e ma) (hr : EA X cl es mr) (hs : starEach (e :: es) X.env = (false, eval e X.env) :: starEach es X.env := by rfl) : EA X cl (e :: es) (mcons ma mr) := by
  refine (pa_cons ha hr hs).zi fun σ H Q h => ?_
  obtain ⟨F, I, env, ex, ds, env', s, hm, k⟩ := h
  obtain ⟨d, e1, r, h1, h2, rfl⟩ := mcons_of hm
  exact ⟨F, I, env, ex, d, e1, s, h1, fun v I1 H1 s1 q1 r1 => ⟨F, I1, e1, ex, r, env', s1, h2, fun vs I2 H2 s2 q2 r2 => k (v :: vs) I2 H2 s2 (q1.trans q2) (.cons (r1.ex q2) r2)⟩⟩
/-! functions of a list of values -/
def OKL (K : PySem.W.Frag) (cl : Nat → Addr) (r : List V → Hp → VK → Prop) (g : List D → Option D) : Prop := ∀ (I H : Hp) (vs : List V) (ds : List D) (d : D) (Q : VK), Ex I H → RepL K cl I vs ds → g ds = some d →
  (∀ u I' H', Gr I H I' H' → Rep K cl I' u d → Q u H') → r vs H Q
theorem tcb_imp {K : PySem.W.Frag} {r : List V → Hp → VK → Prop} {g : List D → Option D} {m : MM (List D)} (ok : OKL K cl r g) (σ : L2.St) (H : Hp) (Q : VK) (h : tM K cl (MM.opt m g) σ H Q) : tCB r (tL K cl m) σ H Q := by
  obtain ⟨F, I, env, ex, d, env', s, hm, k⟩ := h
  obtain ⟨ds, h1, h2⟩ := opt_of hm
  exact ⟨F, I, env, ex, ds, env', s, h1, fun vs I1 H1 s1 q1 r1 => ok I1 H1 vs ds d Q s1.ih r1 h2 fun u I' H' gr ru => k u I' H' (s1.gr gr) (q1.trans gr.i) ru⟩
theorem em_callB {x : Str} {p : Pos} {id : String} {r : List V → Hp → VK → Prop} {g : List D → Option D} {m : MM (List D)} (hc : CallR X (.builtin id) r) (ok : OKL X.K cl r g) (hm : X.mg x = none) (hv : bootBuiltins x = some (.builtin id)) (ha : EA X cl (e :: es) m)
    (hg : Gl X x := by rfl) (hn : x ≠ "__name__" := by decide) (hdb : (x == ("__debug__" : Str)) = false := by decide)
    (he : starEach (e :: es) X.env = (false, eval e X.env) :: starEach es X.env := by rfl) (hpl : (backTo pos (starEach es X.env)).any (·.1) = false := by rfl) : EM X cl (.Call (.Name x p) (e :: es) [] pos) (MM.opt m g) :=
  (pe_callB hc hg hm hv ha hn hdb he hpl).zi (tcb_imp ok)
theorem em_callTy {x : Str} {p : Pos} {T : String} {r : List V → Hp → VK → Prop} {g : List D → Option D} {m : MM (List D)} (hc : CallR X (.type T) r) (ok : OKL X.K cl r g) (hm : X.mg x = none) (hv : bootBuiltins x = some (.type T)) (ha : EA X cl (e :: es) m)
    (hg : Gl X x := by rfl) (hn : x ≠ "__name__" := by decide) (hdb : (x == ("__debug__" : Str)) = false := by decide)
    (he : starEach (e :: es) X.env = (false, eval e X.env) :: starEach es X.env := by rfl) (hpl : (backTo pos (starEach es X.env)).any (·.1) = false := by rfl) : EM X cl (.Call (.Name x p) (e :: es) [] pos) (MM.opt m g) :=
  (pe_callTy hc hg hm hv ha hn hdb he hpl).zi (tcb_imp ok)
/-- a method of a text -/
def OKM (K : PySem.W.Frag) (cl : Nat → Addr) (r : V → List V → Hp → VK → Prop) (g : Str → List D → Option D) : Prop := ∀ (I H : Hp) (z : Str) (vs : List V) (ds : List D) (d : D) (Q : VK), Ex I H → RepL K cl I vs ds → g z ds = some d →
  (∀ u I' H', Gr I H I' H' → Rep K cl I' u d → Q u H') → r (.str z) vs H Q
def strD : D → Option Str
  | .str z => some z
  | _ => none
theorem Rep.str_of {K : PySem.W.Frag} {I : Hp} {v : V} {d : D} {z : Str} (r : Rep K cl I v d) (h : strD d = some z) : v = .str z ∧ d = .str z := by
  cases r <;> simp [strD] at h
  subst h
  exact ⟨rfl, rfl⟩
def mmeth (g : Str → List D → Option D) (mo : MM D) (ma : MM (List D)) : MM D := fun env => match mo env with
  | some (.str z, e1) => (match ma e1 with
    | some (ds, e2) => (match g z ds with
      | some d => some (d, e2)
      | none => none)
    | none => none)
  | _ => none
theorem mmeth_of {g : Str → List D → Option D} {mo : MM D} {ma : MM (List D)} {env env' : En} {d : D} (h : mmeth g mo ma env = some (d, env')) : ∃ z e1 ds, mo env = some (.str z, e1) ∧ ma e1 = some (ds, env') ∧ g z ds = some d := by
  unfold mmeth at h
  split at h
  · rename_i z e1 h1
    split at h
    · rename_i ds e2 h2
      split at h
      · rename_i d' h3
        cases h
        exact ⟨z, e1, ds, h1, h2, h3⟩
      · cases h
    · cases h
  · cases h
theorem em_sm {o : Expr} {mo : MM D} {m : MM (List D)} {name : Str} {apos cpos : Pos} {id : String} {r : V → List V → Hp → VK → Prop} {g : Str → List D → Option D} (pa : PlainAttrs "str") (slot : Slot "str" name id) (hty : typeOf (.builtin id) = pure (.type "method_descriptor")) (hm : MtR X id r) (ok : OKM X.K cl r g)
    (ho : EM X cl o mo) (ha : EA X cl (e :: es) m)
    (hbase : attributeBase o name X.env (eval o X.env) = eval o X.env := by rfl)
    (hfew : ((backTo cpos (starEach (e :: es) X.env)).all (fun x => !x.1) && (backToKw cpos (keywordEach [] X.env)).all (fun x => x.1.isSome)
      && decide ((e :: es).length + ([] : List Keyword).length + (if ([] : List Keyword).isEmpty then 0 else 1) < 30)) = true := by rfl)
    (hline : (apos.endLine == cpos.line) = true := by rfl) (hs : starEach (e :: es) X.env = (false, eval e X.env) :: starEach es X.env := by rfl) (hplain : (backTo cpos (starEach es X.env)).any (·.1) = false := by rfl) :
    EM X cl (.Call (.Attribute o name apos) (e :: es) [] cpos) (mmeth g mo m) := by
  refine (pe_bm pa slot hty hm ho ha hbase hfew hline hs hplain).zi fun σ H Q h => ?_
  obtain ⟨F, I, env, ex, d, env', s, hq, k⟩ := h
  obtain ⟨z, e1, ds, h1, h2, h3⟩ := mmeth_of hq
  refine ⟨F, I, env, ex, .str z, e1, s, h1, fun v I1 H1 s1 q1 r1 => ?_⟩
  obtain ⟨rfl, _⟩ := r1.str_of rfl
  exact ⟨rfl, F, I1, e1, ex, ds, env', s1, h2, fun vs I2 H2 s2 q2 r2 => ok I2 H2 z vs ds d Q s2.ih r2 h3 fun u I' H' gr ru => k u I' H' (s2.gr gr) ((q1.trans q2).trans gr.i) ru⟩
theorem em_sm0 {o : Expr} {mo : MM D} {name : Str} {apos cpos : Pos} {id : String} {r : V → List V → Hp → VK → Prop} {g : Str → List D → Option D} (pa : PlainAttrs "str") (slot : Slot "str" name id) (hty : typeOf (.builtin id) = pure (.type "method_descriptor")) (hm : MtR X id r) (ok : OKM X.K cl r g)
    (ho : EM X cl o mo) (hbase : attributeBase o name X.env (eval o X.env) = eval o X.env := by rfl) (hline : (apos.endLine == cpos.line) = true := by rfl) :
    EM X cl (.Call (.Attribute o name apos) [] [] cpos) (mmeth g mo mnil) := by
  refine (pe_bm0 pa slot hty hm ho hbase hline).zi fun σ H Q h => ?_
  obtain ⟨F, I, env, ex, d, env', s, hq, k⟩ := h
  obtain ⟨z, e1, ds, h1, h2, h3⟩ := mmeth_of hq
  cases h2
  refine ⟨F, I, env, ex, .str z, env', s, h1, fun v I1 H1 s1 q1 r1 => ?_⟩
  obtain ⟨rfl, _⟩ := r1.str_of rfl
  exact ⟨rfl, ok I1 H1 z [] [] d Q s1.ih .nil h3 fun u I' H' gr ru => k u I' H' (s1.gr gr) (q1.trans gr.i) ru⟩
end
end Zf

set_option Elab.async false
set_option linter.all false
set_option maxRecDepth 100000
set_option maxHeartbeats 1000000
/-! Zf, part 3: tests, displays, places, calls of defs. -/
namespace Zf
open PySem PySem.Spec L2
section
variable {X : Cx} {cl : Nat → Addr} {a b c e : Expr} {es rest : List Expr} {pos : Pos} {ma mb : MM D} {ta tb : MM Bool}
/-! ### and, or, not, if -/
def mandB (ma mb : MM Bool) : MM Bool := fun env => match ma env with
  | some (true, e1) => mb e1
  | some (false, e1) => some (false, e1)
  | none => none
def morB (ma mb : MM Bool) : MM Bool := fun env => match ma env with
  | some (true, e1) => some (true, e1)
  | some (false, e1) => mb e1
  | none => none
def mnotB (ma : MM Bool) : MM Bool := fun env => match ma env with
  | some (b, e1) => some (!b, e1)
  | none => none
def mif {α : Type} (t : MM Bool) (ma mb : MM α) : MM α := fun env => match t env with
  | some (true, e1) => ma e1
  | some (false, e1) => mb e1
  | none => none
theorem ew_and1 (h : EB X cl a ta) : EW X cl (.BoolOp .And [a] pos) ta := pw_and1 h
theorem ew_or1 (h : EB X cl a ta) : EW X cl (.BoolOp .Or [a] pos) ta := pw_or1 h
theorem ew_and (h : EB X cl a ta) (k : EW X cl (.BoolOp .And (b :: rest) pos) tb) : EW X cl (.BoolOp .And (a :: b :: rest) pos) (mandB ta tb) := by
  refine (pw_and h k).zi fun σ H Q q => ?_
  obtain ⟨F, I, env, ex, b, env', s, hm, k⟩ := q
  unfold mandB at hm
  split at hm
  · rename_i e1 h1
    exact ⟨F, I, env, ex, true, e1, s, h1, fun I' H' s' q' => ⟨F, I', e1, ex, b, env', s', hm, fun I2 H2 s2 q2 => k I2 H2 s2 (q'.trans q2)⟩⟩
  · rename_i e1 h1
    cases hm
    exact ⟨F, I, env, ex, false, env', s, h1, fun I' H' s' q' => k I' H' s' q'⟩
  · cases hm
theorem ew_or (h : EB X cl a ta) (k : EW X cl (.BoolOp .Or (b :: rest) pos) tb) : EW X cl (.BoolOp .Or (a :: b :: rest) pos) (morB ta tb) := by
  refine (pw_or h k).zi fun σ H Q q => ?_
  obtain ⟨F, I, env, ex, b, env', s, hm, k⟩ := q
  unfold morB at hm
  split at hm
  · rename_i e1 h1
    cases hm
    exact ⟨F, I, env, ex, true, env', s, h1, fun I' H' s' q' => k I' H' s' q'⟩
  · rename_i e1 h1
    exact ⟨F, I, env, ex, false, e1, s, h1, fun I' H' s' q' => ⟨F, I', e1, ex, b, env', s', hm, fun I2 H2 s2 q2 => k I2 H2 s2 (q'.trans q2)⟩⟩
  · cases hm
theorem eb_w (h : EW X cl a ta) : EB X cl a ta := PW.pt h
theorem eb_not (h : EB X cl a ta) : EB X cl (.UnaryOp .Not a pos) (mnotB ta) := by
  refine (pt_not h).zi fun σ H Q q => ?_
  obtain ⟨F, I, env, ex, b, env', s, hm, k⟩ := q
  unfold mnotB at hm
  split at hm
  · rename_i c e1 h1
    cases hm
    exact ⟨F, I, env, ex, c, env', s, h1, fun I' H' s' q' => k I' H' s' q'⟩
  · cases hm
theorem em_if (hc : EB X cl c ta) (ha : EM X cl a ma) (hb : EM X cl b mb) : EM X cl (.IfExp c a b pos) (mif ta ma mb) := by
  refine (pe_ifExp hc ha hb).zi fun σ H Q q => ?_
  obtain ⟨F, I, env, ex, d, env', s, hm, k⟩ := q
  unfold mif at hm
  split at hm
  · rename_i e1 h1
    exact ⟨F, I, env, ex, true, e1, s, h1, fun I' H' s' q' => iteT ⟨F, I', e1, ex, d, env', s', hm, fun v I2 H2 s2 q2 => k v I2 H2 s2 (q'.trans q2)⟩⟩
  · rename_i e1 h1
    exact ⟨F, I, env, ex, false, e1, s, h1, fun I' H' s' q' => iteF ⟨F, I', e1, ex, d, env', s', hm, fun v I2 H2 s2 q2 => k v I2 H2 s2 (q'.trans q2)⟩⟩
  · cases hm
def mandV (ma mb : MM D) : MM D := fun env => match ma env with
  | some (.bl true, e1) => mb e1
  | some (.bl false, e1) => some (.bl false, e1)
  | _ => none
def morV (ma mb : MM D) : MM D := fun env => match ma env with
  | some (.bl true, e1) => some (.bl true, e1)
  | some (.bl false, e1) => mb e1
  | _ => none
def mnotV (ma : MM D) : MM D := fun env => match ma env with
  | some (.bl b, e1) => some (.bl (!b), e1)
  | _ => none
theorem em_one {op} (h : EM X cl a ma) : EM X cl (.BoolOp op [a] pos) ma := pe_one h
theorem em_and (h : EM X cl a ma) (k : EM X cl (.BoolOp .And (b :: rest) pos) mb) : EM X cl (.BoolOp .And (a :: b :: rest) pos) (mandV ma mb) := by
  refine (pe_and h k).zi fun σ H Q q => ?_
  obtain ⟨F, I, env, ex, d, env', s, hm, k⟩ := q
  unfold mandV at hm
  split at hm
  · rename_i e1 h1
    refine ⟨F, I, env, ex, .bl true, e1, s, h1, fun v I' H' s' q' r => ⟨true, r.bl_of rfl, iteT ⟨F, I', e1, ex, d, env', s', hm, fun v I2 H2 s2 q2 => k v I2 H2 s2 (q'.trans q2)⟩⟩⟩
  · rename_i e1 h1
    cases hm
    exact ⟨F, I, env, ex, .bl false, env', s, h1, fun v I' H' s' q' r => ⟨false, r.bl_of rfl, iteF (k (.bl false) I' H' s' q' (.bl false))⟩⟩
  · cases hm
theorem em_or (h : EM X cl a ma) (k : EM X cl (.BoolOp .Or (b :: rest) pos) mb) : EM X cl (.BoolOp .Or (a :: b :: rest) pos) (morV ma mb) := by
  refine (pe_or h k).zi fun σ H Q q => ?_
  obtain ⟨F, I, env, ex, d, env', s, hm, k⟩ := q
  unfold morV at hm
  split at hm
  · rename_i e1 h1
    cases hm
    exact ⟨F, I, env, ex, .bl true, env', s, h1, fun v I' H' s' q' r => ⟨true, r.bl_of rfl, iteT (k (.bl true) I' H' s' q' (.bl true))⟩⟩
  · rename_i e1 h1
    refine ⟨F, I, env, ex, .bl false, e1, s, h1, fun v I' H' s' q' r => ⟨false, r.bl_of rfl, iteF ⟨F, I', e1, ex, d, env', s', hm, fun v I2 H2 s2 q2 => k v I2 H2 s2 (q'.trans q2)⟩⟩⟩
  · cases hm
theorem em_not (h : EM X cl a ma) : EM X cl (.UnaryOp .Not a pos) (mnotV ma) := by
  refine (pe_not h).zi fun σ H Q q => ?_
  obtain ⟨F, I, env, ex, d, env', s, hm, k⟩ := q
  unfold mnotV at hm
  split at hm
  · rename_i c e1 h1
    cases hm
    exact ⟨F, I, env, ex, .bl c, env', s, h1, fun v I' H' s' q' r => ⟨c, r.bl_of rfl, k (.bl (!c)) I' H' s' q' (.bl _)⟩⟩
  · cases hm
/-! ### truth of a value -/
def truD : D → Option Bool
  | .non => some false
  | .bl b => some b
  | .int i => some (i != 0)
  | .str z => if z.length ≤ 100000 then some ((z.length : Int) != 0) else none
  | .lst xs => some (!xs.isEmpty)
  | .tup xs => some (!xs.isEmpty)
  | .dct xs => some (!xs.isEmpty)
  | .obj _ _ => none
  | .scr xs => some (!xs.isEmpty)
theorem RepL.isEmpty {K : PySem.W.Frag} {I : Hp} {vs : List V} {ds : List D} (r : RepL K cl I vs ds) : vs.isEmpty = ds.isEmpty := by cases r <;> rfl
theorem RepK.isEmpty {K : PySem.W.Frag} {I : Hp} {vs : List (Key × V)} {ds : List (Key × D)} (r : RepK K cl I vs ds) : vs.isEmpty = ds.isEmpty := by cases r <;> rfl
theorem Rep.tru {K : PySem.W.Frag} {I H : Hp} {v : V} {d : D} {k : Bool} (r : Rep K cl I v d) (e : Ex I H) (h : truD d = some k) : TruV K v H k := by
  cases r with
  | non => cases h; rfl
  | bl b => cases h; rfl
  | int i => cases h; rfl
  | str z =>
    simp only [truD] at h
    split at h
    · cases h; exact ⟨Nat.le_trans (by assumption) (by decide), rfl⟩
    · cases h
  | lst h1 h2 => cases h; exact .inl ⟨_, rl h1 e, by rw [h2.isEmpty]⟩
  | tup h1 h2 => cases h; exact .inr (.inl ⟨_, ex_t e h1, by rw [h2.isEmpty]⟩)
  | dct h1 h2 => cases h; exact .inr (.inr ⟨_, e _ _ h1, by rw [h2.isEmpty]⟩)
  | obj h1 h2 => cases h
  | @scr a ns h1 => cases h; exact .inl ⟨_, ex_l e h1, by cases ns <;> rfl⟩
theorem eb_tru (ha : EM X cl a ma) (he : ∀ whole, isTrue a X.env whole = (do let v ← whole; standAt a.pos; holding [v] (truthy v)) := by intro _; rfl) : EB X cl a (MM.opt ma truD) := by
  refine (pt_truth ha he).zi fun σ H Q q => ?_
  obtain ⟨F, I, env, ex, b, env', s, hm, k⟩ := q
  obtain ⟨d, h1, h2⟩ := opt_of hm
  exact ⟨F, I, env, ex, d, env', s, h1, fun v I' H' s' e' r => ⟨b, r.tru s'.ih h2, k I' H' s' e'⟩⟩
/-! ### new lists and tuples -/
def few (ds : List D) : Option (List D) := if ds.length ≤ 100000 then some ds else none
theorem few_of {ds es : List D} (h : few ds = some es) : es = ds ∧ ds.length ≤ sizeLine := by
  unfold few at h
  split at h
  · cases h; exact ⟨rfl, Nat.le_trans (by assumption) (by decide)⟩
  · cases h
theorem em_ef {m : MM (List D)} (h : EF X cl e m) : EM X cl e (MM.map m .lst) := by
  refine h.zi fun σ H Q q => ?_
  obtain ⟨F, I, env, ex, d, env', s, hm, k⟩ := q
  unfold MM.map at hm
  split at hm
  · rename_i ds e1 h1
    cases hm
    refine ⟨F, I, env, ex, ds, env', s, h1, fun p vs I' H' ⟨f, s'⟩ e' r => ?_⟩
    obtain ⟨e2, s2⟩ := s'.exFreeze
    exact k _ _ _ ⟨f, s2⟩ (e'.trans e2) (.lst upd_same (r.ex e2))
  · cases hm
/-- a new list laid at p -/
theorem SR.lay {K : PySem.W.Frag} {F : Fx} {I H : Hp} {σ : L2.St} {env : En} {ex : List (Addr × HO)} (s : SR K cl F I H σ env ex) {p : Addr} {o : HO} (h : H p = none) : SR K cl F I (upd H p o) σ env ((p, o) :: ex) :=
  let ⟨f, s⟩ := s
  ⟨f, s.alloc h⟩
theorem ef_lst {m : MM (List D)} (h : EA X cl es m) : EF X cl (.List es pos) (MM.opt m few) := by
  refine (pe_lst h).zi fun σ H Q q => ?_
  obtain ⟨F, I, env, ex, ds, env', s, hm, k⟩ := q
  obtain ⟨d, h1, h2⟩ := opt_of hm
  obtain ⟨rfl, h3⟩ := few_of h2
  refine ⟨F, I, env, ex, ds, env', s, h1, fun vs I' H' s' e' r => ⟨by rw [r.length]; exact h3, fun p hp => ?_⟩⟩
  exact k p vs I' _ (s'.lay hp) e' r
theorem em_lst {m : MM (List D)} (h : EA X cl es m) : EM X cl (.List es pos) (MM.map (MM.opt m few) .lst) := em_ef (ef_lst h)
theorem em_tup {m : MM (List D)} {x1} (h : EA X cl es m) : EM X cl (.Tuple es x1 pos) (MM.map (MM.opt m few) .tup) := by
  refine (pe_tup h).zi fun σ H Q q => ?_
  obtain ⟨F, I, env, ex, d, env', s, hm, k⟩ := q
  unfold MM.map at hm
  split at hm
  · rename_i ds e1 h0
    cases hm
    obtain ⟨d, h1, h2⟩ := opt_of h0
    obtain ⟨rfl, h3⟩ := few_of h2
    refine ⟨F, I, env, ex, ds, env', s, h1, fun vs I' H' s' e' r => ⟨by rw [r.length]; exact h3, fun p hp => ?_⟩⟩
    have g := Gr.new (o := .tup vs) s'.ih hp
    exact k _ _ _ (s'.gr g) (e'.trans g.i) (.tup (.inl (.inl upd_same)) (r.ex g.i))
  · cases hm
/-- operations that give out a new list -/
def OKF2 (K : PySem.W.Frag) (cl : Nat → Addr) (r : R2) (g : D → D → Option (List D)) : Prop := ∀ (I H : Hp) (v w : V) (d1 d2 : D) (ds : List D) (Q : VK), Ex I H → Rep K cl I v d1 → Rep K cl I w d2 → g d1 d2 = some ds →
  (∀ p vs, H p = none → RepL K cl I vs ds → Q (.ref p) (upd H p (.lst vs))) → r v w H Q
def OKFL (K : PySem.W.Frag) (cl : Nat → Addr) (r : List V → Hp → VK → Prop) (g : List D → Option (List D)) : Prop := ∀ (I H : Hp) (vs : List V) (as ds : List D) (Q : VK), Ex I H → RepL K cl I vs as → g as = some ds →
  (∀ p ws, H p = none → RepL K cl I ws ds → Q (.ref p) (upd H p (.lst ws))) → r vs H Q
def OKFM (K : PySem.W.Frag) (cl : Nat → Addr) (r : V → List V → Hp → VK → Prop) (g : Str → List D → Option (List D)) : Prop := ∀ (I H : Hp) (z : Str) (vs : List V) (as ds : List D) (Q : VK), Ex I H → RepL K cl I vs as → g z as = some ds →
  (∀ p ws, H p = none → RepL K cl I ws ds → Q (.ref p) (upd H p (.lst ws))) → r (.str z) vs H Q
def lstO (o : Option (List D)) : Option D := match o with
  | some ds => some (.lst ds)
  | none => none
theorem lstO_of {o : Option (List D)} {d : D} (h : lstO o = some d) : ∃ ds, o = some ds ∧ d = .lst ds := by
  unfold lstO at h
  split at h
  · cases h; exact ⟨_, rfl, rfl⟩
  · cases h
theorem OKF2.ok {K : PySem.W.Frag} {r : R2} {g : D → D → Option (List D)} (h : OKF2 K cl r g) : OK2 K cl r (fun a b => lstO (g a b)) := fun I H v w d1 d2 d Q e r1 r2 hg k => by
  obtain ⟨ds, h1, rfl⟩ := lstO_of hg
  refine h I H v w d1 d2 ds Q e r1 r2 h1 fun p vs hp r => ?_
  have g := Gr.new (o := .lst vs) e hp
  exact k _ _ _ g (.lst upd_same (r.ex g.i))
theorem OKFL.ok {K : PySem.W.Frag} {r : List V → Hp → VK → Prop} {g : List D → Option (List D)} (h : OKFL K cl r g) : OKL K cl r (fun a => lstO (g a)) := fun I H vs as d Q e r1 hg k => by
  obtain ⟨ds, h1, rfl⟩ := lstO_of hg
  refine h I H vs as ds Q e r1 h1 fun p vs hp r => ?_
  have g := Gr.new (o := .lst vs) e hp
  exact k _ _ _ g (.lst upd_same (r.ex g.i))
theorem OKFM.ok {K : PySem.W.Frag} {r : V → List V → Hp → VK → Prop} {g : Str → List D → Option (List D)} (h : OKFM K cl r g) : OKM K cl r (fun z a => lstO (g z a)) := fun I H z vs as d Q e r1 hg k => by
  obtain ⟨ds, h1, rfl⟩ := lstO_of hg
  refine h I H z vs as ds Q e r1 h1 fun p vs hp r => ?_
  have g := Gr.new (o := .lst vs) e hp
  exact k _ _ _ g (.lst upd_same (r.ex g.i))
def fop2 (g : D → D → Option (List D)) (ma mb : MM D) : MM (List D) := fun env => match ma env with
  | some (a, e1) => (match mb e1 with
    | some (b, e2) => (match g a b with
      | some d => some (d, e2)
      | none => none)
    | none => none)
  | none => none
def fmeth (g : Str → List D → Option (List D)) (mo : MM D) (ma : MM (List D)) : MM (List D) := fun env => match mo env with
  | some (.str z, e1) => (match ma e1 with
    | some (ds, e2) => (match g z ds with
      | some d => some (d, e2)
      | none => none)
    | none => none)
  | _ => none
theorem fop2_of {g : D → D → Option (List D)} {env env' : En} {d : List D} (h : fop2 g ma mb env = some (d, env')) : ∃ a e1 b, ma env = some (a, e1) ∧ mb e1 = some (b, env') ∧ g a b = some d := by
  unfold fop2 at h
  split at h
  · rename_i a e1 h1
    split at h
    · rename_i b e2 h2
      split at h
      · rename_i d' h3
        cases h
        exact ⟨a, e1, b, h1, h2, h3⟩
      · cases h
    · cases h
  · cases h
theorem fmeth_of {g : Str → List D → Option (List D)} {mo : MM D} {ma : MM (List D)} {env env' : En} {d : List D} (h : fmeth g mo ma env = some (d, env')) : ∃ z e1 ds, mo env = some (.str z, e1) ∧ ma e1 = some (ds, env') ∧ g z ds = some d := by
  unfold fmeth at h
  split at h
  · rename_i z e1 h1
    split at h
    · rename_i ds e2 h2
      split at h
      · rename_i d' h3
        cases h
        exact ⟨z, e1, ds, h1, h2, h3⟩
      · cases h
    · cases h
  · cases h
theorem ef_op {op : Operator} {r : R2} {g : D → D → Option (List D)} (ho : OpR X (binaryOp op) r) (ok : OKF2 X.K cl r g) (ha : EM X cl a ma) (hb : EM X cl b mb) : EF X cl (.BinOp a op b pos) (fop2 g ma mb) := (pe_op ho ha hb).zi fun σ H Q h => by
  obtain ⟨F, I, env, ex, d, env', s, hm, k⟩ := h
  obtain ⟨x, e1, y, h1, h2, h3⟩ := fop2_of hm
  refine ⟨F, I, env, ex, x, e1, s, h1, fun v I1 H1 s1 q1 r1 => ⟨F, I1, e1, ex, y, env', s1, h2, fun w I2 H2 s2 q2 r2 => ?_⟩⟩
  refine ok I2 H2 v w x y d Q s2.ih (r1.ex q2) r2 h3 fun p vs hp r => ?_
  exact k p vs I2 _ (s2.lay hp) (q1.trans q2) r
theorem ef_call {r : List V → Hp → VK → Prop} {g : List D → Option (List D)} {m : MM (List D)} (ok : OKFL X.K cl r g) (h : PE X e (tCB r (tL X.K cl m))) : EF X cl e (MM.opt m g) := h.zi fun σ H Q h => by
  obtain ⟨F, I, env, ex, d, env', s, hm, k⟩ := h
  obtain ⟨ds, h1, h2⟩ := opt_of hm
  refine ⟨F, I, env, ex, ds, env', s, h1, fun vs I1 H1 s1 q1 r1 => ok I1 H1 vs ds d Q s1.ih r1 h2 fun p ws hp r => ?_⟩
  exact k p ws I1 _ (s1.lay hp) q1 r
theorem ef_sm {o : Expr} {mo : MM D} {m : MM (List D)} {name : Str} {apos cpos : Pos} {id : String} {r : V → List V → Hp → VK → Prop} {g : Str → List D → Option (List D)} (pa : PlainAttrs "str") (slot : Slot "str" name id) (hty : typeOf (.builtin id) = pure (.type "method_descriptor")) (hm : MtR X id r) (ok : OKFM X.K cl r g)
    (ho : EM X cl o mo) (ha : EA X cl (e :: es) m)
    (hbase : attributeBase o name X.env (eval o X.env) = eval o X.env := by rfl)
    (hfew : ((backTo cpos (starEach (e :: es) X.env)).all (fun x => !x.1) && (backToKw cpos (keywordEach [] X.env)).all (fun x => x.1.isSome)
      && decide ((e :: es).length + ([] : List Keyword).length + (if ([] : List Keyword).isEmpty then 0 else 1) < 30)) = true := by rfl)
    (hline : (apos.endLine == cpos.line) = true := by rfl) (hs : starEach (e :: es) X.env = (false, eval e X.env) :: starEach es X.env := by rfl) (hplain : (backTo cpos (starEach es X.env)).any (·.1) = false := by rfl) :
    EF X cl (.Call (.Attribute o name apos) (e :: es) [] cpos) (fmeth g mo m) := by
  refine (pe_bm pa slot hty hm ho ha hbase hfew hline hs hplain).zi fun σ H Q h => ?_
  obtain ⟨F, I, env, ex, d, env', s, hq, k⟩ := h
  obtain ⟨z, e1, ds, h1, h2, h3⟩ := fmeth_of hq
  refine ⟨F, I, env, ex, .str z, e1, s, h1, fun v I1 H1 s1 q1 r1 => ?_⟩
  obtain ⟨rfl, _⟩ := r1.str_of rfl
  refine ⟨rfl, F, I1, e1, ex, ds, env', s1, h2, fun vs I2 H2 s2 q2 r2 => ok I2 H2 z vs ds d Q s2.ih r2 h3 fun p ws hp r => ?_⟩
  exact k p ws I2 _ (s2.lay hp) (q1.trans q2) r
theorem ef_sm0 {o : Expr} {mo : MM D} {name : Str} {apos cpos : Pos} {id : String} {r : V → List V → Hp → VK → Prop} {g : Str → List D → Option (List D)} (pa : PlainAttrs "str") (slot : Slot "str" name id) (hty : typeOf (.builtin id) = pure (.type "method_descriptor")) (hm : MtR X id r) (ok : OKFM X.K cl r g)
    (ho : EM X cl o mo) (hbase : attributeBase o name X.env (eval o X.env) = eval o X.env := by rfl) (hline : (apos.endLine == cpos.line) = true := by rfl) :
    EF X cl (.Call (.Attribute o name apos) [] [] cpos) (fmeth g mo mnil) := by
  refine (pe_bm0 pa slot hty hm ho hbase hline).zi fun σ H Q h => ?_
  obtain ⟨F, I, env, ex, d, env', s, hq, k⟩ := h
  obtain ⟨z, e1, ds, h1, h2, h3⟩ := fmeth_of hq
  cases h2
  refine ⟨F, I, env, ex, .str z, env', s, h1, fun v I1 H1 s1 q1 r1 => ?_⟩
  obtain ⟨rfl, _⟩ := r1.str_of rfl
  refine ⟨rfl, ok I1 H1 z [] [] d Q s1.ih .nil h3 fun p ws hp r => ?_⟩
  exact k p ws I1 _ (s1.lay hp) q1 r
/-! ### places -/
def atD (xs : List D) (i : Int) : Option D := (ixN xs.length i).bind fun j => xs[j]?
def ixD : D → D → Option D
  | .lst xs, .int i => atD xs i
  | .tup xs, .int i => atD xs i
  | .str z, .int i => if z.length ≤ 100000 then (match atI z.cps.toList i with
    | some c => some (.str ⟨#[c]⟩)
    | none => none) else none
  | _, _ => none
theorem RepL.at_ {K : PySem.W.Frag} {I : Hp} {vs : List V} {ds : List D} (r : RepL K cl I vs ds) {i : Int} {d : D} (h : atD ds i = some d) : ∃ v, atI vs i = some v ∧ Rep K cl I v d := by
  unfold atD at h
  unfold atI
  rw [r.length]
  cases q : ixN ds.length i with
  | none => rw [q] at h; cases h
  | some j => rw [q] at h; exact r.get h
theorem ok_ix {K : PySem.W.Frag} : OK2 K cl (rIx K) ixD := fun I H v w d1 d2 d Q e r1 r2 hg k => by
  cases r1 <;> cases r2 <;> try (cases hg; done)
  · rename_i z i
    simp only [ixD] at hg
    split at hg
    · split at hg
      · rename_i hz _ c hc
        cases hg
        exact .inr (.inr ⟨z, i, c, rfl, rfl, Nat.le_trans hz (by decide), hc, k _ _ _ (Gr.refl e) (.str _)⟩)
      · cases hg
    · cases hg
  · rename_i a vs ds hs r i
    obtain ⟨v, h1, h2⟩ := r.at_ hg
    exact .inl ⟨a, vs, i, v, rfl, rfl, rl hs e, h1, k _ _ _ (Gr.refl e) h2⟩
  · rename_i a vs ds hs r i
    obtain ⟨v, h1, h2⟩ := r.at_ hg
    exact .inr (.inl ⟨a, vs, i, v, rfl, rfl, ex_t e hs, h1, k _ _ _ (Gr.refl e) h2⟩)
theorem em_ix (ha : EM X cl a ma) (hb : EM X cl b mb) (hs : PlainIx b := by exact fun _ _ => rfl) : EM X cl (.Subscript a b pos) (mop2 ixD ma mb) := (pe_ix ix_seq ha hb hs).zi (t2_imp ok_ix)
/-- a slice's end -/
abbrev EO (X : Cx) (cl : Nat → Addr) (o : Option Expr) (m : MM (Option Int)) : Prop := PO X o (fun σ H Q => ∃ F I env ex d env', SR X.K cl F I H σ env ex ∧ m env = some (d, env') ∧ ∀ I' H', SR X.K cl F I' H' σ env' ex → Ex I I' → Q d H')
theorem eo_none : EO X cl none (fun env => some (none, env)) := by
  refine ⟨fun pins s σ H Q I h => ?_⟩
  obtain ⟨F, J, env, ex, d, env', s1, hm, k⟩ := h
  cases hm
  exact po_none.run pins s σ H Q I (k J H s1 (Ex.refl _))
def intD : D → Option (Option Int)
  | .int i => some (some i)
  | _ => none
theorem eo_some (h : EM X cl e ma) : EO X cl (some e) (MM.opt ma intD) := by
  refine ⟨fun pins s σ H Q I q => ?_⟩
  obtain ⟨F, J, env, ex, d, env', s1, hm, k⟩ := q
  obtain ⟨x, h1, h2⟩ := opt_of hm
  refine (po_some h).run pins s σ H Q I ⟨F, J, env, ex, x, env', s1, h1, fun v I' H' s' e' r => ?_⟩
  cases r <;> simp [intD] at h2
  subst h2
  exact ⟨_, rfl, k I' H' s' e'⟩
def cutD (xs : List D) (lo hi : Option Int) : List D := (xs.drop (HT.sIx xs.length 0 lo)).take (HT.sIx xs.length xs.length hi - HT.sIx xs.length 0 lo)
def slD : D → Option Int → Option Int → Option D
  | .lst xs, lo, hi => some (.lst (cutD xs lo hi))
  | .tup xs, lo, hi => some (.tup (cutD xs lo hi))
  | .str z, lo, hi => if z.length ≤ 100000 then some (.str (cutS z lo hi)) else none
  | _, _, _ => none
theorem RepL.cut {K : PySem.W.Frag} {I : Hp} {vs : List V} {ds : List D} (r : RepL K cl I vs ds) (lo hi : Option Int) : RepL K cl I (cutV vs lo hi) (cutD ds lo hi) := by
  unfold cutV cutD
  rw [r.length]
  exact (r.drop _).take _
def msl (ma : MM D) (ml mh : MM (Option Int)) : MM D := fun env => match ma env with
  | some (d, e1) => (match ml e1 with
    | some (lo, e2) => (match mh e2 with
      | some (hi, e3) => (match slD d lo hi with
        | some r => some (r, e3)
        | none => none)
      | none => none)
    | none => none)
  | none => none
def rSlAll (K : PySem.W.Frag) : V → Option Int → Option Int → Hp → VK → Prop := fun x lo hi H Q => rSlL K x lo hi H Q ∨ (rSlA K x lo hi H Q ∨ rSlS x lo hi H Q)
theorem sl_all : SlR X (rSlAll X.K) := SlR.or sl_list (SlR.or sl_tupA sl_str)
theorem em_sl {lo hi : Option Expr} {p2 : Pos} {ml mh : MM (Option Int)} (ha : EM X cl a ma) (hl : EO X cl lo ml) (hh : EO X cl hi mh) : EM X cl (.Subscript a (.Slice lo hi none p2) pos) (msl ma ml mh) := by
  refine (pe_slice sl_all ha hl hh).zi fun σ H Q h => ?_
  obtain ⟨F, I, env, ex, d, env', s, hm, k⟩ := h
  unfold msl at hm
  split at hm
  · rename_i x e1 h1
    split at hm
    · rename_i l e2 h2
      split at hm
      · rename_i u e3 h3
        split at hm
        · rename_i r h4
          cases hm
          refine ⟨F, I, env, ex, x, e1, s, h1, fun v I1 H1 s1 q1 r1 => ⟨F, I1, e1, ex, l, e2, s1, h2, fun I2 H2 s2 q2 => ⟨F, I2, e2, ex, u, env', s2, h3, fun I3 H3 s3 q3 => ?_⟩⟩⟩
          have r3 := (r1.ex q2).ex q3
          have q := (q1.trans q2).trans q3
          cases r3 <;> try (cases h4; done)
          · rename_i z
            simp only [slD] at h4
            split at h4
            · cases h4
              exact .inr (.inr ⟨z, rfl, Nat.le_trans (by assumption) (by decide), k _ _ _ s3 q (.str _)⟩)
            · cases h4
          · rename_i p vs ds hs rr
            cases h4
            refine .inl ⟨p, vs, rfl, rl hs s3.ih, fun n hn => ?_⟩
            have g := Gr.new (o := .lst (cutV vs l u)) s3.ih hn
            exact k _ _ _ (s3.gr g) (q.trans g.i) (.lst upd_same ((rr.cut l u).ex g.i))
          · rename_i p vs ds hs rr
            cases h4
            refine .inr (.inl ⟨p, vs, rfl, ex_t s3.ih hs, fun hw => ?_, fun hw n hn => ?_⟩)
            · refine k _ _ _ s3 q (.tup hs ?_)
              have : cutV vs l u = vs := by
                unfold cutV
                rw [hw.1, hw.2]
                simp
              have r2 := rr.cut l u
              rwa [this] at r2
            · have g := Gr.new (o := .tup (cutV vs l u)) s3.ih hn
              exact k _ _ _ (s3.gr g) (q.trans g.i) (.tup (.inl (.inl upd_same)) ((rr.cut l u).ex g.i))
        · cases hm
      · cases hm
    · cases hm
  · cases hm
end
end Zf

set_option Elab.async false
set_option linter.all false
set_option maxRecDepth 100000
set_option maxHeartbeats 1000000
/-! Zf, part 4: statements, loops, comprehensions. -/
namespace Zf
open PySem PySem.Spec L2
section
variable {X : Cx} {cl : Nat → Addr} {e : Expr} {st : Stmt} {rest body els : List Stmt} {pos : Pos} {ma mb : MM D} {tb : MM Bool} {sm sm1 sm2 : SM}
/-! ### statements -/
def snx : SM := fun env => some (.nx env)
def sbk : SM := fun env => some (.bk env)
def sct : SM := fun env => some (.ct env)
def sseq (a b : SM) : SM := fun env => match a env with
  | some (.nx e1) => b e1
  | o => o
def sret (m : MM D) : SM := fun env => match m env with
  | some (d, e1) => some (.rt d e1)
  | none => none
def sdrop (m : MM D) : SM := fun env => match m env with
  | some (_, e1) => some (.nx e1)
  | none => none
def sif (t : MM Bool) (a b : SM) : SM := fun env => match t env with
  | some (true, e1) => a e1
  | some (false, e1) => b e1
  | none => none
/-- may a slot be stored to -/
def okS (env : En) (i : Nat) : Bool := decide (i < env.length) && (match env[i]? with
  | some (.mu true _) => false
  | _ => true)
theorem okS_of {env : En} {i : Nat} (h : okS env i = true) : i < env.length ∧ ∀ m, env[i]? ≠ some (.mu true m) := by
  unfold okS at h
  rw [Bool.and_eq_true, decide_eq_true_eq] at h
  refine ⟨h.1, fun m e => ?_⟩
  rw [e] at h
  cases h.2
def sset (i : Nat) (m : MM D) : SM := fun env => match m env with
  | some (d, e1) => if okS e1 i then some (.nx (e1.set i (.im d))) else none
  | none => none
def sown (i : Nat) (m : MM (List D)) : SM := fun env => match m env with
  | some (ds, e1) => if okS e1 i then some (.nx (e1.set i (.mu false (.ml ds)))) else none
  | none => none
theorem ess_nil : ESs X cl [] snx := pss_nil.zi fun Dn σ H h => by
  obtain ⟨F, I, env, ex, out, s, hm, k⟩ := h
  cases hm
  exact k σ I H s (Ex.refl _)
theorem es_pass : ES X cl (.Pass pos) snx := ps_pass.zi fun Dn σ H h => by
  obtain ⟨F, I, env, ex, out, s, hm, k⟩ := h
  cases hm
  exact k σ I H s (Ex.refl _)
theorem es_doc {x : Str} {j} {pos'} : ES X cl (.Expr (.Constant (.str x) j pos) pos') snx := ps_doc.zi fun Dn σ H h => by
  obtain ⟨F, I, env, ex, out, s, hm, k⟩ := h
  cases hm
  exact k σ I H s (Ex.refl _)
theorem es_break : ES X cl (.Break pos) sbk := ps_break.zi fun Dn σ H h => by
  obtain ⟨F, I, env, ex, out, s, hm, k⟩ := h
  cases hm
  exact k σ I H s (Ex.refl _)
theorem es_cont : ES X cl (.Continue pos) sct := ps_continue.zi fun Dn σ H h => by
  obtain ⟨F, I, env, ex, out, s, hm, k⟩ := h
  cases hm
  exact k σ I H s (Ex.refl _)
theorem ess_cons (h : ES X cl st sm1) (k : ESs X cl rest sm2) : ESs X cl (st :: rest) (sseq sm1 sm2) := (pss_cons h k).zi fun Dn σ H q => by
  obtain ⟨F, I, env, ex, out, s, hm, k⟩ := q
  unfold sseq at hm
  split at hm
  · rename_i e1 h1
    exact ⟨F, I, env, ex, .nx e1, s, h1, fun σ' I' H' s' e' => ⟨F, I', e1, ex, out, s', hm, k.ex e'⟩⟩
  · rename_i hn
    refine ⟨F, I, env, ex, out, s, hm, ?_⟩
    cases out with
    | nx e1 => exact absurd hm (hn e1)
    | bk e1 => exact k
    | ct e1 => exact k
    | rt d e1 => exact k
theorem ess_one (h : ES X cl st sm) : ESs X cl [st] sm := pss_one h
theorem es_ret (h : EM X cl e ma) : ES X cl (.Return (some e) pos) (sret ma) := (ps_ret h).zi fun Dn σ H q => by
  obtain ⟨F, I, env, ex, out, s, hm, k⟩ := q
  unfold sret at hm
  split at hm
  · rename_i d e1 h1
    cases hm
    exact ⟨F, I, env, ex, d, e1, s, h1, fun v I' H' s' e' r => k v σ I' H' s' e' r⟩
  · cases hm
theorem es_retN : ES X cl (.Return none pos) (sret (mc .non)) := ps_retN.zi fun Dn σ H q => by
  obtain ⟨F, I, env, ex, out, s, hm, k⟩ := q
  cases hm
  exact k .non σ I H s (Ex.refl _) .non
theorem es_expr (h : EM X cl e ma) (hs : swapsWith e none pos.line X.env = pure false := by rfl) : ES X cl (.Expr e pos) (sdrop ma) := (ps_expr h hs).zi fun Dn σ H q => by
  obtain ⟨F, I, env, ex, out, s, hm, k⟩ := q
  unfold sdrop at hm
  split at hm
  · rename_i d e1 h1
    cases hm
    exact ⟨F, I, env, ex, d, e1, s, h1, fun v I' H' s' e' r => k σ I' H' s' e'⟩
  · cases hm
theorem es_if (h : EB X cl e tb) (ha : ESs X cl body sm1) (hb : ESs X cl els sm2) : ES X cl (.If e body els pos) (sif tb sm1 sm2) := (ps_if h ha hb).zi fun Dn σ H q => by
  obtain ⟨F, I, env, ex, out, s, hm, k⟩ := q
  unfold sif at hm
  split at hm
  · rename_i e1 h1
    exact ⟨F, I, env, ex, true, e1, s, h1, fun I' H' s' e' => iteT ⟨F, I', e1, ex, out, s', hm, k.ex e'⟩⟩
  · rename_i e1 h1
    exact ⟨F, I, env, ex, false, e1, s, h1, fun I' H' s' e' => iteF ⟨F, I', e1, ex, out, s', hm, k.ex e'⟩⟩
  · cases hm
theorem SR.set {K : PySem.W.Frag} {F : Fx} {I H : Hp} {σ : L2.St} {env : En} {ex : List (Addr × HO)} (s : SR K cl F I H σ env ex) {i : Nat} {d : D} {v : V} (h : okS env i = true) (r : Rep K cl I v d) : SR K cl F I H (σ.set i (some v)) (env.set i (.im d)) ex :=
  let ⟨f, s⟩ := s
  let ⟨h1, h2⟩ := okS_of h
  ⟨f, s.setIm h2 h1 r⟩
theorem SR.setOwn {K : PySem.W.Frag} {F : Fx} {I H : Hp} {σ : L2.St} {env : En} {ex : List (Addr × HO)} {p : Addr} {vs : List V} {ds : List D} (s : SR K cl F I H σ env ((p, .lst vs) :: ex)) {i : Nat} (h : okS env i = true) (r : RepL K cl I vs ds) :
    SR K cl F I H (σ.set i (some (.ref p))) (env.set i (.mu false (.ml ds))) ex :=
  let ⟨f, s⟩ := s
  let ⟨h1, h2⟩ := okS_of h
  ⟨_, s.setOwn h2 h1 ⟨p, vs, rfl, rfl, (s.ex0 (p, .lst vs) (by simp)).2.1, r⟩⟩
theorem es_set (i : Nat) {x : Str} {pos' : Pos} (hN : X.N.Nodup) (h : EM X cl e ma) (hi : X.N[i]? = some x := by rfl) (hx : Loc X.env.scope x := by first | exact Or.inl rfl | exact Or.inr rfl)
    (hs : swapsWith e (some (.Name x pos')) pos.line X.env = pure false := by rfl) (hf : X.fn x = true ∨ X.env.scope.names.lookup x = some .local := by first | exact .inl rfl | exact .inr rfl) : ES X cl (.Assign [.Name x pos'] e pos) (sset i ma) := (ps_set (i := i) hN hi hx h hs hf).zi fun Dn σ H q => by
  obtain ⟨F, I, env, ex, out, s, hm, k⟩ := q
  unfold sset at hm
  split at hm
  · rename_i d e1 h1
    split at hm
    · rename_i ho
      cases hm
      exact ⟨F, I, env, ex, d, e1, s, h1, fun v I' H' s' e' r => k _ I' H' (s'.set ho r) e'⟩
    · cases hm
  · cases hm
theorem es_own (i : Nat) {x : Str} {pos' : Pos} {m : MM (List D)} (hN : X.N.Nodup) (h : EF X cl e m) (hi : X.N[i]? = some x := by rfl) (hx : Loc X.env.scope x := by first | exact Or.inl rfl | exact Or.inr rfl)
    (hs : swapsWith e (some (.Name x pos')) pos.line X.env = pure false := by rfl) (hf : X.fn x = true ∨ X.env.scope.names.lookup x = some .local := by first | exact .inl rfl | exact .inr rfl) : ES X cl (.Assign [.Name x pos'] e pos) (sown i m) := (ps_set (i := i) hN hi hx h hs hf).zi fun Dn σ H q => by
  obtain ⟨F, I, env, ex, out, s, hm, k⟩ := q
  unfold sown at hm
  split at hm
  · rename_i ds e1 h1
    split at hm
    · rename_i ho
      cases hm
      exact ⟨F, I, env, ex, ds, e1, s, h1, fun p vs I' H' s' e' r => k _ I' H' (s'.setOwn ho r) e'⟩
    · cases hm
  · cases hm
/-! a, b = x, y -/
inductive Pa where
  | im (d : D) | ow (ds : List D)
inductive PaR (K : PySem.W.Frag) (cl : Nat → Addr) (I : Hp) : List Pa → List V → List (Addr × HO) → Prop
  | nil : PaR K cl I [] [] []
  | im {d : D} {v : V} {as : List Pa} {vs : List V} {ps : List (Addr × HO)} : Rep K cl I v d → PaR K cl I as vs ps → PaR K cl I (.im d :: as) (v :: vs) ps
  | ow {ds : List D} {p : Addr} {ws : List V} {as : List Pa} {vs : List V} {ps : List (Addr × HO)} : RepL K cl I ws ds → PaR K cl I as vs ps → PaR K cl I (.ow ds :: as) (.ref p :: vs) ((p, .lst ws) :: ps)
def tP (K : PySem.W.Frag) (cl : Nat → Addr) (m : MM (List Pa)) : TA := fun σ H Q => ∃ F I env ex as env', SR K cl F I H σ env ex ∧ m env = some (as, env') ∧ ∀ vs ps I' H', SR K cl F I' H' σ env' (ps ++ ex) → Ex I I' → PaR K cl I' as vs ps → Q vs H'
abbrev EP (X : Cx) (cl : Nat → Addr) (es : List Expr) (m : MM (List Pa)) : Prop := PA X es (tP X.K cl m)
def pnil : MM (List Pa) := fun env => some ([], env)
def pcim (ma : MM D) (mr : MM (List Pa)) : MM (List Pa) := fun env => match ma env with
  | some (a, e1) => (match mr e1 with
    | some (r, e2) => some (.im a :: r, e2)
    | none => none)
  | none => none
def pcow (ma : MM (List D)) (mr : MM (List Pa)) : MM (List Pa) := fun env => match ma env with
  | some (a, e1) => (match mr e1 with
    | some (r, e2) => some (.ow a :: r, e2)
    | none => none)
  | none => none
theorem ep_nil : EP X cl [] pnil := pa_nil.zi fun σ H Q h => by
  obtain ⟨F, I, env, ex, as, env', s, hm, k⟩ := h
  cases hm
  exact k [] [] I H s (Ex.refl _) .nil
theorem PaR.ex {K : PySem.W.Frag} {I I' : Hp} (e : Ex I I') {as : List Pa} {vs : List V} {ps : List (Addr × HO)} (h : PaR K cl I as vs ps) : PaR K cl I' as vs ps := by
  induction h with
  | nil => exact .nil
  | im r _ ih => exact .im (r.ex e) ih
  | ow r _ ih => exact .ow (r.ex e) ih
theorem ep_im {es : List Expr} {mr : MM (List Pa)} (ha : EM X cl e ma) (hr : EP X cl es mr) (hs : starEach (e :: es) X.env = (false, eval e X.env) :: starEach es X.env := by rfl) : EP X cl (e :: es) (pcim ma mr) := (pa_cons ha hr hs).zi fun σ H Q h => by
  obtain ⟨F, I, env, ex, as, env', s, hm, k⟩ := h
  unfold pcim at hm
  split at hm
  · rename_i a e1 h1
    split at hm
    · rename_i r e2 h2
      cases hm
      exact ⟨F, I, env, ex, a, e1, s, h1, fun v I1 H1 s1 q1 r1 => ⟨F, I1, e1, ex, r, env', s1, h2, fun vs ps I2 H2 s2 q2 r2 => k (v :: vs) ps I2 H2 s2 (q1.trans q2) (.im (r1.ex q2) r2)⟩⟩
    · cases hm
  · cases hm
theorem SR.sub {K : PySem.W.Frag} {F : Fx} {I H : Hp} {σ : L2.St} {env : En} {ex ex' : List (Addr × HO)} (s : SR K cl F I H σ env ex) (h : List.Perm ex ex') : SR K cl F I H σ env ex' :=
  let ⟨f, s⟩ := s
  ⟨f, s.exSub (fun a ha => h.mem_iff.mpr ha) ((h.map _).nodup_iff.mp s.exn)⟩
theorem ep_ow {es : List Expr} {m : MM (List D)} {mr : MM (List Pa)} (ha : EF X cl e m) (hr : EP X cl es mr) (hs : starEach (e :: es) X.env = (false, eval e X.env) :: starEach es X.env := by rfl) : EP X cl (e :: es) (pcow m mr) := (pa_cons ha hr hs).zi fun σ H Q h => by
  obtain ⟨F, I, env, ex, as, env', s, hm, k⟩ := h
  unfold pcow at hm
  split at hm
  · rename_i a e1 h1
    split at hm
    · rename_i r e2 h2
      cases hm
      refine ⟨F, I, env, ex, a, e1, s, h1, fun p ws I1 H1 s1 q1 r1 => ⟨F, I1, e1, _, r, env', s1, h2, fun vs ps I2 H2 s2 q2 r2 => k (.ref p :: vs) ((p, .lst ws) :: ps) I2 H2 (s2.sub ?_) (q1.trans q2) (.ow (r1.ex q2) r2)⟩⟩
      exact List.perm_middle
    · cases hm
  · cases hm
/-- the stores, one behind another -/
def setsE : List Nat → List Pa → En → Option En
  | [], [], e => some e
  | i :: is, .im d :: as, e => if okS e i then setsE is as (e.set i (.im d)) else none
  | i :: is, .ow ds :: as, e => if okS e i then setsE is as (e.set i (.mu false (.ml ds))) else none
  | _, _, _ => none
def setsV : List Nat → List V → L2.St → L2.St
  | i :: is, v :: vs, σ => setsV is vs (σ.set i (some v))
  | _, _, σ => σ
theorem SR.sets {K : PySem.W.Frag} {F : Fx} {I H : Hp} {ex : List (Addr × HO)} {as : List Pa} {vs : List V} {ps : List (Addr × HO)} (r : PaR K cl I as vs ps) : ∀ {is : List Nat} {σ : L2.St} {env env' : En}, SR K cl F I H σ env (ps ++ ex) → setsE is as env = some env' →
    SR K cl F I H (setsV is vs σ) env' ex := by
  induction r with
  | nil =>
    intro is σ env env' s h
    cases is with
    | nil => cases h; exact s
    | cons i is => cases h
  | @im d v as vs ps r _ ih =>
    intro is σ env env' s h
    cases is with
    | nil => cases h
    | cons i is =>
      simp only [setsE] at h
      split at h
      · rename_i ho
        exact ih (s.set ho r) h
      · cases h
  | @ow ds p ws as vs ps r _ ih =>
    intro is σ env env' s h
    cases is with
    | nil => cases h
    | cons i is =>
      simp only [setsE] at h
      split at h
      · rename_i ho
        exact ih (SR.setOwn s ho r) h
      · cases h
theorem PaR.length {K : PySem.W.Frag} {I : Hp} {as : List Pa} {vs : List V} {ps : List (Addr × HO)} (r : PaR K cl I as vs ps) : vs.length = as.length := by
  induction r with
  | nil => rfl
  | im _ _ ih => simp [ih]
  | ow _ _ ih => simp [ih]
theorem setsE_length : ∀ {is : List Nat} {as : List Pa} {e e' : En}, setsE is as e = some e' → as.length = is.length
  | [], [], _, _, _ => rfl
  | [], .im _ :: _, _, _, h => by cases h
  | [], .ow _ :: _, _, _, h => by cases h
  | i :: is, [], _, _, h => by cases h
  | i :: is, .im d :: as, e, e', h => by
    simp only [setsE] at h
    split at h
    · simp [setsE_length h]
    · cases h
  | i :: is, .ow d :: as, e, e', h => by
    simp only [setsE] at h
    split at h
    · simp [setsE_length h]
    · cases h
def spar (is : List Nat) (m : MM (List Pa)) : SM := fun env => match m env with
  | some (as, e1) => (match setsE is as e1 with
    | some e2 => some (.nx e2)
    | none => none)
  | none => none
theorem spar_of {is : List Nat} {m : MM (List Pa)} {env : En} {out : Out} (h : spar is m env = some out) : ∃ as e1 e2, m env = some (as, e1) ∧ setsE is as e1 = some e2 ∧ out = .nx e2 := by
  unfold spar at h
  split at h
  · rename_i as e1 h1
    split at h
    · rename_i e2 h2
      cases h
      exact ⟨as, e1, e2, h1, h2, rfl⟩
    · cases h
  · cases h
theorem es_par2 (i j : Nat) {x y : Str} {a b : Expr} {px py pt pt2 : Pos} {kt k2} {m : MM (List Pa)} (hN : X.N.Nodup) (h : EP X cl [a, b] m) (hc : X.calm = true := by rfl) (hi : X.N[i]? = some x := by rfl) (hj : X.N[j]? = some y := by rfl) (hij : i ≠ j := by decide)
    (hx : X.env.scope.names.lookup x = some .local := by rfl) (hy : X.env.scope.names.lookup y = some .local := by rfl) (hw : swappedStores [.Tuple [.Name x px, .Name y py] kt pt] (.Tuple [a, b] k2 pt2) X.env = pure (some [x, y]) := by rfl)
    (hs : swapsWithSole [.Tuple [.Name x px, .Name y py] kt pt] (.Tuple [a, b] k2 pt2) pos.line X.env = pure false := by rfl) :
    ES X cl (.Assign [.Tuple [.Name x px, .Name y py] kt pt] (.Tuple [a, b] k2 pt2) pos) (spar [i, j] m) := by
  refine (ps_par hc hN hi hj hij hx hy h hw hs).zi fun Dn σ H q => ?_
  obtain ⟨F, I, env, ex, out, s, hm, k⟩ := q
  obtain ⟨as, e1, e2, h1, h2, rfl⟩ := spar_of hm
  refine ⟨F, I, env, ex, as, e1, s, h1, fun vs ps I' H' s' e' r => ?_⟩
  have hl : vs.length = 2 := by rw [r.length, setsE_length h2]; rfl
  have s2 := SR.sets r s' h2
  match vs, hl with
  | [v, w], _ => exact ⟨v, w, rfl, k _ I' H' s2 e'⟩
theorem es_par3 (i j l : Nat) {x y z : Str} {a b c : Expr} {px py pz pt pt2 : Pos} {kt k2} {m : MM (List Pa)} (hN : X.N.Nodup) (h : EP X cl [a, b, c] m) (hc : X.calm = true := by rfl) (hi : X.N[i]? = some x := by rfl) (hj : X.N[j]? = some y := by rfl) (hl : X.N[l]? = some z := by rfl)
    (hij : i ≠ j := by decide) (hil : i ≠ l := by decide) (hjl : j ≠ l := by decide)
    (hx : X.env.scope.names.lookup x = some .local := by rfl) (hy : X.env.scope.names.lookup y = some .local := by rfl) (hz : X.env.scope.names.lookup z = some .local := by rfl)
    (hw : swappedStores [.Tuple [.Name x px, .Name y py, .Name z pz] kt pt] (.Tuple [a, b, c] k2 pt2) X.env = pure (some [x, y, z]) := by rfl)
    (hs : swapsWithSole [.Tuple [.Name x px, .Name y py, .Name z pz] kt pt] (.Tuple [a, b, c] k2 pt2) pos.line X.env = pure false := by rfl) :
    ES X cl (.Assign [.Tuple [.Name x px, .Name y py, .Name z pz] kt pt] (.Tuple [a, b, c] k2 pt2) pos) (spar [i, j, l] m) := by
  refine (ps_par3 hc hN hi hj hl hij hil hjl hx hy hz h hw hs).zi fun Dn σ H q => ?_
  obtain ⟨F, I, env, ex, out, s, hm, k⟩ := q
  obtain ⟨as, e1, e2, h1, h2, rfl⟩ := spar_of hm
  refine ⟨F, I, env, ex, as, e1, s, h1, fun vs ps I' H' s' e' r => ?_⟩
  have hl : vs.length = 3 := by rw [r.length, setsE_length h2]; rfl
  have s2 := SR.sets r s' h2
  match vs, hl with
  | [u, v, w], _ => exact ⟨u, v, w, rfl, k _ I' H' s2 e'⟩
/-! ### targets -/
inductive Tg where
  | one (i : Nat) | tup (is : List Nat)
def gs : List Nat → List V → L2.St → Hp → (L2.St → Hp → Prop) → Prop
  | [] => gNil
  | i :: is => gCons (gName i) (gs is)
def gR (K : PySem.W.Frag) : Tg → TG
  | .one i => gName i
  | .tup is => gTup K is.length (gs is)
def setL : List Nat → List D → En → Option En
  | [], [], e => some e
  | i :: is, d :: ds, e => if okS e i then setL is ds (e.set i (.im d)) else none
  | _, _, _ => none
def mtg : Tg → D → En → Option En
  | .one i, d, e => if okS e i then some (e.set i (.im d)) else none
  | .tup is, .tup ds, e => setL is ds e
  | _, _, _ => none
def Tg.slots : Tg → List Nat
  | .one i => [i]
  | .tup is => is
theorem wipe_set {σ : L2.St} {i : Nat} {o : Option V} : ∀ {vs : List Nat}, i ∈ vs → wipe (σ.set i o) vs = wipe σ vs
  | v :: vs, h => by
    unfold wipe
    by_cases q : i ∈ vs
    · rw [wipe_set q]
    · have e : i = v := by simpa [q] using h
      subst e
      apply List.ext_getElem?
      intro n
      by_cases hn : i = n
      · subst hn
        by_cases hl : i < σ.length
        · rw [List.getElem?_set_self (by rw [wipe_length]; simpa using hl), List.getElem?_set_self (by rw [wipe_length]; exact hl)]
        · rw [List.getElem?_eq_none (by rw [List.length_set, wipe_length, List.length_set]; omega), List.getElem?_eq_none (by rw [List.length_set, wipe_length]; omega)]
      · rw [List.getElem?_set_ne hn, List.getElem?_set_ne hn]
        have : ∀ {ws : List Nat}, i ∉ ws → (wipe (σ.set i o) ws)[n]? = (wipe σ ws)[n]? := by
          intro ws
          induction ws with
          | nil => intro _; exact List.getElem?_set_ne hn
          | cons w ws ih =>
            intro hw
            unfold wipe
            have h1 := ih fun z => hw (by simp [z])
            by_cases hwn : w = n
            · subst hwn
              by_cases hl : w < σ.length
              · rw [List.getElem?_set_self (by rw [wipe_length]; simpa using hl), List.getElem?_set_self (by rw [wipe_length]; exact hl)]
              · rw [List.getElem?_eq_none (by rw [List.length_set, wipe_length]; simpa using hl), List.getElem?_eq_none (by rw [List.length_set, wipe_length]; simpa using hl)]
            · rw [List.getElem?_set_ne hwn, List.getElem?_set_ne hwn]; exact h1
        exact this q
theorem SR.setL {K : PySem.W.Frag} {F : Fx} {I H : Hp} {ex : List (Addr × HO)} : ∀ {is : List Nat} {vs : List V} {ds : List D} {σ : L2.St} {env env' : En} {Q : L2.St → Hp → Prop}, SR K cl F I H σ env ex → RepL K cl I vs ds → Zf.setL is ds env = some env' →
    (∀ σ', SR K cl F I H σ' env' ex → (∀ ws, (∀ i ∈ is, i ∈ ws) → wipe σ' ws = wipe σ ws) → Q σ' H) → gs is vs σ H Q
  | [], vs, ds, σ, env, env', Q, s, r, h, k => by
    cases r with
    | nil => cases h; exact ⟨rfl, k σ s fun _ _ => rfl⟩
    | cons _ _ => cases h
  | i :: is, vs, ds, σ, env, env', Q, s, r, h, k => by
    cases r with
    | nil => cases h
    | @cons v d vs ds r1 r =>
      simp only [Zf.setL] at h
      split at h
      · rename_i ho
        refine ⟨v, vs, rfl, SR.setL (is := is) (s.set ho r1) r h fun σ' s' hw => k σ' s' fun ws hws => ?_⟩
        rw [hw ws fun j hj => hws j (by simp [hj]), wipe_set (hws i (by simp))]
      · cases h
theorem SR.tg {K : PySem.W.Frag} {F : Fx} {I H : Hp} {ex : List (Addr × HO)} {t : Tg} {v : V} {d : D} {σ : L2.St} {env env' : En} {Q : L2.St → Hp → Prop} (s : SR K cl F I H σ env ex) (r : Rep K cl I v d) (h : mtg t d env = some env')
    (k : ∀ σ', SR K cl F I H σ' env' ex → (∀ ws, (∀ i ∈ t.slots, i ∈ ws) → wipe σ' ws = wipe σ ws) → Q σ' H) : gR K t v σ H Q := by
  cases t with
  | one i =>
    simp only [mtg] at h
    split at h
    · rename_i ho
      cases h
      exact k _ (s.set ho r) fun ws hw => wipe_set (hw i (by simp [Tg.slots]))
    · cases h
  | tup is =>
    cases r <;> try (cases h; done)
    rename_i a vs ds hs r
    refine ⟨a, vs, rfl, ex_t s.ih hs, ?_, s.setL r h k⟩
    rw [r.length]
    have : ∀ {is : List Nat} {ds : List D} {e e' : En}, Zf.setL is ds e = some e' → ds.length = is.length := by
      intro is
      induction is with
      | nil => intro ds e e' h; cases ds with
        | nil => rfl
        | cons _ _ => cases h
      | cons i is ih => intro ds e e' h; cases ds with
        | nil => cases h
        | cons d ds =>
          simp only [Zf.setL] at h
          split at h
          · simp [ih h]
          · cases h
    exact this h
def sasg (t : Tg) (m : MM D) : SM := fun env => match m env with
  | some (d, e1) => (match mtg t d e1 with
    | some e2 => some (.nx e2)
    | none => none)
  | none => none
theorem es_asg {tg : Expr} {t : Tg} (h : EM X cl e ma) (hg : PG X tg (gR X.K t)) (hs : swapsWithSole [tg] e pos.line X.env = pure false := by rfl) (hw : swappedStores [tg] e X.env = pure none := by rfl)
    (h1 : (assignEach [tg] X.env).map (·.2) = [assign tg X.env] := by rfl) : ES X cl (.Assign [tg] e pos) (sasg t ma) := (ps_asg h hg hs hw h1).zi fun Dn σ H q => by
  obtain ⟨F, I, env, ex, out, s, hm, k⟩ := q
  unfold sasg at hm
  split at hm
  · rename_i d e1 h1
    split at hm
    · rename_i e2 h2
      cases hm
      exact ⟨F, I, env, ex, d, e1, s, h1, fun v I' H' s' e' r => s'.tg r h2 fun σ' s2 _ => k σ' I' H' s2 e'⟩
    · cases hm
  · cases hm
/-! ### what is walked -/
structure WD (K : PySem.W.Frag) (cl : Nat → Addr) (I0 : Hp) (J : It) (ds : List D) : Prop where
  go : ∀ i H, i < ds.length → Ex I0 H → J.go i H
  stop : ∀ H, Ex I0 H → J.stop ds.length H
  yld : ∀ i I H x H', i < ds.length → Ex I0 I → Ex I H → J.yld i H x H' → ∃ I' d, ds[i]? = some d ∧ Gr I H I' H' ∧ Rep K cl I' x d
def tI (K : PySem.W.Frag) (cl : Nat → Addr) (m : MM (List D)) : TI := fun σ H R => ∃ F I env ex ds env', SR K cl F I H σ env ex ∧ m env = some (ds, env') ∧ ∀ J I' H', SR K cl F I' H' σ env' ex → Ex I I' → WD K cl I' J ds → R J H'
abbrev EI (X : Cx) (cl : Nat → Addr) (tg it : Expr) (m : MM (List D)) : Prop := PI X tg it (tI X.K cl m)
def forL (t : Tg) (mb : SM) : List D → En → Option Out
  | [], e => some (.nx e)
  | d :: ds, e => match mtg t d e with
    | some e1 => (match mb e1 with
      | some (.nx e2) => forL t mb ds e2
      | some (.ct e2) => forL t mb ds e2
      | some (.bk e2) => some (.nx e2)
      | some (.rt r e2) => some (.rt r e2)
      | none => none)
    | none => none
def sfor (t : Tg) (mi : MM (List D)) (mb : SM) : SM := fun env => match mi env with
  | some (ds, e1) => forL t mb ds e1
  | none => none
theorem es_for {tg it : Expr} {t : Tg} {mi : MM (List D)} (hi : EI X cl tg it mi) (hg : PG X tg (gR X.K t)) (hb : ESs X cl body sm) (hs : ∀ x, foldedSetIterable it X.env x = pure x := by intro _; rfl) (hc : X.calm = true := by rfl) (hp : PassesOwn (model X.prog X.w) X.A X.env X.xe := by exact PassesOwn.never) : ES X cl (.For tg it body [] pos) (sfor t mi sm) := by
  refine (ps_for hp hc hi hg hb hs).zi fun Dn σ H q => ?_
  obtain ⟨F, I, env, ex, out, s, hm, k⟩ := q
  unfold sfor at hm
  split at hm
  · rename_i ds e1 h1
    refine ⟨F, I, env, ex, ds, e1, s, h1, fun J I1 H1 s1 q1 wd => ?_⟩
    refine ⟨fun i m σ H => m = ds.length - i ∧ i ≤ ds.length ∧ ∃ I' ei, SR X.K cl F I' H σ ei ex ∧ Ex I1 I' ∧ forL t sm (ds.drop i) ei = some out, ⟨ds.length, by simp, Nat.zero_le _, I1, e1, s1, Ex.refl _, hm⟩, ?_⟩
    rintro i m σ H ⟨rfl, hi, I', ei, s', q', hf⟩
    by_cases hlt : i < ds.length
    · right
      refine ⟨wd.go i H hlt (q'.trans s'.ih), fun σ2 H2 => ∃ I2 e2, SR X.K cl F I2 H2 σ2 e2 ex ∧ Ex I1 I2 ∧ forL t sm (ds.drop (i + 1)) e2 = some out, fun σ2 H2 ⟨I2, e2, s2, q2, h2⟩ => ⟨ds.length - (i + 1), by omega, rfl, hlt, I2, e2, s2, q2, h2⟩, fun x H2 hy => ?_⟩
      obtain ⟨I2, d, hd, g, r⟩ := wd.yld i I' H x H2 hlt q' s'.ih hy
      have e : ds.drop i = d :: ds.drop (i + 1) := by
        rw [List.drop_eq_getElem_cons hlt]
        congr
        have := List.getElem?_eq_getElem hlt
        rw [hd] at this
        exact (Option.some.inj this).symm
      rw [e] at hf
      simp only [forL] at hf
      split at hf
      · rename_i e2 h2
        refine (s'.gr g).tg r h2 fun σ3 s3 _ => ?_
        have q3 : Ex I1 I2 := q'.trans g.i
        split at hf
        · rename_i e3 h3
          exact ⟨F, I2, e2, ex, .nx e3, s3, h3, fun σ4 I4 H4 s4 q4 => ⟨I4, e3, s4, q3.trans q4, hf⟩⟩
        · rename_i e3 h3
          exact ⟨F, I2, e2, ex, .ct e3, s3, h3, fun σ4 I4 H4 s4 q4 => ⟨I4, e3, s4, q3.trans q4, hf⟩⟩
        · rename_i e3 h3
          cases hf
          exact ⟨F, I2, e2, ex, .bk e3, s3, h3, fun σ4 I4 H4 s4 q4 => k σ4 I4 H4 s4 ((q1.trans q3).trans q4)⟩
        · rename_i r2 e3 h3
          cases hf
          exact ⟨F, I2, e2, ex, .rt r2 e3, s3, h3, fun v σ4 I4 H4 s4 q4 r4 => k v σ4 I4 H4 s4 ((q1.trans q3).trans q4) r4⟩
        · cases hf
      · cases hf
    · left
      have e : i = ds.length := by omega
      subst e
      rw [List.drop_length] at hf
      cases hf
      exact ⟨wd.stop H (q'.trans s'.ih), k σ I' H s' (q1.trans q')⟩
  · cases hm
/-! ### while -/
def swhile (t : MM Bool) (mb : SM) : Nat → SM
  | 0 => fun _ => none
  | n + 1 => fun env => match t env with
    | some (false, e1) => some (.nx e1)
    | some (true, e1) => (match mb e1 with
      | some (.nx e2) => swhile t mb n e2
      | some (.ct e2) => swhile t mb n e2
      | some (.bk e2) => some (.nx e2)
      | some (.rt r e2) => some (.rt r e2)
      | none => none)
    | none => none
theorem es_while {t : MM Bool} (n : Nat) (hc : EB X cl e t) (hb : ESs X cl body sm) (hp : PassesOwn (model X.prog X.w) X.A X.env X.xe := by exact PassesOwn.never) : ES X cl (.While e body [] pos) (swhile t sm n) := by
  refine (ps_while hp hc hb).zi fun Dn σ H q => ?_
  obtain ⟨F, I, env, ex, out, s, hm, k⟩ := q
  refine ⟨fun m σ H => ∃ I' ei, SR X.K cl F I' H σ ei ex ∧ Ex I I' ∧ swhile t sm m ei = some out, ⟨n, I, env, s, Ex.refl _, hm⟩, ?_⟩
  rintro m σ H ⟨I', ei, s', q', hf⟩
  cases m with
  | zero => cases hf
  | succ m =>
    simp only [swhile] at hf
    split at hf
    · rename_i e1 h1
      cases hf
      exact ⟨F, I', ei, ex, false, e1, s', h1, fun I2 H2 s2 q2 => iteF (k σ I2 H2 s2 (q'.trans q2))⟩
    · rename_i e1 h1
      refine ⟨F, I', ei, ex, true, e1, s', h1, fun I2 H2 s2 q2 => iteT ⟨fun σ3 H3 => ∃ I3 e3, SR X.K cl F I3 H3 σ3 e3 ex ∧ Ex I I3 ∧ swhile t sm m e3 = some out, fun σ3 H3 ⟨I3, e3, s3, q3, h3⟩ => ⟨m, by omega, I3, e3, s3, q3, h3⟩, ?_⟩⟩
      have q3 : Ex I I2 := q'.trans q2
      split at hf
      · rename_i e3 h3
        exact ⟨F, I2, e1, ex, .nx e3, s2, h3, fun σ4 I4 H4 s4 q4 => ⟨I4, e3, s4, q3.trans q4, hf⟩⟩
      · rename_i e3 h3
        exact ⟨F, I2, e1, ex, .ct e3, s2, h3, fun σ4 I4 H4 s4 q4 => ⟨I4, e3, s4, q3.trans q4, hf⟩⟩
      · rename_i e3 h3
        cases hf
        exact ⟨F, I2, e1, ex, .bk e3, s2, h3, fun σ4 I4 H4 s4 q4 => k σ4 I4 H4 s4 (q3.trans q4)⟩
      · rename_i r2 e3 h3
        cases hf
        exact ⟨F, I2, e1, ex, .rt r2 e3, s2, h3, fun v σ4 I4 H4 s4 q4 r4 => k v σ4 I4 H4 s4 (q3.trans q4) r4⟩
      · cases hf
    · cases hf
end
end Zf

set_option Elab.async false
set_option linter.all false
set_option maxRecDepth 100000
set_option maxHeartbeats 1000000
/-! Zf, part 5: comprehensions, calls of defs, defs. -/
namespace Zf
open PySem PySem.Spec L2
/-! ### comprehensions -/
def wipeE (e : En) : List Nat → En
  | [] => e
  | v :: vs => (wipeE e vs).set v .no
def okW (e : En) (own : List Nat) : Bool := own.all fun i => match e[i]? with
  | some (.mu _ _) => false
  | _ => true
theorem wipeE_length (e : En) : ∀ vs : List Nat, (wipeE e vs).length = e.length
  | [] => rfl
  | v :: vs => by unfold wipeE; rw [List.length_set, wipeE_length e vs]
theorem wipeE_mu {e : En} {i : Nat} {p : Bool} {m : Mu} : ∀ {vs : List Nat}, (wipeE e vs)[i]? = some (.mu p m) → e[i]? = some (.mu p m)
  | [], h => h
  | v :: vs, h => by
    unfold wipeE at h
    by_cases q : v = i
    · subst q
      by_cases hl : v < (wipeE e vs).length
      · rw [List.getElem?_set_self hl] at h; cases h
      · rw [List.getElem?_eq_none (by simpa using hl)] at h; cases h
    · rw [List.getElem?_set_ne q] at h
      exact wipeE_mu h
section
variable {K : PySem.W.Frag} {cl : Nat → Addr}
theorem SR.wipe {F : Fx} {I H : Hp} {ex : List (Addr × HO)} {σ : L2.St} {env : En} (s : SR K cl F I H σ env ex) : ∀ {vs : List Nat}, okW env vs = true → SR K cl F I H (L2.wipe σ vs) (wipeE env vs) ex
  | [], _ => s
  | v :: vs, h => by
    unfold okW at h
    rw [List.all_cons, Bool.and_eq_true] at h
    obtain ⟨f, s2⟩ := SR.wipe s (vs := vs) h.2
    refine ⟨f, s2.setNo fun m e => ?_⟩
    have e2 := wipeE_mu e
    rw [e2] at h
    cases h.1
theorem SRx.congr {F : Fx} {I H : Hp} {ex : List (Addr × HO)} {σ σ' : L2.St} {env : En} {f : Nat → List Addr} (s : SRx K cl F I H σ env f ex) (hl : σ'.length = σ.length) (h : ∀ (i : Nat), (∃ x : Sl, env[i]? = some x ∧ x ≠ Sl.no) → σ'[i]? = σ[i]?) : SRx K cl F I H σ' env f ex where
  sl := ⟨fun i d e => by
      obtain ⟨v, h1, h2⟩ := s.sl.im i d e
      exact ⟨v, by rw [h i ⟨_, e, by simp⟩]; exact h1, h2⟩, fun i p m e => by
      obtain ⟨⟨v, h1, h2⟩, h3⟩ := s.sl.mu i p m e
      exact ⟨⟨v, by rw [h i ⟨_, e, by simp⟩]; exact h1, h2⟩, h3⟩, s.sl.dj⟩
  ln := s.ln.trans hl.symm
  ih := s.ih
  ii := s.ii
  fr := s.fr
  st := s.st
  nw := s.nw
  pn := fun i p m e => by
    obtain ⟨m', h1, h2, h3⟩ := s.pn i p m e
    exact ⟨m', h1, h2, by rw [h i ⟨_, h1, by simp⟩]; exact h3⟩
  ex0 := s.ex0
  exd := s.exd
  exn := s.exn
/-- the own slots are forgotten -/
def AllNo (e : En) (own : List Nat) : Prop := ∀ i ∈ own, ∀ x : Sl, e[i]? = some x → x = Sl.no
theorem allNo_wipe {e : En} : ∀ {vs : List Nat}, AllNo (wipeE e vs) vs
  | v :: vs, i, hi, x, h => by
    unfold wipeE at h
    by_cases q : v = i
    · subst q
      by_cases hl : v < (wipeE e vs).length
      · rw [List.getElem?_set_self hl] at h; cases h; rfl
      · rw [List.getElem?_eq_none (by simpa using hl)] at h; cases h
    · rw [List.getElem?_set_ne q] at h
      exact allNo_wipe i (by simpa [Ne.symm q] using hi) x h
theorem SR.unwipe {F : Fx} {I H : Hp} {ex : List (Addr × HO)} {σ : L2.St} {env : En} {vs : List Nat} (s : SR K cl F I H (L2.wipe σ vs) env ex) (hn : AllNo env vs) : SR K cl F I H σ env ex := by
  obtain ⟨f, s⟩ := s
  refine ⟨f, s.congr (by rw [wipe_length]) fun i ⟨x, e, ne⟩ => ?_⟩
  have hi : i ∉ vs := fun z => ne (hn i z x e)
  exact (wipe_out hi).symm
end
def lcL (t : Tg) (own : List Nat) (mt : MM Bool) (me : MM D) : List D → En → Option (List D × En)
  | [], e => some ([], e)
  | d :: ds, e => match mtg t d e with
    | some e1 => (match mt e1 with
      | some (true, e2) => (match me e2 with
        | some (x, e3) => if okW e3 own then (match lcL t own mt me ds (wipeE e3 own) with
          | some (xs, e4) => some (x :: xs, e4)
          | none => none) else none
        | none => none)
      | some (false, e2) => if okW e2 own then lcL t own mt me ds (wipeE e2 own) else none
      | none => none)
    | none => none
/-- a comprehension -/
def mlc (t : Tg) (own : List Nat) (mi : MM (List D)) (mt : MM Bool) (me : MM D) : MM (List D) := fun env => match mi env with
  | some (ds, e1) => if ds.length ≤ 100000 ∧ okW e1 own = true then lcL t own mt me ds (wipeE e1 own) else none
  | none => none
theorem lcL_le {t : Tg} {own : List Nat} {mt : MM Bool} {me : MM D} : ∀ {ds xs : List D} {e e' : En}, lcL t own mt me ds e = some (xs, e') → xs.length ≤ ds.length
  | [], xs, e, e', h => by cases h; exact Nat.le_refl _
  | d :: ds, xs, e, e', h => by
    simp only [lcL] at h
    split at h
    · split at h
      · split at h
        · split at h
          · split at h
            · rename_i h1
              cases h
              exact Nat.succ_le_succ (lcL_le h1)
            · cases h
          · cases h
        · cases h
      · split at h
        · exact Nat.le_succ_of_le (lcL_le h)
        · cases h
      · cases h
    · cases h
section
variable {X : Cx} {cl : Nat → Addr}
abbrev mtrue : MM Bool := fun env => some (true, env)
abbrev EBs (X : Cx) (cl : Nat → Addr) (es : List Expr) (m : MM Bool) : Prop := PTs X es (tBo X.K cl m)
theorem ets_nil : EBs X cl [] mtrue := by
  refine ⟨fun pins s σ H Q I h => ?_⟩
  obtain ⟨F, J, env, ex, b, env', s1, hm, k⟩ := h
  cases hm
  exact pts_nil.run pins s σ H Q I (k J H s1 (Ex.refl _))
theorem ets_one {c : Expr} {m : MM Bool} (h : EB X cl c m) : EBs X cl [c] m := pts_one h
theorem SR.last {K : PySem.W.Frag} {F : Fx} {I H : Hp} {σ : L2.St} {env : En} {p : Addr} {o : HO} {ex : List (Addr × HO)} (s : SR K cl F I H σ env ((p, o) :: ex)) : H p = some o := let ⟨_, s⟩ := s; (s.ex0 (p, o) (by simp)).2.1
theorem wipe_wipe (σ : L2.St) (vs : List Nat) : wipe (wipe σ vs) vs = wipe σ vs := by
  apply List.ext_getElem?
  intro n
  by_cases hn : n ∈ vs
  · have z : ∀ τ : L2.St, ∀ us : List Nat, n ∈ us → n < τ.length → (wipe τ us)[n]? = some none := by
      intro τ us
      induction us with
      | nil => intro h; cases h
      | cons u us ih =>
        intro h hl
        unfold wipe
        by_cases hu : u = n
        · subst hu; rw [List.getElem?_set_self (by rw [wipe_length]; exact hl)]
        · rw [List.getElem?_set_ne hu]; exact ih (by simpa [Ne.symm hu] using h) hl
    by_cases hl : n < σ.length
    · rw [z _ vs hn (by rw [wipe_length]; exact hl), z _ vs hn hl]
    · rw [List.getElem?_eq_none (by rw [wipe_length, wipe_length]; omega), List.getElem?_eq_none (by rw [wipe_length]; omega)]
  · rw [wipe_out hn]
theorem lc_imp {K : PySem.W.Frag} {own : List Nat} {t : Tg} {mi : MM (List D)} {mt : MM Bool} {me : MM D} (hsl : ∀ i ∈ t.slots, i ∈ own) (σ : L2.St) (H : Hp) (Q : VK) (q : tF K cl (mlc t own mi mt me) σ H Q) :
    tLc (tI K cl mi) (gR K t) (tBo K cl mt) (tM K cl me) own σ H Q := by
  obtain ⟨F, I, env, ex, out, env', s, hm, k⟩ := q
  unfold mlc at hm
  split at hm
  · rename_i ds e1 h1
    split at hm
    · rename_i hw
      obtain ⟨hlen, hw⟩ := hw
      have hlen2 : ds.length ≤ sizeLine := Nat.le_trans hlen (by decide)
      refine ⟨F, I, env, ex, ds, e1, s, h1, fun J I1 H1 s1 q1 wd DD hD => ?_⟩
      refine ⟨fun i m H => m = ds.length - i ∧ i ≤ ds.length ∧ ∃ I' ei acc ws xs, SR K cl F I' H (wipe σ own) ei ((DD, .lst ws) :: ex) ∧ Ex I1 I' ∧ RepL K cl I' ws acc ∧ AllNo ei own ∧ acc.length ≤ i ∧ lcL t own mt me (ds.drop i) ei = some (xs, env') ∧ out = acc ++ xs,
        ⟨ds.length, by simp, Nat.zero_le _, I1, _, [], [], out, (s1.wipe hw).lay hD, Ex.refl _, .nil, allNo_wipe, Nat.le_refl _, hm, rfl⟩, ?_⟩
      rintro i m H ⟨rfl, hi, I', ei, acc, ws, xs, s', q', ra, hno, hacc, hf, hout⟩
      by_cases hlt : i < ds.length
      · right
        refine ⟨wd.go i H hlt (q'.trans s'.ih), fun H2 => ∃ I2 e2 acc2 ws2 xs2, SR K cl F I2 H2 (wipe σ own) e2 ((DD, .lst ws2) :: ex) ∧ Ex I1 I2 ∧ RepL K cl I2 ws2 acc2 ∧ AllNo e2 own ∧ acc2.length ≤ i + 1 ∧ lcL t own mt me (ds.drop (i + 1)) e2 = some (xs2, env') ∧ out = acc2 ++ xs2,
          fun H2 ⟨I2, e2, acc2, ws2, xs2, h⟩ => ⟨ds.length - (i + 1), by omega, rfl, hlt, I2, e2, acc2, ws2, xs2, h⟩, fun x H2 hy => ?_⟩
        obtain ⟨I2, d, hd, g, r⟩ := wd.yld i I' H x H2 hlt q' s'.ih hy
        have e : ds.drop i = d :: ds.drop (i + 1) := by
          rw [List.drop_eq_getElem_cons hlt]
          congr
          have := List.getElem?_eq_getElem hlt
          rw [hd] at this
          exact (Option.some.inj this).symm
        rw [e] at hf
        simp only [lcL] at hf
        have q3 : Ex I1 I2 := q'.trans g.i
        split at hf
        · rename_i e2 h2
          refine (s'.gr g).tg r h2 fun σ3 s3 hwp => ⟨(hwp _ hsl).trans (wipe_wipe _ _), ?_⟩
          have hw3 : wipe σ3 own = wipe σ own := (hwp _ hsl).trans (wipe_wipe _ _)
          split at hf
          · rename_i e3 h3
            refine ⟨F, I2, e2, _, true, e3, s3, h3, fun I3 H3 s4 q4 => ?_⟩
            split at hf
            · rename_i y e4 h4
              split at hf
              · rename_i hok
                split at hf
                · rename_i xs2 e5 h5
                  cases hf
                  refine iteT ⟨F, I3, e3, _, y, e4, s4, h4, fun v I4 H4 s5 q5 r5 => ⟨ws, s5.last, ?_, ?_⟩⟩
                  · rw [ra.length]
                    exact Nat.lt_of_le_of_lt hacc (Nat.lt_of_lt_of_le hlt hlen2)
                  · have s6 := s5.wipe hok
                    rw [hw3] at s6
                    obtain ⟨f6, s6⟩ := s6
                    exact ⟨I4, _, acc ++ [y], ws ++ [v], xs2, ⟨f6, s6.exSet⟩, (q3.trans q4).trans q5, ((ra.ex ((g.i.trans q4).trans q5)).append (.cons r5 .nil)), allNo_wipe, by simp; omega, h5, by rw [hout]; simp⟩
                · cases hf
              · cases hf
            · cases hf
          · rename_i e3 h3
            refine ⟨F, I2, e2, _, false, e3, s3, h3, fun I3 H3 s4 q4 => ?_⟩
            split at hf
            · rename_i hok
              have s6 := s4.wipe hok
              rw [hw3] at s6
              exact iteF ⟨I3, _, acc, ws, xs, s6, q3.trans q4, ra.ex (g.i.trans q4), allNo_wipe, by omega, hf, hout⟩
            · cases hf
          · cases hf
        · cases hf
      · left
        have e : i = ds.length := by omega
        subst e
        rw [List.drop_length] at hf
        cases hf
        refine ⟨wd.stop H (q'.trans s'.ih), ?_⟩
        rw [List.append_nil] at hout
        subst hout
        exact k DD ws I' H (s'.unwipe hno) (q1.trans q') ra
    · cases hm
  · cases hm
theorem ef_lc {elt tg iter : Expr} {ifs : List Expr} {scope : Scope} {own : List (Str × Nat)} {pos : Pos} {t : Tg} {mi : MM (List D)} {mt : MM Bool} {me : MM D} (hN : X.N.Nodup) (hi : EI X cl tg iter mi) (ok : blkC X.N X.env.scope scope own = true)
    (hg : ∀ (s : Shared) (H : Hp) (C : Addr) (cs : List (Str × Addr)) (fp : List Addr), PG (X.blk s H scope (compEnvC scope cs C X.env) fp) tg (gR X.K t)) (ht : ∀ (s : Shared) (H : Hp) (C : Addr) (cs : List (Str × Addr)) (fp : List Addr), EBs (X.blk s H scope (compEnvC scope cs C X.env) fp) cl ifs mt)
    (he : ∀ (s : Shared) (H : Hp) (C : Addr) (cs : List (Str × Addr)) (fp : List Addr), EM (X.blk s H scope (compEnvC scope cs C X.env) fp) cl elt me) (hsl : ∀ i ∈ t.slots, i ∈ own.map (·.2) := by decide) (hs : ∀ x, foldedSetIterable iter X.env x = pure x := by intro _; rfl) (hc : X.calm = true := by rfl) :
    EF X cl (.ListComp elt [⟨tg, iter, ifs, 0⟩] scope pos) (mlc t (own.map (·.2)) mi mt me) := by
  exact (pe_lc (te := tM X.K cl me) (tt := tBo X.K cl mt) hc hN hi (blkOk_by ok) hg ht he hs).zi (lc_imp hsl)
theorem es_lcOwn (i : Nat) {y : Str} {py : Pos} {elt tg iter : Expr} {ifs : List Expr} {scope : Scope} {own : List (Str × Nat)} {pos spos : Pos} {t : Tg} {mi : MM (List D)} {mt : MM Bool} {me : MM D} (hN : X.N.Nodup) (hi : EI X cl tg iter mi) (ok : blkC X.N X.env.scope scope own = true)
    (hg : ∀ (s : Shared) (H : Hp) (C : Addr) (cs : List (Str × Addr)) (fp : List Addr), PG (X.blk s H scope (compEnvC scope cs C X.env) fp) tg (gR X.K t)) (ht : ∀ (s : Shared) (H : Hp) (C : Addr) (cs : List (Str × Addr)) (fp : List Addr), EBs (X.blk s H scope (compEnvC scope cs C X.env) fp) cl ifs mt)
    (he : ∀ (s : Shared) (H : Hp) (C : Addr) (cs : List (Str × Addr)) (fp : List Addr), EM (X.blk s H scope (compEnvC scope cs C X.env) fp) cl elt me) (hsw : swapsWith (.ListComp elt [⟨tg, iter, ifs, 0⟩] scope pos) (some (.Name y py)) spos.line X.env = pure true)
    (hy : X.N[i]? = some y := by rfl) (hyl : X.env.scope.names.lookup y = some .local := by rfl) (hsl : ∀ i ∈ t.slots, i ∈ own.map (·.2) := by decide) (hs : ∀ x, foldedSetIterable iter X.env x = pure x := by intro _; rfl) (hc : X.calm = true := by rfl) :
    ES X cl (.Assign [.Name y py] (.ListComp elt [⟨tg, iter, ifs, 0⟩] scope pos) spos) (sown i (mlc t (own.map (·.2)) mi mt me)) := by
  refine (ps_setLc (i := i) (te := tM X.K cl me) (tt := tBo X.K cl mt) hc hN hy hyl hsw hi (blkOk_by ok) hg ht he hs).zi fun Dn σ H q => lc_imp hsl σ H _ ?_
  obtain ⟨F, I, env, ex, out, s, hm, k⟩ := q
  unfold sown at hm
  split at hm
  · rename_i ds e1 h1
    split at hm
    · rename_i ho
      cases hm
      exact ⟨F, I, env, ex, ds, e1, s, h1, fun p vs I' H' s' e' r => k _ I' H' (SR.setOwn s' ho r) e'⟩
    · cases hm
  · cases hm
theorem es_lcIm (i : Nat) {y : Str} {py : Pos} {elt tg iter : Expr} {ifs : List Expr} {scope : Scope} {own : List (Str × Nat)} {pos spos : Pos} {t : Tg} {mi : MM (List D)} {mt : MM Bool} {me : MM D} (hN : X.N.Nodup) (hi : EI X cl tg iter mi) (ok : blkC X.N X.env.scope scope own = true)
    (hg : ∀ (s : Shared) (H : Hp) (C : Addr) (cs : List (Str × Addr)) (fp : List Addr), PG (X.blk s H scope (compEnvC scope cs C X.env) fp) tg (gR X.K t)) (ht : ∀ (s : Shared) (H : Hp) (C : Addr) (cs : List (Str × Addr)) (fp : List Addr), EBs (X.blk s H scope (compEnvC scope cs C X.env) fp) cl ifs mt)
    (he : ∀ (s : Shared) (H : Hp) (C : Addr) (cs : List (Str × Addr)) (fp : List Addr), EM (X.blk s H scope (compEnvC scope cs C X.env) fp) cl elt me) (hsw : swapsWith (.ListComp elt [⟨tg, iter, ifs, 0⟩] scope pos) (some (.Name y py)) spos.line X.env = pure true)
    (hy : X.N[i]? = some y := by rfl) (hyl : X.env.scope.names.lookup y = some .local := by rfl) (hsl : ∀ i ∈ t.slots, i ∈ own.map (·.2) := by decide) (hs : ∀ x, foldedSetIterable iter X.env x = pure x := by intro _; rfl) (hc : X.calm = true := by rfl) :
    ES X cl (.Assign [.Name y py] (.ListComp elt [⟨tg, iter, ifs, 0⟩] scope pos) spos) (sset i (MM.map (mlc t (own.map (·.2)) mi mt me) .lst)) := by
  refine (ps_setLc (i := i) (te := tM X.K cl me) (tt := tBo X.K cl mt) hc hN hy hyl hsw hi (blkOk_by ok) hg ht he hs).zi fun Dn σ H q => lc_imp hsl σ H _ ?_
  obtain ⟨F, I, env, ex, out, s, hm, k⟩ := q
  unfold sset MM.map at hm
  split at hm
  · rename_i d e1 h1
    split at h1
    · rename_i ds e2 h2
      cases h1
      split at hm
      · rename_i ho
        cases hm
        refine ⟨F, I, env, ex, ds, e1, s, h2, fun p vs I' H' ⟨f, s'⟩ e' r => ?_⟩
        obtain ⟨e2, s2⟩ := s'.exFreeze
        exact k _ _ _ (SR.set ⟨f, s2⟩ ho (.lst upd_same (r.ex e2))) (e'.trans e2)
      · cases hm
    · cases h1
  · cases hm
end
/-! ### calls of defs -/
/-- an argument: data, or a slot's object itself -/
inductive Ar where
  | im (d : D) | sl (i : Nat)
  deriving Inhabited
def Ar.slot : Ar → Option Nat
  | .im _ => none
  | .sl i => some i
inductive ArR (K : PySem.W.Frag) (cl : Nat → Addr) (I : Hp) (σ : L2.St) : List Ar → List V → Prop
  | nil : ArR K cl I σ [] []
  | im {d : D} {v : V} {as : List Ar} {vs : List V} : Rep K cl I v d → ArR K cl I σ as vs → ArR K cl I σ (.im d :: as) (v :: vs)
  | sl {i : Nat} {v : V} {as : List Ar} {vs : List V} : σ[i]? = some (some v) → ArR K cl I σ as vs → ArR K cl I σ (.sl i :: as) (v :: vs)
section
variable {K : PySem.W.Frag} {cl : Nat → Addr}
theorem ArR.ex {I I' : Hp} {σ : L2.St} (e : Ex I I') {as : List Ar} {vs : List V} (h : ArR K cl I σ as vs) : ArR K cl I' σ as vs := by
  induction h with
  | nil => exact .nil
  | im r _ ih => exact .im (r.ex e) ih
  | sl r _ ih => exact .sl r ih
theorem ArR.length {I : Hp} {σ : L2.St} {as : List Ar} {vs : List V} (h : ArR K cl I σ as vs) : vs.length = as.length := by
  induction h with
  | nil => rfl
  | im r _ ih => simp [ih]
  | sl r _ ih => simp [ih]
theorem ArR.get {I : Hp} {σ : L2.St} {as : List Ar} {vs : List V} (h : ArR K cl I σ as vs) : ∀ {k : Nat} {a : Ar}, as[k]? = some a → ∃ v, vs[k]? = some v ∧ (match a with
    | .im d => Rep K cl I v d
    | .sl i => σ[i]? = some (some v)) := by
  induction h with
  | nil => intro k a e; cases e
  | im r _ ih =>
    intro k a e
    cases k with
    | zero => cases e; exact ⟨_, rfl, r⟩
    | succ k => exact ih (by simpa using e)
  | sl r _ ih =>
    intro k a e
    cases k with
    | zero => cases e; exact ⟨_, rfl, r⟩
    | succ k => exact ih (by simpa using e)
end
def tA (K : PySem.W.Frag) (cl : Nat → Addr) (m : MM (List Ar)) : TA := fun σ H Q => ∃ F I env ex as env', SR K cl F I H σ env ex ∧ m env = some (as, env') ∧ ∀ vs I' H', SR K cl F I' H' σ env' ex → Ex I I' → ArR K cl I' σ as vs → Q vs H'
abbrev EAr (X : Cx) (cl : Nat → Addr) (es : List Expr) (m : MM (List Ar)) : Prop := PA X es (tA X.K cl m)
def anil : MM (List Ar) := fun env => some ([], env)
def acim (ma : MM D) (mr : MM (List Ar)) : MM (List Ar) := fun env => match ma env with
  | some (a, e1) => (match mr e1 with
    | some (r, e2) => some (.im a :: r, e2)
    | none => none)
  | none => none
def acsl (i : Nat) (mr : MM (List Ar)) : MM (List Ar) := fun env => match env[i]? with
  | some (.mu _ _) => (match mr env with
    | some (r, e2) => some (.sl i :: r, e2)
    | none => none)
  | _ => none
section
variable {X : Cx} {cl : Nat → Addr} {e : Expr} {es : List Expr} {ma : MM D} {mr : MM (List Ar)}
theorem er_nil : EAr X cl [] anil := pa_nil.zi fun σ H Q h => by
  obtain ⟨F, I, env, ex, as, env', s, hm, k⟩ := h
  cases hm
  exact k [] I H s (Ex.refl _) .nil
theorem er_im (ha : EM X cl e ma) (hr : EAr X cl es mr) (hs : starEach (e :: es) X.env = (false, eval e X.env) :: starEach es X.env := by rfl) : EAr X cl (e :: es) (acim ma mr) := (pa_cons ha hr hs).zi fun σ H Q h => by
  obtain ⟨F, I, env, ex, as, env', s, hm, k⟩ := h
  unfold acim at hm
  split at hm
  · rename_i a e1 h1
    split at hm
    · rename_i r e2 h2
      cases hm
      exact ⟨F, I, env, ex, a, e1, s, h1, fun v I1 H1 s1 q1 r1 => ⟨F, I1, e1, ex, r, env', s1, h2, fun vs I2 H2 s2 q2 r2 => k (v :: vs) I2 H2 s2 (q1.trans q2) (.im (r1.ex q2) r2)⟩⟩
    · cases hm
  · cases hm
theorem er_sl (i : Nat) {x : Str} {p : Pos} (hr : EAr X cl es mr) (hN : X.N[i]? = some x := by rfl) (hv : Vis X.env.scope x := by first | exact Or.inl rfl | exact Or.inr (Or.inl rfl) | exact Or.inr (Or.inr rfl)) (hd : (x == ("__debug__" : Str)) = false := by decide)
    (hcd : (x == ("__classdict__" : Str)) = false := by decide) (hs : starEach (.Name x p :: es) X.env = (false, eval (.Name x p) X.env) :: starEach es X.env := by rfl) : EAr X cl (.Name x p :: es) (acsl i mr) := (pa_cons (pe_var hN hv hd hcd) hr hs).zi fun σ H Q h => by
  obtain ⟨F, I, env, ex, as, env', s, hm, k⟩ := h
  unfold acsl at hm
  split at hm
  · rename_i p m e1
    split at hm
    · rename_i r e2 h2
      cases hm
      obtain ⟨f, s'⟩ := id s
      obtain ⟨v, hv, _⟩ := s'.lookM e1
      exact ⟨v, hv, F, I, env, ex, r, env', s, h2, fun vs I2 H2 s2 q2 r2 => k (v :: vs) I2 H2 s2 q2 (.sl hv r2)⟩
    · cases hm
  · cases hm
end
/-- the arguments as the callee has them -/
def argsE (e : En) : List Ar → Option En
  | [] => some []
  | .im d :: as => (match argsE e as with
    | some r => some (.im d :: r)
    | none => none)
  | .sl i :: as => (match e[i]? with
    | some (.mu _ m) => (match argsE e as with
      | some r => some (.mu true m :: r)
      | none => none)
    | _ => none)
/-- the caller's slots behind the call -/
def updE (e : En) : List Ar → En → En
  | .im _ :: as, _ :: ns => updE e as ns
  | .sl i :: as, .mu _ m' :: ns => (match e[i]? with
    | some (.mu p _) => updE (e.set i (.mu p m')) as ns
    | _ => updE e as ns)
  | .sl _ :: as, _ :: ns => updE e as ns
  | _, _ => e
def slots (as : List Ar) : List Nat := as.filterMap Ar.slot
def mcall (F : FM) (dfl : List D) (m : MM (List Ar)) : MM D := fun env => match m env with
  | some (as, e1) => if (slots as).Nodup then (match argsE e1 as with
    | some args => (match F (args ++ dfl.map .im) with
      | some (d, news) => some (d, updE e1 as news)
      | none => none)
    | none => none) else none
  | none => none
section
variable (K : PySem.W.Frag) (cl : Nat → Addr)
/-- what a def promises by its mirror F -/
def spM (n : Nat) (F : FM) : Sp := fun vs H Q _ => ∃ (I : Hp) (args : En) (af : Nat → List Addr) (d : D) (news : En), vs.length = n ∧ args.length = n ∧ SlP K cl I H (fun i => vs[i]?) (fun i => args[i]?) af ∧ (∀ (i : Nat) (p : Bool) (m : Mu), args[i]? = some (Sl.mu p m) → p = true) ∧ Ex I H ∧
  (∀ i : Nat, args[i]? ≠ some Sl.no) ∧ F args = some (d, news) ∧ ∀ v I' H', Ex I I' → Ex I' H' → (∀ a, H a ≠ none → I a = none → I' a = none) →
    (∀ a o, H a = some o → (∀ (i : Nat) (p : Bool) (m : Mu), args[i]? = some (Sl.mu p m) → a ∉ af i) → H' a = some o) →
    (∀ (i : Nat) (p : Bool) (m : Mu), args[i]? = some (Sl.mu p m) → ∃ m' u, news[i]? = some (Sl.mu true m') ∧ vs[i]? = some u ∧ MuR K cl I' H' u (af i) m') → Rep K cl I' v d → Q v H'
end
/-- a def that may be called with so many values, the defaults dfl behind -/
def Cal (P : Program) (w : World) (K : PySem.W.Frag) (mg : Str → Option Value) (base : Heap) (cl : Nat → Addr) (x : Str) (k n : Nat) (dfl : List D) (F : FM) : Prop :=
  ∃ (f : Addr) (fd : FuncData) (ps : List Str) (ds : List Value) (dvs : List V), FnOk P w K mg base CX0 k f fd ps (spM K cl n F) ∧ mg x = some (.ref f) ∧ PySem.W.keepIn K (.ref f) = true ∧ Binds K fd ps ds ∧ Vals dvs ds ∧ ∀ I, RepL K cl I dvs dfl
section
variable {K : PySem.W.Frag} {cl : Nat → Addr}
theorem argsE_length {e : En} : ∀ {as : List Ar} {args : En}, argsE e as = some args → args.length = as.length
  | [], args, h => by cases h; rfl
  | .im d :: as, args, h => by
    simp only [argsE] at h
    split at h
    · rename_i r h1; cases h; simp [argsE_length h1]
    · cases h
  | .sl i :: as, args, h => by
    simp only [argsE] at h
    split at h
    · split at h
      · rename_i r h1; cases h; simp [argsE_length h1]
      · cases h
    · cases h
theorem argsE_get {e : En} : ∀ {as : List Ar} {args : En} {k : Nat} {a : Ar}, argsE e as = some args → as[k]? = some a → (match a with
    | .im d => args[k]? = some (Sl.im d)
    | .sl i => ∃ p m, e[i]? = some (Sl.mu p m) ∧ args[k]? = some (Sl.mu true m))
  | [], args, k, a, h, e2 => by cases e2
  | .im d :: as, args, k, a, h, e2 => by
    simp only [argsE] at h
    split at h
    · rename_i r h1
      cases h
      cases k with
      | zero => cases e2; rfl
      | succ k =>
        have z := argsE_get (k := k) (a := a) h1 (by simpa using e2)
        cases a <;> simpa using z
    · cases h
  | .sl i :: as, args, k, a, h, e2 => by
    simp only [argsE] at h
    split at h
    · rename_i p m h0
      split at h
      · rename_i r h1
        cases h
        cases k with
        | zero => cases e2; exact ⟨p, m, h0, rfl⟩
        | succ k =>
        have z := argsE_get (k := k) (a := a) h1 (by simpa using e2)
        cases a <;> simpa using z
      · cases h
    · cases h
theorem mem_slots {as : List Ar} {i : Nat} : i ∈ slots as ↔ ∃ k : Nat, as[k]? = some (Ar.sl i) := by
  unfold slots
  rw [List.mem_filterMap]
  constructor
  · rintro ⟨a, h1, h2⟩
    obtain ⟨k, hk⟩ := List.mem_iff_getElem?.mp h1
    cases a with
    | im d => cases h2
    | sl j => cases h2; exact ⟨k, hk⟩
  · rintro ⟨k, hk⟩
    exact ⟨.sl i, List.mem_of_getElem? hk, rfl⟩
theorem slots_inj : ∀ {as : List Ar} {k j i : Nat}, (slots as).Nodup → as[k]? = some (.sl i) → as[j]? = some (.sl i) → k = j
  | [], k, j, i, _, h, _ => by cases h
  | a :: as, k, j, i, hn, h1, h2 => by
    cases a with
    | im d =>
      have hn : (slots as).Nodup := hn
      cases k with
      | zero => cases h1
      | succ k => cases j with
        | zero => cases h2
        | succ j => exact congrArg Nat.succ (slots_inj hn (by simpa using h1) (by simpa using h2))
    | sl b =>
      have hn : (b :: slots as).Nodup := hn
      obtain ⟨n1, n2⟩ := List.nodup_cons.mp hn
      cases k with
      | zero => cases j with
        | zero => rfl
        | succ j => cases h1; exact absurd (mem_slots.mpr ⟨j, by simpa using h2⟩) n1
      | succ k => cases j with
        | zero => cases h2; exact absurd (mem_slots.mpr ⟨k, by simpa using h1⟩) n1
        | succ j => exact congrArg Nat.succ (slots_inj n2 (by simpa using h1) (by simpa using h2))
/-- the slots behind a call, one by one -/
theorem updE_get : ∀ {as : List Ar} {ns e : En} {j : Nat}, (slots as).Nodup → (∀ (k i : Nat), as[k]? = some (Ar.sl i) → ∃ p m m', e[i]? = some (.mu p m) ∧ ns[k]? = some (.mu true m')) → (as.length ≤ ns.length) →
    (j ∉ slots as → (updE e as ns)[j]? = e[j]?) ∧ (∀ (k : Nat), as[k]? = some (Ar.sl j) → ∃ p m m', e[j]? = some (.mu p m) ∧ ns[k]? = some (.mu true m') ∧ (updE e as ns)[j]? = some (.mu p m'))
  | [], ns, e, j, _, _, _ => ⟨fun _ => by cases ns <;> rfl, fun k h => by cases h⟩
  | a :: as, [], e, j, _, _, hl => by simp at hl
  | .im d :: as, n :: ns, e, j, hn, h, hl => by
    have ih := updE_get (as := as) (ns := ns) (e := e) (j := j) hn (fun k i hk => h (k + 1) i (by simpa using hk)) (by simpa using hl)
    refine ⟨fun z => ih.1 z, fun k hk => ?_⟩
    cases k with
    | zero => cases hk
    | succ k => exact ih.2 k (by simpa using hk)
  | .sl i :: as, n :: ns, e, j, hn, h, hl => by
    have hn : (i :: slots as).Nodup := hn
    obtain ⟨n1, n2⟩ := List.nodup_cons.mp hn
    obtain ⟨p, m, m', h1, h2⟩ := h 0 i rfl
    have h2 : n = .mu true m' := by simpa using h2
    subst h2
    have hlen : i < e.length := (List.getElem?_eq_some_iff.mp h1).1
    have eu : updE e (.sl i :: as) (.mu true m' :: ns) = updE (e.set i (.mu p m')) as ns := by simp only [updE, h1]
    have ih := updE_get (as := as) (ns := ns) (e := e.set i (.mu p m')) (j := j) n2 (fun k b hk => by
      obtain ⟨p2, m2, m3, h3, h4⟩ := h (k + 1) b (by simpa using hk)
      have : i ≠ b := fun z => n1 (mem_slots.mpr ⟨k, z ▸ hk⟩)
      exact ⟨p2, m2, m3, by rw [List.getElem?_set_ne this]; exact h3, by simpa using h4⟩) (by simpa using hl)
    rw [eu]
    refine ⟨fun z => ?_, fun k hk => ?_⟩
    · have hz : j ∉ i :: slots as := z
      rw [List.mem_cons, not_or] at hz
      rw [ih.1 hz.2, List.getElem?_set_ne (Ne.symm hz.1)]
    · cases k with
      | zero =>
        cases hk
        exact ⟨p, m, m', h1, rfl, by rw [ih.1 n1, List.getElem?_set_self hlen]⟩
      | succ k =>
        have hk : as[k]? = some (.sl j) := by simpa using hk
        have : i ≠ j := fun z => n1 (mem_slots.mpr ⟨k, z ▸ hk⟩)
        obtain ⟨p2, m2, m3, h3, h4, h5⟩ := ih.2 k hk
        rw [List.getElem?_set_ne this] at h3
        exact ⟨p2, m2, m3, h3, by simpa using h4, h5⟩
theorem updE_length : ∀ {as : List Ar} {ns e : En}, (updE e as ns).length = e.length
  | [], ns, e => by cases ns <;> rfl
  | .im _ :: as, [], e => rfl
  | .sl _ :: as, [], e => rfl
  | .im d :: as, n :: ns, e => updE_length (as := as)
  | .sl i :: as, .no :: ns, e => updE_length (as := as)
  | .sl i :: as, .im _ :: ns, e => updE_length (as := as)
  | .sl i :: as, .mu _ m' :: ns, e => by
    simp only [updE]
    split
    · rw [updE_length (as := as), List.length_set]
    · exact updE_length (as := as)
/-- the state behind a call -/
theorem SRx.after {F : Fx} {I H I' H' : Hp} {σ : L2.St} {env : En} {f : Nat → List Addr} {ex : List (Addr × HO)} (s : SRx K cl F I H σ env f ex) {as : List Ar} {news : En} {vs : List V} (hn : (slots as).Nodup) (ra : ArR K cl I σ as vs)
    (e1 : Ex I I') (e2 : Ex I' H') (fr : ∀ a, H a ≠ none → I a = none → I' a = none) (st : ∀ a o, H a = some o → (∀ (k i : Nat), as[k]? = some (Ar.sl i) → a ∉ f i) → H' a = some o)
    (nw : ∀ (k i : Nat), as[k]? = some (Ar.sl i) → ∃ p m m' u, env[i]? = some (.mu p m) ∧ news[k]? = some (.mu true m') ∧ vs[k]? = some u ∧ MuR K cl I' H' u (f i) m') (hl : as.length ≤ news.length) : SRx K cl F I' H' σ (updE env as news) f ex := by
  have get := fun j => updE_get (as := as) (ns := news) (e := env) (j := j) hn (fun k i hk => let ⟨p, m, m', u, h1, h2, _⟩ := nw k i hk; ⟨p, m, m', h1, h2⟩) hl
  have look : ∀ j, (j ∉ slots as ∧ (updE env as news)[j]? = env[j]?) ∨ ∃ (k : Nat) (p : Bool) (m m' : Mu), as[k]? = some (Ar.sl j) ∧ env[j]? = some (Sl.mu p m) ∧ news[k]? = some (Sl.mu true m') ∧ (updE env as news)[j]? = some (Sl.mu p m') := fun j => by
    by_cases z : j ∈ slots as
    · obtain ⟨k, hk⟩ := mem_slots.mp z
      obtain ⟨p, m, m', h1, h2, h3⟩ := (get j).2 k hk
      exact .inr ⟨k, p, m, m', hk, h1, h2, h3⟩
    · exact .inl ⟨z, (get j).1 z⟩
  have muOld : ∀ {j : Nat} {p : Bool} {m : Mu}, (updE env as news)[j]? = some (.mu p m) → ∃ m0, env[j]? = some (.mu p m0) := fun {j p m} h => by
    rcases look j with ⟨_, h1⟩ | ⟨k, p', m1, m', _, h1, _, h3⟩
    · exact ⟨m, h1 ▸ h⟩
    · rw [h3] at h; cases h; exact ⟨m1, h1⟩
  have off : ∀ {j : Nat} {p : Bool} {m : Mu} {a : Addr}, j ∉ slots as → env[j]? = some (.mu p m) → a ∈ f j → ∀ (k i : Nat), as[k]? = some (Ar.sl i) → a ∉ f i := fun {j p m a} hj h ha k i hk ha2 => by
    obtain ⟨p2, m2, _, _, h2, _⟩ := nw k i hk
    exact s.sl.dj j i p m p2 m2 a (fun z => hj (mem_slots.mpr ⟨k, z ▸ hk⟩)) h h2 ha ha2
  refine ⟨⟨fun j d h => ?_, fun j p m h => ?_, fun i j p m q n a hij h1 h2 => ?_⟩, by rw [updE_length]; exact s.ln, e2, s.ii.trans e1, fun a h1 h2 => ?_, fun a o h1 h2 => ?_, fun j p m a h => ?_, fun j p m h => ?_, fun a ha => ?_, fun a ha j p m h => ?_, s.exn⟩
  · rcases look j with ⟨_, h1⟩ | ⟨k, p', m1, m', _, _, _, h3⟩
    · obtain ⟨v, h4, h5⟩ := s.sl.im j d (h1 ▸ h)
      exact ⟨v, h4, h5.ex e1⟩
    · have h : (updE env as news)[j]? = some (.im d) := h
      rw [h3] at h; cases h
  · have h : (updE env as news)[j]? = some (.mu p m) := h
    rcases look j with ⟨hj, h1⟩ | ⟨k, p', m1, m', hk, h1, h2, h3⟩
    · have h0 := h1 ▸ h
      obtain ⟨⟨v, h4, h5⟩, h6⟩ := s.sl.mu j p m h0
      have kp : ∀ a ∈ f j, H' a = H a := fun a ha => by
        cases q : H a with
        | none => exact absurd q (h5.here a ha)
        | some o => exact st a o q (off hj h0 ha)
      exact ⟨⟨v, h4, h5.kept e1 kp⟩, fun a ha => fr a (h5.here a ha) (h6 a ha)⟩
    · rw [h3] at h
      cases h
      obtain ⟨p2, m2, m3, u, h4, h5, h6, h7⟩ := nw k j hk
      rw [h2] at h5
      cases h5
      obtain ⟨v, h8, h9⟩ := ra.get hk
      rw [h6] at h8
      cases h8
      obtain ⟨⟨_, _, h11⟩, h10⟩ := s.sl.mu j p m1 h1
      exact ⟨⟨u, by have h9 : σ[j]? = some (some u) := h9; rw [h9]; rfl, h7⟩, fun a ha => fr a (h11.here a ha) (h10 a ha)⟩
  · obtain ⟨m0, h3⟩ := muOld h1
    obtain ⟨m1, h4⟩ := muOld h2
    exact s.sl.dj i j p m0 q m1 a hij h3 h4
  · by_cases z : H a = none
    · exfalso
      have := s.fresh0 z
      exact h1 this
    · exact fr a z (s.fr a h1 h2)
  · refine st a o (s.st a o h1 h2) fun k i hk ha => ?_
    obtain ⟨p, m, _, _, h3, _⟩ := nw k i hk
    rcases s.nw i p m a h3 ha with z | ⟨j, q, n, h4, h5⟩
    · rw [z] at h1; cases h1
    · exact h2 j q n h4 h5
  · obtain ⟨m0, h1⟩ := muOld h
    exact s.nw j p m0 a h1
  · obtain ⟨m0, h1, h2, h3⟩ := s.pn j p m h
    rcases look j with ⟨_, h4⟩ | ⟨k, p', m1, m', _, h4, _, h6⟩
    · exact ⟨m0, by rw [h4]; exact h1, h2, h3⟩
    · rw [h4] at h1; cases h1
      exact ⟨m', h6, h2, h3⟩
  · obtain ⟨h1, h2, h3⟩ := s.ex0 a ha
    refine ⟨fr a.1 (by rw [h2]; simp) h1, st a.1 a.2 h2 fun k i hk => ?_, h3⟩
    obtain ⟨p, m, _, _, h4, _⟩ := nw k i hk
    exact s.exd a ha i p m h4
  · obtain ⟨m0, h1⟩ := muOld h
    exact s.exd a ha j p m0 h1
end
section
variable {X : Cx} {cl : Nat → Addr} {e : Expr} {es : List Expr} {pos p : Pos} {x : Str} {k n : Nat} {dfl : List D} {F : FM} {m : MM (List Ar)}
theorem call_imp {K : PySem.W.Frag} {dvs : List V} {E : XK} (hd : ∀ I, RepL K cl I dvs dfl) (hlen : ∀ args d news, F args = some (d, news) → news.length = args.length) (hn : ∀ (as : List Ar) (env env' : En), m env = some (as, env') → as.length + dfl.length = n) (σ : L2.St) (H : Hp) (Q : VK) (h : tM K cl (mcall F dfl m) σ H Q) :
    tCall (spM K cl n F) dvs E (tA K cl m) σ H Q := by
  obtain ⟨Fr, I, env, ex, d, env', s, hm, kk⟩ := h
  unfold mcall at hm
  split at hm
  · rename_i as e1 h1
    split at hm
    · rename_i hnd
      split at hm
      · rename_i args h2
        split at hm
        · rename_i d' news h3
          cases hm
          refine ⟨Fr, I, env, ex, as, e1, s, h1, fun vs I1 H1 s1 q1 ra => ?_⟩
          obtain ⟨f, s1⟩ := s1
          have hal := argsE_length h2
          have hvl := ra.length
          have hdl := (hd I1).length
          have hasn := hn as env e1 h1
          have inl : ∀ {i : Nat}, i < as.length → (args ++ dfl.map Sl.im)[i]? = args[i]? := fun {i} hi => List.getElem?_append_left (by rw [hal]; exact hi)
          have inr : ∀ {i : Nat}, as.length ≤ i → (args ++ dfl.map Sl.im)[i]? = (dfl[i - as.length]?).map Sl.im := fun {i} hi => by rw [List.getElem?_append_right (by rw [hal]; exact hi), hal, List.getElem?_map]
          have vnl : ∀ {i : Nat}, i < as.length → (vs ++ dvs)[i]? = vs[i]? := fun {i} hi => List.getElem?_append_left (by rw [hvl]; exact hi)
          have vnr : ∀ {i : Nat}, as.length ≤ i → (vs ++ dvs)[i]? = dvs[i - as.length]? := fun {i} hi => by rw [List.getElem?_append_right (by rw [hvl]; exact hi), hvl]
          have argAt : ∀ {i : Nat} {z : Sl}, (args ++ dfl.map Sl.im)[i]? = some z → (∃ a, as[i]? = some a ∧ args[i]? = some z ∧ i < as.length) ∨ (as.length ≤ i ∧ ∃ d, dfl[i - as.length]? = some d ∧ z = .im d) := fun {i z} hz => by
            by_cases hi : i < as.length
            · rw [inl hi] at hz
              exact .inl ⟨as[i], by simp [hi], hz, hi⟩
            · have hi := Nat.le_of_not_lt hi
              rw [inr hi] at hz
              cases q : dfl[i - as.length]? with
              | none => rw [q] at hz; cases hz
              | some d => rw [q] at hz; cases hz; exact .inr ⟨hi, d, rfl, rfl⟩
          have muAt : ∀ {i : Nat} {q : Bool} {mm : Mu}, (args ++ dfl.map Sl.im)[i]? = some (.mu q mm) → ∃ j p, as[i]? = some (.sl j) ∧ e1[j]? = some (.mu p mm) ∧ q = true ∧ i < as.length := fun {i q mm} hz => by
            rcases argAt hz with ⟨a, h4, h5, hi⟩ | ⟨_, d, _, h6⟩
            · have h6 := argsE_get h2 h4
              cases a with
              | im d => rw [show args[i]? = some (.im d) from h6] at h5; cases h5
              | sl j =>
                obtain ⟨p, m0, h7, h8⟩ := h6
                rw [h8] at h5
                cases h5
                exact ⟨j, p, h4, h7, rfl, hi⟩
            · cases h6
          refine ⟨I1, args ++ dfl.map .im, fun i => match as[i]? with
            | some (.sl j) => f j
            | _ => [], d, news, by simp [hvl, hdl, hasn], by simp [hal, hasn], ⟨fun i d hz => ?_, fun i q mm hz => ?_, fun i j q mm q2 mm2 a hij hz1 hz2 ha1 ha2 => ?_⟩, fun i q mm hz => (let ⟨_, _, _, _, h, _⟩ := muAt hz; h), s1.ih, fun i hz => ?_, h3, ?_⟩
          · rcases argAt hz with ⟨a, h4, h5, hi⟩ | ⟨hi, d', h4, h5⟩
            · obtain ⟨v, h6, h7⟩ := ra.get h4
              have h8 := argsE_get h2 h4
              cases a with
              | im d0 =>
                rw [show args[i]? = some (.im d0) from h8] at h5
                cases h5
                exact ⟨v, by show (vs ++ dvs)[i]? = _; rw [vnl hi]; exact h6, h7⟩
              | sl j =>
                obtain ⟨p, m0, h9, h10⟩ := h8
                rw [h10] at h5
                cases h5
            · cases h5
              obtain ⟨v, h6, h7⟩ := (hd I1).get h4
              exact ⟨v, by show (vs ++ dvs)[i]? = _; rw [vnr hi]; exact h6, h7⟩
          · obtain ⟨j, p, h4, h5, h6, hi⟩ := muAt hz
            obtain ⟨v, h7, h8⟩ := ra.get h4
            obtain ⟨v', h9, h10, h11⟩ := s1.lookM h5
            have h8 : σ[j]? = some (some v) := h8
            rw [h8] at h9
            cases h9
            refine ⟨⟨v, by show (vs ++ dvs)[i]? = _; rw [vnl hi]; exact h7, ?_⟩, ?_⟩
            · simp only [h4]; exact h10
            · simp only [h4]; exact h11
          · obtain ⟨j1, p1, h4, h5, _, _⟩ := muAt hz1
            obtain ⟨j2, p2, h6, h7, _, _⟩ := muAt hz2
            simp only [h4] at ha1
            simp only [h6] at ha2
            exact s1.sl.dj j1 j2 p1 mm p2 mm2 a (fun z => hij (slots_inj hnd h4 (z ▸ h6))) h5 h7 ha1 ha2
          · rcases argAt hz with ⟨a, h4, h5, hi⟩ | ⟨_, d, _, h5⟩
            · have h6 := argsE_get h2 h4
              cases a with
              | im d => rw [show args[i]? = some (.im d) from h6] at h5; cases h5
              | sl j => obtain ⟨p, m0, _, h8⟩ := h6; rw [h8] at h5; cases h5
            · cases h5
          · intro v I' H' g1 g2 g3 g4 g5 g6
            have hnl : news.length = args.length + dfl.length := by rw [hlen _ _ _ h3]; simp
            refine kk v I' H' ⟨f, s1.after hnd ra g1 g2 g3 (fun a o h4 h5 => g4 a o h4 fun i q mm hz => ?_) (fun k i hk => ?_) (by omega)⟩ (q1.trans g1) g6
            · obtain ⟨j, p, h6, _, _, _⟩ := muAt hz
              simp only [h6]
              exact h5 i j h6
            · have h6 := argsE_get h2 hk
              obtain ⟨p, m0, h7, h8⟩ := h6
              have hkl : k < as.length := (List.getElem?_eq_some_iff.mp hk).1
              obtain ⟨m', u, h9, h10, h11⟩ := g5 k true m0 (by rw [inl hkl]; exact h8)
              simp only [hk] at h11
              rw [vnl hkl] at h10
              exact ⟨p, m0, m', u, h7, h9, h10, h11⟩
        · cases hm
      · cases hm
    · cases hm
  · cases hm
end
end Zf

set_option Elab.async false
set_option linter.all false
set_option maxRecDepth 100000
set_option maxHeartbeats 1000000
/-! Zf, part 6: defs, what is walked, lists that change. -/
namespace Zf
open PySem PySem.Spec L2
/-! ### a def -/
def fnM (n : Nat) (body : SM) : FM := fun args => match body (args ++ List.replicate (n - args.length) .no) with
  | some (.rt d e) => some (d, (List.range args.length).map fun i => e.getD i .no)
  | some (.nx e) => some (.non, (List.range args.length).map fun i => e.getD i .no)
  | _ => none
theorem fnM_length {n : Nat} {body : SM} {args news : En} {d : D} (h : fnM n body args = some (d, news)) : news.length = args.length := by
  unfold fnM at h
  split at h
  · cases h; simp
  · cases h; simp
  · cases h
section
variable {P : Program} {w : World} {K : PySem.W.Frag} {mg : Str → Option Value} {base : Heap} {cl : Nat → Addr}
theorem fn_ok {x qual : Str} {params : Arguments} {body : List Stmt} {scope : Scope} {dvs : List V} {kws : List (Str × V)} {f : Addr} {fd : FuncData} {N ps : List Str} {k n nN : Nat} {sm : SM} (F : FunD K x qual params body scope dvs kws f fd) (S : FnScope N ps scope) (hl : ps.length ≤ N.length) (en : ps.length = n) (eN : N.length = nN)
    (hb : ∀ (cdv : Value) (A : Around) (outer : List Env) (s : Shared) (H : Hp) (E : XK), Room k (A.deeper (PyProof.Rows.envOfC qual scope s.heap.objs.size f cdv)) → ESs (cxOf CX0 P w K mg base N qual scope f cdv A outer s H E).nox cl body sm) :
    FnOk P w K mg base CX0 (k + 1) f fd ps (spM K cl n (fnM nN sm)) := by
  subst en eN
  refine F.ok S (fun vs H Q E h => ?_) (fun cdv A outer s H vs Q E hr h => ?_)
  · obtain ⟨I, args, af, d, news, h1, _⟩ := h
    exact h1
  · obtain ⟨I, args, af, d, news, h1, h2, hsl, hpin, hI, hno, hF, kk⟩ := h
    refine ⟨_, (hb cdv A outer s H E hr).nox, ?_⟩
    have len0 : (args ++ List.replicate (N.length - args.length) Sl.no).length = (L2.start N vs).length := by
      unfold L2.start; simp [h1, h2]
    have eL : ∀ {i : Nat} {z : Sl}, (args ++ List.replicate (N.length - args.length) Sl.no)[i]? = some z → z ≠ .no → args[i]? = some z ∧ i < args.length := fun {i z} h hz => by
      by_cases hi : i < args.length
      · rw [List.getElem?_append_left hi] at h; exact ⟨h, hi⟩
      · rw [List.getElem?_append_right (Nat.le_of_not_lt hi), List.getElem?_replicate] at h
        split at h
        · cases h; exact absurd rfl hz
        · cases h
    have sL : ∀ {i : Nat}, i < args.length → ((L2.start N vs)[i]?).join = vs[i]? := fun {i} hi => by
      unfold L2.start
      have hi2 : i < vs.length := by omega
      rw [List.getElem?_append_left (by simpa using hi2), List.getElem?_map]
      cases q : vs[i]? with
      | none => rw [List.getElem?_eq_none_iff] at q; omega
      | some v => rfl
    have s0 : SRx K cl ⟨I, H, vs, args, af⟩ I H (L2.start N vs) (args ++ List.replicate (N.length - args.length) .no) af [] := by
      refine ⟨⟨fun i d e => ?_, fun i p m e => ?_, fun i j p m q n a hij e1 e2 => hsl.dj i j p m q n a hij (eL e1 (by simp)).1 (eL e2 (by simp)).1⟩, len0, hI, Ex.refl _, fun a _ h => h, fun a o h _ => h, fun i p m a e ha => .inr ⟨i, p, m, (eL e (by simp)).1, ha⟩, fun i p m e => ?_, fun a ha => (by cases ha), fun a ha => (by cases ha), List.nodup_nil⟩
      · obtain ⟨e1, hi⟩ := eL e (by simp)
        obtain ⟨v, e2, r⟩ := hsl.im i d e1
        exact ⟨v, (sL hi).trans e2, r⟩
      · obtain ⟨e1, hi⟩ := eL e (by simp)
        obtain ⟨⟨v, e2, r⟩, n⟩ := hsl.mu i p m e1
        exact ⟨⟨v, (sL hi).trans e2, r⟩, n⟩
      · have e : args[i]? = some (.mu p m) := e
        have hi : i < args.length := (List.getElem?_eq_some_iff.mp e).1
        cases hpin i p m e
        exact ⟨m, by rw [List.getElem?_append_left hi]; exact e, rfl, sL hi⟩
    have fin : ∀ (d' : D) (e : En) (v : V) (σ' : L2.St) (I' H' : Hp), (news = (List.range args.length).map fun i => e.getD i .no) → SR K cl ⟨I, H, vs, args, af⟩ I' H' σ' e [] → Rep K cl I' v d → Q v H' := fun d' e v σ' I' H' hnews ⟨f', s'⟩ r => by
      refine kk v I' H' s'.ii s'.ih s'.fr s'.st (fun i p m em => ?_) r
      obtain ⟨m', e1, e2, e3⟩ := s'.pn i p m em
      obtain ⟨⟨u, e4, e5⟩, _⟩ := s'.sl.mu i true m' e1
      have hi : i < args.length := (List.getElem?_eq_some_iff.mp em).1
      have e2 : f' i = af i := e2
      refine ⟨m', u, ?_, e3.symm.trans e4, e2 ▸ e5⟩
      rw [hnews, List.getElem?_map, List.getElem?_range hi]
      show some (e.getD i .no) = _
      rw [List.getD_eq_getElem?_getD, e1]; rfl
    unfold fnM at hF
    split at hF
    · rename_i d' e he
      cases hF
      exact ⟨_, I, _, [], _, ⟨af, s0⟩, he, fun v σ' I' H' s' e' r => fin d e v σ' I' H' rfl s' r⟩
    · rename_i e he
      cases hF
      exact ⟨_, I, _, [], _, ⟨af, s0⟩, he, fun σ' I' H' s' e' => fin .non e .non σ' I' H' rfl s' .non⟩
    · cases hF
end
section
variable {X : Cx} {cl : Nat → Addr} {e : Expr} {es : List Expr} {pos p : Pos} {x : Str} {k n : Nat} {dfl : List D} {F : FM} {m : MM (List Ar)} {ma : MM D} {tg : Expr}
theorem em_call (c : Cal X.prog X.w X.K X.mg X.base cl x k n dfl F) (hr : Room k X.A) (ha : EAr X cl (e :: es) m) (hlen : ∀ args d news, F args = some (d, news) → news.length = args.length) (hn : ∀ (as : List Ar) (env env' : En), m env = some (as, env') → as.length + dfl.length = n) (hg : Gl X x := by rfl)
    (hdb : (x == ("__debug__" : Str)) = false := by decide) (he : starEach (e :: es) X.env = (false, eval e X.env) :: starEach es X.env := by rfl) (hpl : (backTo pos (starEach es X.env)).any (·.1) = false := by rfl) :
    EM X cl (.Call (.Name x p) (e :: es) [] pos) (mcall F dfl m) := by
  obtain ⟨f, fd, ps, ds, dvs, h1, h2, h3, h4, h5, h6⟩ := c
  exact (pe_call h1 hr hg h2 h3 h4 h5 pass0 ha hdb he hpl).zi (call_imp h6 hlen hn)
theorem em_call0 (c : Cal X.prog X.w X.K X.mg X.base cl x k n dfl F) (hr : Room k X.A) (hlen : ∀ args d news, F args = some (d, news) → news.length = args.length) (hn : dfl.length = n) (hg : Gl X x := by rfl)
    (hdb : (x == ("__debug__" : Str)) = false := by decide) : EM X cl (.Call (.Name x p) [] [] pos) (mcall F dfl anil) := by
  obtain ⟨f, fd, ps, ds, dvs, h1, h2, h3, h4, h5, h6⟩ := c
  refine (pe_call0 h1 hr hg h2 h3 h4 h5 pass0 hdb).zi fun σ H Q q => ?_
  have q2 := call_imp (dvs := dvs) (E := E0) (n := n) h6 hlen (fun as env env' e => by cases e; simpa using hn) σ H Q q
  obtain ⟨F1, I, env, ex, as, env', s, hm, kk⟩ := q2
  cases hm
  exact kk [] I H s (Ex.refl _) .nil
/-- how many arguments -/
theorem an_nil {as : List Ar} {env env' : En} (h : anil env = some (as, env')) : as.length = 0 := by cases h; rfl
theorem an_im {mr : MM (List Ar)} {j : Nat} (h : ∀ (as : List Ar) (env env' : En), mr env = some (as, env') → as.length = j) : ∀ (as : List Ar) (env env' : En), acim ma mr env = some (as, env') → as.length = j + 1 := fun as env env' hm => by
  unfold acim at hm
  split at hm
  · split at hm
    · rename_i r e2 h2
      cases hm
      simp [h _ _ _ h2]
    · cases hm
  · cases hm
theorem an_sl {mr : MM (List Ar)} {j i : Nat} (h : ∀ (as : List Ar) (env env' : En), mr env = some (as, env') → as.length = j) : ∀ (as : List Ar) (env env' : En), acsl i mr env = some (as, env') → as.length = j + 1 := fun as env env' hm => by
  unfold acsl at hm
  split at hm
  · split at hm
    · rename_i r e2 h2
      cases hm
      simp [h _ _ _ h2]
    · cases hm
  · cases hm
/-! ### what is walked -/
def iAny (K : PySem.W.Frag) (tl : TE) : TI := fun σ H R => tl σ H fun x H1 => (∃ a xs, x = .ref a ∧ SqL K H1 a xs ∧ R (Itl K a) H1) ∨ (∃ a xs, x = .ref a ∧ SqT K H1 a xs ∧ R (Itt K a) H1) ∨ ∃ z, x = .str z ∧ R (Its z) H1
theorem pi_any {tl : TE} (he : PE X e tl) : PI X tg e (iAny X.K tl) := by
  refine ⟨fun pins s σ H R I h => ?_⟩
  refine thn (he.run pins s σ H _ I h) fun v s1 ⟨x, H1, I1, r1, q1⟩ => ?_
  rcases q1 with ⟨a, xs, ex, hq, q⟩ | ⟨a, xs, ex, hq, q⟩ | ⟨z, ex, q⟩
  · subst ex
    cases r1
    obtain ⟨its, rv, p, hz⟩ := I1.list hq
    refine wpAny_pyIter_list p.isList ?_
    refine ⟨s1.heap.objs.size, [s1.heap.objs.size], _, _, H1, rfl, I1.kept (t' := s1.toks) fun b o e => Heap.get?_push_of_some _ e, turn_list a _, ⟨_, Heap.get?_push_size _ rfl, rfl, rfl⟩, fun b hb => ?_, q⟩
    have e : b = s1.heap.objs.size := by simpa using hb
    subst e
    exact I1.fpOk (Nat.le_refl _) (I1.hok.fresh (Nat.le_refl _))
  · subst ex
    cases r1
    obtain ⟨its, rv, p, hz⟩ := I1.tuple hq
    refine wpAny_pyIter_tuple (show s1.heap.IsTuple a its.toArray from p) ?_
    refine ⟨s1.heap.objs.size, [s1.heap.objs.size], _, _, H1, rfl, I1.kept (t' := s1.toks) fun b o e => Heap.get?_push_of_some _ e, turn_tuple a _, ⟨_, Heap.get?_push_size _ rfl, rfl, rfl⟩, fun b hb => ?_, q⟩
    have e : b = s1.heap.objs.size := by simpa using hb
    subst e
    exact I1.fpOk (Nat.le_refl _) (I1.hok.fresh (Nat.le_refl _))
  · subst ex
    obtain ⟨t, rfl⟩ := r1
    cases ha : z.cps.all (· < 128)
    · exact wpAny_pyIter_wide ha (pi_one (tk := s1.toks) I1 _ (turn_str _ z t "str_iterator" (.inr rfl)) ⟨_, Heap.get?_push_size _ rfl, rfl, rfl⟩ q)
    · exact wpAny_pyIter_ascii ha (pi_one (tk := s1.toks) I1 _ (turn_str _ z t "str_ascii_iterator" (.inl rfl)) ⟨_, Heap.get?_push_size _ rfl, rfl, rfl⟩ q)
/-- the signs of a text -/
def signsD (z : Str) : List D := z.cps.toList.map fun c => .str ⟨#[c]⟩
def seqD : D → Option (List D)
  | .lst xs => some xs
  | .tup xs => some xs
  | .str z => some (signsD z)
  | .scr ns => some (ns.map .int)
  | _ => none
theorem wd_list {K : PySem.W.Frag} {I : Hp} {a : Addr} {vs : List V} {ds : List D} (h : SqL K I a vs) (r : RepL K cl I vs ds) : WD K cl I (Itl K a) ds := by
  have hl := r.length
  refine ⟨fun i H hi e => ?_, fun H e => ⟨vs, ex_l e h, by omega⟩, fun i J H y H' hi e1 e2 hy => ?_⟩
  · have hi : i < vs.length := by omega
    exact ⟨vs, vs[i], ex_l e h, by simp [hi]⟩
  · obtain ⟨rfl, hy⟩ := hy
    obtain ⟨d, h1, h2⟩ := r.getV (hy vs (ex_l (e1.trans e2) h))
    exact ⟨J, d, h1, Gr.refl e2, h2.ex e1⟩
theorem wd_tup {K : PySem.W.Frag} {I : Hp} {a : Addr} {vs : List V} {ds : List D} (h : SqT K I a vs) (r : RepL K cl I vs ds) : WD K cl I (Itt K a) ds := by
  have hl := r.length
  refine ⟨fun i H hi e => ?_, fun H e => ⟨vs, ex_t e h, by omega⟩, fun i J H y H' hi e1 e2 hy => ?_⟩
  · have hi : i < vs.length := by omega
    exact ⟨vs, vs[i], ex_t e h, by simp [hi]⟩
  · obtain ⟨rfl, hy⟩ := hy
    obtain ⟨d, h1, h2⟩ := r.getV (hy vs (ex_t (e1.trans e2) h))
    exact ⟨J, d, h1, Gr.refl e2, h2.ex e1⟩
theorem wd_str {K : PySem.W.Frag} {I : Hp} {z : Str} : WD K cl I (Its z) (signsD z) := by
  have hl : (signsD z).length = z.cps.size := by simp [signsD]
  refine ⟨fun i H hi e => ?_, fun H e => ?_, fun i J H y H' hi e1 e2 hy => ?_⟩
  · show i < z.cps.size
    omega
  · show z.cps.size ≤ (signsD z).length
    omega
  · obtain ⟨rfl, c, hc, rfl⟩ := hy
    refine ⟨J, .str ⟨#[c]⟩, ?_, Gr.refl e2, .str _⟩
    unfold signsD
    rw [List.getElem?_map]
    have : z.cps.toList[i]? = some c := by simpa using hc
    rw [this]; rfl
/-- a list, a tuple, a text -/
theorem ei_any (h : EM X cl e ma) : EI X cl tg e (MM.opt ma seqD) := by
  refine ⟨fun pins s σ H R I q => (pi_any h).run pins s σ H R I ?_⟩
  obtain ⟨F, J, env, ex, ds, env', s1, hm, k⟩ := q
  obtain ⟨d, h1, h2⟩ := opt_of hm
  refine ⟨F, J, env, ex, d, env', s1, h1, fun v I' H' s' e' r => ?_⟩
  cases r <;> try (cases h2; done)
  · rename_i z
    cases h2
    exact .inr (.inr ⟨z, rfl, k _ I' H' s' e' wd_str⟩)
  · rename_i a vs ds' hs r
    cases h2
    exact .inl ⟨a, vs, rfl, rl hs s'.ih, k _ I' H' s' e' (wd_list (rl hs (Ex.refl _)) r)⟩
  · rename_i a vs ds' hs r
    cases h2
    exact .inr (.inl ⟨a, vs, rfl, ex_t s'.ih hs, k _ I' H' s' e' (wd_tup hs r)⟩)
  · rename_i a ns hs
    cases h2
    exact .inl ⟨a, _, rfl, ex_l s'.ih hs, k _ I' H' s' e' (wd_list hs (RepL.ints ns))⟩
/-- range -/
def rngD (lo : Int) (n : Nat) : List D := (List.range n).map fun (i : Nat) => D.int (lo + (i : Int))
theorem wd_range {K : PySem.W.Frag} {I : Hp} {lo : Int} {n : Nat} : WD K cl I (Itr lo n) (rngD lo n) := by
  have hl : (rngD lo n).length = n := by simp [rngD]
  refine ⟨fun i H hi e => ?_, fun H e => ?_, fun i J H y H' hi e1 e2 hy => ?_⟩
  · show i < n
    omega
  · show n ≤ (rngD lo n).length
    omega
  · obtain ⟨rfl, rfl⟩ := hy
    refine ⟨J, .int (lo + i), ?_, Gr.refl e2, .int _⟩
    unfold rngD
    rw [List.getElem?_map, List.getElem?_range (by omega)]
    rfl
def rng1D : List D → Option (List D)
  | [.int j] => if -(2 ^ 60) ≤ j ∧ j ≤ 2 ^ 60 then some (rngD 0 j.toNat) else none
  | _ => none
def rng2D : List D → Option (List D)
  | [.int i, .int j] => if -(2 ^ 60) ≤ i ∧ i ≤ 2 ^ 60 ∧ -(2 ^ 60) ≤ j ∧ j ≤ 2 ^ 60 then some (rngD i (j - i).toNat) else none
  | _ => none
theorem ei_range1 {a : Expr} {m : MM (List D)} (hm : X.mg "range" = none) (ha : EA X cl [a] m) (hg : Gl X "range" := by rfl) (hs : starEach [a] X.env = [(false, eval a X.env)] := by rfl) : EI X cl tg (.Call (.Name "range" p) [a] [] pos) (MM.opt m rng1D) := by
  refine ⟨fun pins s σ H R I q => (pi_range1 hg hm ha hs).run pins s σ H R I ?_⟩
  obtain ⟨F, J, env, ex, ds, env', s1, hm, k⟩ := q
  obtain ⟨as, h1, h2⟩ := opt_of hm
  refine ⟨F, J, env, ex, as, env', s1, h1, fun vs I' H' s' e' r => ?_⟩
  unfold rng1D at h2
  split at h2
  · rename_i j
    split at h2
    · rename_i hj
      cases h2
      cases r with
      | cons r rr =>
        cases rr
        cases r
        exact ⟨j, rfl, by omega, by omega, k _ I' H' s' e' wd_range⟩
    · cases h2
  · cases h2
theorem ei_range2 {a b : Expr} {m : MM (List D)} (hm : X.mg "range" = none) (ha : EA X cl [a, b] m) (hg : Gl X "range" := by rfl) (hs : starEach [a, b] X.env = [(false, eval a X.env), (false, eval b X.env)] := by rfl) (hs2 : starEach [b] X.env = [(false, eval b X.env)] := by rfl) :
    EI X cl tg (.Call (.Name "range" p) [a, b] [] pos) (MM.opt m rng2D) := by
  refine ⟨fun pins s σ H R I q => (pi_range2 hg hm ha hs hs2).run pins s σ H R I ?_⟩
  obtain ⟨F, J, env, ex, ds, env', s1, hm, k⟩ := q
  obtain ⟨as, h1, h2⟩ := opt_of hm
  refine ⟨F, J, env, ex, as, env', s1, h1, fun vs I' H' s' e' r => ?_⟩
  unfold rng2D at h2
  split at h2
  · rename_i i j
    split at h2
    · rename_i hj
      cases h2
      cases r with
      | cons r rr =>
        cases rr with
        | cons r2 rr =>
          cases rr
          cases r
          cases r2
          exact ⟨i, j, rfl, by omega, k _ I' H' s' e' wd_range⟩
    · cases h2
  · cases h2
/-! pairs -/
def enumD (i : Nat) : List D → List D
  | [] => []
  | d :: ds => .tup [.int (i : Int), d] :: enumD (i + 1) ds
theorem enumD_get : ∀ {ds : List D} {i k : Nat} {d : D}, ds[k]? = some d → (enumD i ds)[k]? = some (.tup [.int ((i + k : Nat) : Int), d])
  | [], i, k, d, h => by cases h
  | x :: ds, i, 0, d, h => by cases h; rfl
  | x :: ds, i, k + 1, d, h => by
    have := enumD_get (ds := ds) (i := i + 1) (k := k) (by simpa using h)
    show (enumD (i + 1) ds)[k]? = _
    rw [this]
    have e : i + 1 + k = i + (k + 1) := by omega
    rw [e]
theorem enumD_length : ∀ {ds : List D} {i : Nat}, (enumD i ds).length = ds.length
  | [], _ => rfl
  | _ :: ds, i => congrArg Nat.succ (enumD_length (ds := ds) (i := i + 1))
theorem wd_enum {K : PySem.W.Frag} {I : Hp} {a : Addr} {vs : List V} {ds : List D} (h : SqL K I a vs) (r : RepL K cl I vs ds) : WD K cl I (Ite K a) (enumD 0 ds) := by
  have hl := r.length
  have w := fun (n : Nat) => walk_enum (K := K) (a := a) (xs := vs)
  refine ⟨fun i H hi e => ?_, fun H e => ?_, fun i J H y H' hi e1 e2 hy => ?_⟩
  · rw [enumD_length] at hi
    exact (w 0).goes i H (by omega) (ex_l e h)
  · rw [enumD_length, ← hl]
    exact (w 0).stops H (ex_l e h)
  · rw [enumD_length] at hi
    obtain ⟨T, x, z, rfl, hT, rfl, hx, hz⟩ := (w 0).yields i H y H' (by omega) (ex_l (e1.trans e2) h) hy
    cases hx
    obtain ⟨d, h1, h2⟩ := r.getV hz
    have g := Gr.new (o := .tup [.int (i : Nat), z]) e2 hT
    refine ⟨_, _, enumD_get h1, g, .tup (.inl (.inl upd_same)) (.cons ?_ (.cons ((h2.ex e1).ex g.i) .nil))⟩
    rw [Nat.zero_add]
    exact .int _
def lstD : List D → Option (List D)
  | [.lst xs] => some (enumD 0 xs)
  | _ => none
theorem ei_enum {elts : List Expr} {kk : Nat} {tpos : Pos} {m : MM (List D)} (hm : X.mg "enumerate" = none) (ha : EA X cl [e] m) (hg : Gl X "enumerate" := by rfl) (hs : starEach [e] X.env = [(false, eval e X.env)] := by rfl) :
    EI X cl (.Tuple elts kk tpos) (.Call (.Name "enumerate" p) [e] [] pos) (MM.opt m lstD) := by
  refine ⟨fun pins s σ H R I q => (pi_enum hg hm ha hs).run pins s σ H R I ?_⟩
  obtain ⟨F, J, env, ex, ds, env', s1, hm, k⟩ := q
  obtain ⟨as, h1, h2⟩ := opt_of hm
  refine ⟨F, J, env, ex, as, env', s1, h1, fun vs I' H' s' e' r => ?_⟩
  unfold lstD at h2
  split at h2
  · cases h2
    cases r with
    | cons r rr =>
      cases rr
      cases r with
      | lst hs r => exact ⟨_, _, rfl, rl hs s'.ih, k _ I' H' s' e' (wd_enum (rl hs (Ex.refl _)) r)⟩
  · cases h2
def zipD : List D → List D → List D
  | x :: xs, y :: ys => .tup [x, y] :: zipD xs ys
  | _, _ => []
theorem zipD_length : ∀ {xs ys : List D}, (zipD xs ys).length = min xs.length ys.length
  | [], ys => by cases ys <;> simp [zipD]
  | x :: xs, [] => by simp [zipD]
  | x :: xs, y :: ys => by simp [zipD, zipD_length (xs := xs) (ys := ys)]
theorem zipD_get : ∀ {xs ys : List D} {k : Nat} {x y : D}, xs[k]? = some x → ys[k]? = some y → (zipD xs ys)[k]? = some (.tup [x, y])
  | [], _, _, _, _, h, _ => by cases h
  | _ :: _, [], _, _, _, _, h => by cases h
  | x :: xs, y :: ys, 0, _, _, h1, h2 => by cases h1; cases h2; rfl
  | x :: xs, y :: ys, k + 1, _, _, h1, h2 => zipD_get (xs := xs) (ys := ys) (by simpa using h1) (by simpa using h2)
def zipL : List D → Option (List D)
  | [.lst xs, .lst ys] => some (zipD xs ys)
  | [.tup xs, .tup ys] => some (zipD xs ys)
  | _ => none
theorem wd_zip {K : PySem.W.Frag} {I : Hp} {J : It} {G : Hp → Prop} {vs ws : List V} {ds es : List D} (w : Walk J (min vs.length ws.length) G (YPair (fun i => vs[i]?) (fun i => ws[i]?))) (hG : ∀ H, Ex I H → G H) (r : RepL K cl I vs ds) (q : RepL K cl I ws es) : WD K cl I J (zipD ds es) := by
  have h1 := r.length
  have h2 := q.length
  refine ⟨fun i H hi e => ?_, fun H e => ?_, fun i L H y H' hi e1 e2 hy => ?_⟩
  · rw [zipD_length] at hi
    exact w.goes i H (by omega) (hG H e)
  · rw [zipD_length, ← h1, ← h2]
    exact w.stops H (hG H e)
  · rw [zipD_length] at hi
    obtain ⟨T, x, z, rfl, hT, rfl, hx, hz⟩ := w.yields i H y H' (by omega) (hG H (e1.trans e2)) hy
    obtain ⟨d, h3, h4⟩ := r.getV hx
    obtain ⟨d', h5, h6⟩ := q.getV hz
    have g := Gr.new (o := .tup [x, z]) e2 hT
    exact ⟨_, _, zipD_get h3 h5, g, .tup (.inl (.inl upd_same)) (.cons ((h4.ex e1).ex g.i) (.cons ((h6.ex e1).ex g.i) .nil))⟩
theorem walk_zipT {K : PySem.W.Frag} {a b : Addr} {xs ys : List V} {n : Nat} (hn : n = min xs.length ys.length) : Walk (RZ.ItzT K a b) n (fun H => SqT K H a xs ∧ SqT K H b ys) (YPair (fun i => xs[i]?) (fun i => ys[i]?)) := by
  subst hn
  refine ⟨fun i _ hi q => ?_, fun _ q => ⟨xs, ys, q.1, q.2, by omega⟩, fun i H v H' _ q y => ?_⟩
  · have h1 : i < xs.length := by omega
    have h2 : i < ys.length := by omega
    exact ⟨xs, ys, xs[i], ys[i], q.1, q.2, by simp [h1], by simp [h2]⟩
  · obtain ⟨T, x, z, h1, h2, h3, h4, h5⟩ := y
    exact ⟨T, x, z, h1, h2, h3, h4 xs q.1, h5 ys q.2⟩
theorem ei_zip {e2 : Expr} {elts : List Expr} {kk : Nat} {tpos : Pos} {m : MM (List D)} (hm : X.mg "zip" = none) (ha : EA X cl [e, e2] m) (hg : Gl X "zip" := by rfl) (hs : starEach [e, e2] X.env = (false, eval e X.env) :: starEach [e2] X.env := by rfl) (hpl : (backTo pos (starEach [e2] X.env)).any (·.1) = false := by rfl) :
    EI X cl (.Tuple elts kk tpos) (.Call (.Name "zip" p) [e, e2] [] pos) (MM.opt m zipL) := by
  refine ⟨fun pins s σ H R I q => (RZ.pi_zipA hg hm ha hs hpl).run pins s σ H R I ?_⟩
  obtain ⟨F, J, env, ex, ds, env', s1, hm, k⟩ := q
  obtain ⟨as, h1, h2⟩ := opt_of hm
  refine ⟨F, J, env, ex, as, env', s1, h1, fun vs I' H' s' e' r => ?_⟩
  unfold zipL at h2
  split at h2
  · cases h2
    cases r with
    | cons r rr =>
      cases rr with
      | cons r2 rr =>
        cases rr
        cases r with
        | lst hs r => cases r2 with
          | lst hs2 r2 => exact ⟨_, _, _, _, rfl, .inl ⟨rl hs s'.ih, rl hs2 s'.ih, k _ I' H' s' e' (wd_zip (walk_zip rfl) (fun H e => ⟨rl hs e, rl hs2 e⟩) r r2)⟩⟩
  · cases h2
    cases r with
    | cons r rr =>
      cases rr with
      | cons r2 rr =>
        cases rr
        cases r with
        | tup hs r => cases r2 with
          | tup hs2 r2 => exact ⟨_, _, _, _, rfl, .inr ⟨ex_t s'.ih hs, ex_t s'.ih hs2, k _ I' H' s' e' (wd_zip (walk_zipT rfl) (fun H e => ⟨ex_t e hs, ex_t e hs2⟩) r r2)⟩⟩
  · cases h2
end
end Zf

set_option Elab.async false
set_option linter.all false
set_option maxRecDepth 100000
set_option maxHeartbeats 1000000
/-! Zf, part 7: operations. -/
namespace Zf
open PySem PySem.Spec L2
section
variable {K : PySem.W.Frag} {cl : Nat → Addr}
/-! ### numbers -/
def addD : D → D → Option D
  | .int a, .int b => some (.int (a + b))
  | .str a, .str b => if a.length + b.length ≤ 1000000 then some (.str (a ++ b)) else none
  | .lst a, .lst b => if a.length + b.length ≤ 1000000 then some (.lst (a ++ b)) else none
  | .tup a, .tup b => if a.length + b.length ≤ 1000000 then some (.tup (a ++ b)) else none
  | _, _ => none
def rAddA (K : PySem.W.Frag) : R2 := fun x y H Q => (∃ i j, x = .int i ∧ y = .int j ∧ Q (.int (i + j)) H) ∨ ((∃ i j, x = .str i ∧ y = .str j ∧ i.length + j.length ≤ sizeLine ∧ Q (.str (i ++ j)) H) ∨ (rCat x y H Q ∨ rCatA K x y H Q))
theorem op_addA {X : Cx} : OpR X (binaryOp .Add) (rAddA X.K) := OpR.or op_add (OpR.or op_add_str (OpR.or op_cat op_catA))
theorem ok_add : OK2 K cl (rAddA K) addD := fun I H v w d1 d2 d Q e r1 r2 hg k => by
  cases r1 <;> cases r2 <;> try (cases hg; done)
  · cases hg
    exact .inl ⟨_, _, rfl, rfl, k _ _ _ (Gr.refl e) (.int _)⟩
  · simp only [addD] at hg
    split at hg
    · cases hg
      exact .inr (.inl ⟨_, _, rfl, rfl, Nat.le_trans (by assumption) (by decide), k _ _ _ (Gr.refl e) (.str _)⟩)
    · cases hg
  · rename_i a vs ds h1 q1 b ws es h2 q2
    simp only [addD] at hg
    split at hg
    · cases hg
      refine .inr (.inr (.inl ⟨a, b, vs, ws, rfl, rfl, e _ _ h1, e _ _ h2, by rw [q1.length, q2.length]; exact Nat.le_trans (by assumption) (by decide), fun p hp => ?_⟩))
      have g := Gr.new (o := .lst (vs ++ ws)) e hp
      exact k _ _ _ g (.lst upd_same ((q1.append q2).ex g.i))
    · cases hg
  · rename_i a vs ds h1 q1 b ws es h2 q2
    simp only [addD] at hg
    split at hg
    · cases hg
      refine .inr (.inr (.inr ⟨a, b, vs, ws, rfl, rfl, ex_t e h1, ex_t e h2, by rw [q1.length, q2.length]; exact Nat.le_trans (by assumption) (by decide), fun z => ?_, fun _ z => ?_, fun _ _ p hp => ?_⟩))
      · subst z; cases q1; exact k _ _ _ (Gr.refl e) (.tup h2 q2)
      · subst z; cases q2
        rw [List.append_nil] at k
        exact k _ _ _ (Gr.refl e) (.tup h1 q1)
      · have g := Gr.new (o := .tup (vs ++ ws)) e hp
        exact k _ _ _ g (.tup (.inl (.inl upd_same)) ((q1.append q2).ex g.i))
    · cases hg
/-- lists added, a new list -/
def addF : D → D → Option (List D)
  | .lst a, .lst b => if a.length + b.length ≤ 1000000 then some (a ++ b) else none
  | _, _ => none
theorem okf_add : OKF2 K cl rCat addF := fun I H v w d1 d2 d Q e r1 r2 hg k => by
  cases r1 <;> cases r2 <;> try (cases hg; done)
  rename_i a vs ds h1 q1 b ws es h2 q2
  simp only [addF] at hg
  split at hg
  · cases hg
    exact ⟨a, b, vs, ws, rfl, rfl, e _ _ h1, e _ _ h2, by rw [q1.length, q2.length]; exact Nat.le_trans (by assumption) (by decide), fun p hp => k p _ hp (q1.append q2)⟩
  · cases hg
def subD : D → D → Option D
  | .int a, .int b => some (.int (a - b))
  | _, _ => none
theorem ok_sub : OK2 K cl (rI0 fun i j => .int (i - j)) subD := fun I H v w d1 d2 d Q e r1 r2 hg k => by
  cases r1 <;> cases r2 <;> try (cases hg; done)
  cases hg
  exact ⟨_, _, rfl, rfl, k _ _ _ (Gr.refl e) (.int _)⟩
/-- one factor below 2 ^ 63 -/
def mulD : D → D → Option D
  | .int a, .int b => if a.natAbs ≤ 2 ^ 63 ∨ b.natAbs ≤ 2 ^ 63 then some (.int (a * b)) else none
  | .lst a, .int b => if a.length * b.toNat ≤ 1000000 ∧ b.natAbs ≤ 2 ^ 60 then some (.lst (List.replicate b.toNat a).flatten) else none
  | .str a, .int b => if a.length * b.toNat ≤ 1000000 ∧ b.natAbs ≤ 2 ^ 60 then some (.str (Txt.mul a b)) else none
  | _, _ => none
def rMulS : R2 := fun x y H Q => ∃ (z : Str) (n : Int), x = .str z ∧ y = .int n ∧ MulOk z n ∧ Q (.str (Txt.mul z n)) H
theorem op_mulS {X : Cx} : OpR X (binaryOp .Mult) rMulS := by
  intro pins s σ H x y v u Q I rx ry h
  obtain ⟨z, n, rfl, rfl, hok, q⟩ := h
  obtain ⟨t, rfl⟩ := rx
  obtain ⟨t', rfl⟩ := ry
  exact PySem.SB.mul hok fun t' k => ⟨.str _, H, I.tok _, ⟨_, rfl⟩, q⟩
theorem mulOk_of {a : Str} {b : Int} (h : a.length * b.toNat ≤ 1000000 ∧ b.natAbs ≤ 2 ^ 60) : MulOk a b := by
  obtain ⟨h1, h2⟩ := h
  refine ⟨?_, fun hb _ => ?_, fun hb _ => ?_⟩
  · have h3 : ¬ b < -(2 ^ 63 : Int) := by omega
    have h4 : ¬ b ≥ (2 ^ 63 : Int) := by omega
    rw [decide_eq_false h3, decide_eq_false h4]; rfl
  · have e : ((a.length * b.toNat : Nat) : Int) = (a.length : Int) * b := by
      rw [Int.natCast_mul, Int.toNat_of_nonneg (by omega)]
    have : (a.length : Int) ≤ (2 ^ 63 - 1) / b := (Int.le_ediv_iff_mul_le (by omega)).mpr (by omega)
    omega
  · unfold Builtin.Str.tooLong
    simp only [decide_eq_false_iff_not]
    have : (1000000 : Nat) ≤ sizeLine := by decide
    omega
theorem RepL.rep {I : Hp} {vs : List V} {ds : List D} (r : RepL K cl I vs ds) : ∀ n : Nat, RepL K cl I (List.replicate n vs).flatten (List.replicate n ds).flatten
  | 0 => .nil
  | n + 1 => by
    rw [List.replicate_succ, List.replicate_succ, List.flatten_cons, List.flatten_cons]
    exact r.append (RepL.rep r n)
def rMulA : R2 := fun x y H Q => rI CMul (fun i j => .int (i * j)) x y H Q ∨ (rRep x y H Q ∨ rMulS x y H Q)
theorem op_mulA {X : Cx} : OpR X (binaryOp .Mult) rMulA := OpR.or op_mul (OpR.or op_rep op_mulS)
theorem ok_mul : OK2 K cl rMulA mulD := fun I H v w d1 d2 d Q e r1 r2 hg k => by
  cases r1 <;> cases r2 <;> try (cases hg; done)
  · rename_i a b
    simp only [mulD] at hg
    split at hg
    · rename_i h
      cases hg
      refine .inl ⟨_, _, rfl, rfl, ?_, k _ _ _ (Gr.refl e) (.int _)⟩
      rcases h with h | h
      · exact .inl ⟨by omega, by omega⟩
      · exact .inr ⟨by omega, by omega⟩
    · cases hg
  · rename_i a b
    simp only [mulD] at hg
    split at hg
    · rename_i h
      cases hg
      exact .inr (.inr ⟨_, _, rfl, rfl, mulOk_of h, k _ _ _ (Gr.refl e) (.str _)⟩)
    · cases hg
  · rename_i a vs ds h1 q1 b
    simp only [mulD] at hg
    split at hg
    · rename_i h
      cases hg
      refine .inr (.inl ⟨a, b, vs, rfl, rfl, e _ _ h1, by omega, by omega, by rw [q1.length]; exact Nat.le_trans h.1 (by decide), fun p hp => ?_⟩)
      have g := Gr.new (o := .lst (List.replicate b.toNat vs).flatten) e hp
      exact k _ _ _ g (.lst upd_same ((q1.rep _).ex g.i))
    · cases hg
def mulF : D → D → Option (List D)
  | .lst a, .int b => if a.length * b.toNat ≤ 1000000 ∧ b.natAbs ≤ 2 ^ 60 then some (List.replicate b.toNat a).flatten else none
  | _, _ => none
theorem okf_mul : OKF2 K cl rRep mulF := fun I H v w d1 d2 d Q e r1 r2 hg k => by
  cases r1 <;> cases r2 <;> try (cases hg; done)
  rename_i a vs ds h1 q1 b
  simp only [mulF] at hg
  split at hg
  · rename_i h
    cases hg
    exact ⟨a, b, vs, rfl, rfl, e _ _ h1, by omega, by omega, by rw [q1.length]; exact Nat.le_trans h.1 (by decide), fun p hp => k p _ hp (q1.rep _)⟩
  · cases hg
def modD : D → D → Option D
  | .int a, .int b => if 0 < b then some (.int (a % b)) else none
  | _, _ => none
theorem ok_mod : OK2 K cl (rI (fun _ j => 0 < j) fun i j => .int (i % j)) modD := fun I H v w d1 d2 d Q e r1 r2 hg k => by
  cases r1 <;> cases r2 <;> try (cases hg; done)
  simp only [modD] at hg
  split at hg
  · cases hg
    exact ⟨_, _, rfl, rfl, by assumption, k _ _ _ (Gr.refl e) (.int _)⟩
  · cases hg
def fdivD : D → D → Option D
  | .int a, .int b => if 0 < b ∧ b < 1073741824 then some (.int (a / b)) else none
  | _, _ => none
theorem ok_fdiv : OK2 K cl (rI CDiv fun i j => .int (i / j)) fdivD := fun I H v w d1 d2 d Q e r1 r2 hg k => by
  cases r1 <;> cases r2 <;> try (cases hg; done)
  simp only [fdivD] at hg
  split at hg
  · cases hg
    exact ⟨_, _, rfl, rfl, by assumption, k _ _ _ (Gr.refl e) (.int _)⟩
  · cases hg
def powD : D → D → Option D
  | .int a, .int b => if 0 ≤ b ∧ b ≤ 1000000 ∧ a.natAbs < 2 ^ 64 then some (.int (a ^ b.toNat)) else none
  | _, _ => none
theorem ok_pow : OK2 K cl (rI CPow fun i j => .int (i ^ j.toNat)) powD := fun I H v w d1 d2 d Q e r1 r2 hg k => by
  cases r1 <;> cases r2 <;> try (cases hg; done)
  simp only [powD] at hg
  split at hg
  · cases hg
    exact ⟨_, _, rfl, rfl, by assumption, k _ _ _ (Gr.refl e) (.int _)⟩
  · cases hg
/-! ### comparisons -/
def cmpD (fi : Int → Int → Bool) (fs : List Nat → List Nat → Bool) : D → D → Option D
  | .int a, .int b => some (.bl (fi a b))
  | .str a, .str b => some (.bl (fs a.cps.toList b.cps.toList))
  | _, _ => none
def rCmp (fi : Int → Int → Bool) (fs : List Nat → List Nat → Bool) : R2 := fun x y H Q => (∃ i j, x = .int i ∧ y = .int j ∧ Q (.bl (fi i j)) H) ∨ ∃ i j, x = .str i ∧ y = .str j ∧ Q (.bl (fs i.cps.toList j.cps.toList)) H
theorem ok_cmp {fi : Int → Int → Bool} {fs : List Nat → List Nat → Bool} : OK2 K cl (rCmp fi fs) (cmpD fi fs) := fun I H v w d1 d2 d Q e r1 r2 hg k => by
  cases r1 <;> cases r2 <;> try (cases hg; done)
  · cases hg
    exact .inl ⟨_, _, rfl, rfl, k _ _ _ (Gr.refl e) (.bl _)⟩
  · cases hg
    exact .inr ⟨_, _, rfl, rfl, k _ _ _ (Gr.refl e) (.bl _)⟩
abbrev ltD := cmpD (fun i j => decide (i < j)) (fun i j => decide (i < j))
abbrev leD := cmpD (fun i j => decide (i ≤ j)) (fun i j => !decide (j < i))
abbrev gtD := cmpD (fun i j => decide (j < i)) (fun i j => decide (j < i))
abbrev geD := cmpD (fun i j => decide (j ≤ i)) (fun i j => !decide (i < j))
theorem op_ltA {X : Cx} : OpR X (compareOp .Lt) (rCmp (fun i j => decide (i < j)) (fun i j => decide (i < j))) := OpR.or op_lt op_lt_str
theorem op_leA {X : Cx} : OpR X (compareOp .LtE) (rCmp (fun i j => decide (i ≤ j)) (fun i j => !decide (j < i))) := OpR.or op_le op_le_str
theorem op_gtA {X : Cx} : OpR X (compareOp .Gt) (rCmp (fun i j => decide (j < i)) (fun i j => decide (j < i))) := OpR.or op_gt op_gt_str
theorem op_geA {X : Cx} : OpR X (compareOp .GtE) (rCmp (fun i j => decide (j ≤ i)) (fun i j => !decide (i < j))) := OpR.or op_ge op_ge_str
mutual
def toP : D → Option PyData
  | .non => some .none
  | .bl b => some (.bool b)
  | .int i => some (.int i)
  | .str z => some (.str z)
  | .lst ds => (match toPs ds with
    | some r => some (.list r)
    | none => none)
  | .tup ds => (match toPs ds with
    | some r => some (.tuple r)
    | none => none)
  | .dct _ => none
  | .obj _ _ => none
  | .scr _ => none
def toPs : List D → Option (List PyData)
  | [] => some []
  | d :: ds => (match toP d with
    | some p => (match toPs ds with
      | some r => some (p :: r)
      | none => none)
    | none => none)
end
mutual
theorem Rep.dp {I H : Hp} (e : Ex I H) : ∀ {v : V} {d : D} {p : PyData}, Rep K cl I v d → toP d = some p → Dp K H v p
  | _, _, _, .non, h => by cases h; exact .non
  | _, _, _, .bl b, h => by cases h; exact .bl b
  | _, _, _, .int i, h => by cases h; exact .int i
  | _, _, _, .str z, h => by cases h; exact .str z
  | _, _, _, .lst h1 r, h => by
    simp only [toP] at h
    split at h
    · cases h; exact .lst (rl h1 e) (RepL.dp e r (by assumption))
    · cases h
  | _, _, _, .tup h1 r, h => by
    simp only [toP] at h
    split at h
    · cases h; exact .tup (ex_t e h1) (RepL.dp e r (by assumption))
    · cases h
  | _, _, _, .dct _ _, h => by cases h
  | _, _, _, .obj _ _, h => by cases h
  | _, _, _, .scr _, h => by cases h
theorem RepL.dp {I H : Hp} (e : Ex I H) : ∀ {v : List V} {d : List D} {p : List PyData}, RepL K cl I v d → toPs d = some p → DpAll K H v p
  | _, _, _, .nil, h => by cases h; exact .nil
  | _, _, _, .cons r rr, h => by
    simp only [toPs] at h
    split at h
    · rename_i h1
      split at h
      · rename_i h2
        cases h
        exact .cons (Rep.dp e r h1) (RepL.dp e rr h2)
      · cases h
    · cases h
end
def eqB : D → D → Option Bool
  | .str a, .str b => some (decide (a = b))
  | .int a, .int b => some (decide (a = b))
  | a, b => (match toP a, toP b with
    | some p, some q => if SeqAt.shaped p && SeqAt.shaped q then some (PyData.eqv p q) else none
    | _, _ => none)
def eqD (a b : D) : Option D := match eqB a b with
  | some r => some (.bl r)
  | none => none
def neD (a b : D) : Option D := match eqB a b with
  | some r => some (.bl (!r))
  | none => none
def rEqA (K : PySem.W.Frag) : R2 := fun x y H Q => rEq x y H Q ∨ rEqD K x y H Q
def rNeA (K : PySem.W.Frag) : R2 := fun x y H Q => rNe x y H Q ∨ rNeD K x y H Q
theorem op_eqA {X : Cx} {k : Nat} (hr : Room k X.A) : OpR X (compareOp .Eq) (rEqA X.K) := OpR.or op_eq (op_eqD hr.units)
theorem op_neA {X : Cx} {k : Nat} (hr : Room k X.A) : OpR X (compareOp .NotEq) (rNeA X.K) := OpR.or op_ne (op_neD hr.units)
theorem eqB_ok {I H : Hp} {v w : V} {d1 d2 : D} {b : Bool} (e : Ex I H) (r1 : Rep K cl I v d1) (r2 : Rep K cl I w d2) (h : eqB d1 d2 = some b) : (scal v w = true ∧ decide (v = w) = b) ∨ ∃ p q, Dp K H v p ∧ Dp K H w q ∧ SeqAt.shaped p = true ∧ SeqAt.shaped q = true ∧ PyData.eqv p q = b := by
  unfold eqB at h
  split at h
  · cases h; cases r1; cases r2; exact .inl ⟨rfl, by simp⟩
  · cases h; cases r1; cases r2; exact .inl ⟨rfl, by simp⟩
  · split at h
    · rename_i p q h1 h2
      split at h
      · rename_i h3
        cases h
        rw [Bool.and_eq_true] at h3
        exact .inr ⟨p, q, r1.dp e h1, r2.dp e h2, h3.1, h3.2, rfl⟩
      · cases h
    · cases h
theorem ok_eq : OK2 K cl (rEqA K) eqD := fun I H v w d1 d2 d Q e r1 r2 hg k => by
  unfold eqD at hg
  split at hg
  · rename_i b hb
    cases hg
    rcases eqB_ok e r1 r2 hb with ⟨h1, h2⟩ | ⟨p, q, h1, h2, h3, h4, h5⟩
    · exact .inl ⟨h1, by rw [h2]; exact k _ _ _ (Gr.refl e) (.bl _)⟩
    · exact .inr ⟨p, q, h1, h2, h3, h4, by rw [h5]; exact k _ _ _ (Gr.refl e) (.bl _)⟩
  · cases hg
theorem ok_ne : OK2 K cl (rNeA K) neD := fun I H v w d1 d2 d Q e r1 r2 hg k => by
  unfold neD at hg
  split at hg
  · rename_i b hb
    cases hg
    rcases eqB_ok e r1 r2 hb with ⟨h1, h2⟩ | ⟨p, q, h1, h2, h3, h4, h5⟩
    · exact .inl ⟨h1, by rw [h2]; exact k _ _ _ (Gr.refl e) (.bl _)⟩
    · exact .inr ⟨p, q, h1, h2, h3, h4, by rw [h5]; exact k _ _ _ (Gr.refl e) (.bl _)⟩
  · cases hg
/-! in -/
def toV : D → Option V
  | .non => some .non
  | .bl b => some (.bl b)
  | .int i => some (.int i)
  | .str z => some (.str z)
  | _ => none
def toVs : List D → Option (List V)
  | [] => some []
  | d :: ds => (match toV d with
    | some v => (match toVs ds with
      | some r => some (v :: r)
      | none => none)
    | none => none)
theorem Rep.toV {I : Hp} {v u : V} {d : D} (r : Rep K cl I v d) (h : Zf.toV d = some u) : v = u ∧ flatV u = true := by
  cases r <;> cases h <;> exact ⟨rfl, rfl⟩
theorem RepL.toVs {I : Hp} {vs us : List V} {ds : List D} (r : RepL K cl I vs ds) (h : Zf.toVs ds = some us) : vs = us ∧ us.all flatV = true := by
  induction ds generalizing vs us with
  | nil => cases r; cases h; exact ⟨rfl, rfl⟩
  | cons d ds ih =>
    cases r with
    | cons r rr =>
      simp only [Zf.toVs] at h
      split at h
      · rename_i v h1
        split at h
        · rename_i r2 h2
          cases h
          obtain ⟨e1, f1⟩ := r.toV h1
          obtain ⟨e2, f2⟩ := ih rr h2
          subst e1 e2
          exact ⟨rfl, by rw [List.all_cons, f1, f2]; rfl⟩
        · cases h
      · cases h
theorem toVs_strs : ∀ xs : List Str, toVs (xs.map D.str) = some (xs.map V.str)
  | [] => rfl
  | x :: xs => by simp [toVs, toV, toVs_strs xs]
theorem toVs_ints : ∀ xs : List Int, toVs (xs.map D.int) = some (xs.map V.int)
  | [] => rfl
  | x :: xs => by simp [toVs, toV, toVs_ints xs]
theorem inV_strs (a : Str) : ∀ xs : List Str, inV (.str a) (xs.map V.str) = decide (a ∈ xs)
  | [] => rfl
  | x :: xs => by
    have h := inV_strs a xs
    unfold inV at h ⊢
    rw [List.map_cons, List.any_cons, h]
    by_cases q : x = a
    · subst q; simp [eqV]
    · have : ¬ a = x := fun z => q z.symm
      simp [eqV, q, this]
/-- is there a text in a text -/
def subS (z w : Str) : Bool := match z.cps.toList with
  | [c] => decide (c ∈ w.cps.toList)
  | _ => !(Builtin.Str.occurrences w z 0 w.length 1).isEmpty
def inB : D → D → Option Bool
  | .str a, .str b => some (subS a b)
  | d, .lst ds => (match Zf.toV d, toVs ds with
    | some v, some vs => some (inV v vs)
    | _, _ => none)
  | d, .tup ds => (match Zf.toV d, toVs ds with
    | some v, some vs => some (inV v vs)
    | _, _ => none)
  | _, _ => none
def inD (a b : D) : Option D := match inB a b with
  | some r => some (.bl r)
  | none => none
def ninD (a b : D) : Option D := match inB a b with
  | some r => some (.bl (!r))
  | none => none
def rInA (K : PySem.W.Frag) : R2 := fun x y H Q => (∃ (c : Nat) (z : Str), x = .str ⟨#[c]⟩ ∧ y = .str z ∧ Q (.bl (decide (c ∈ z.cps.toList))) H) ∨ ((∃ i j, x = .str i ∧ y = .str j ∧ Q (.bl (!(Builtin.Str.occurrences j i 0 j.length 1).isEmpty)) H) ∨ rIn K false x y H Q)
def rNinA (K : PySem.W.Frag) : R2 := fun x y H Q => (∃ (c : Nat) (z : Str), x = .str ⟨#[c]⟩ ∧ y = .str z ∧ Q (.bl (!decide (c ∈ z.cps.toList))) H) ∨ ((∃ i j, x = .str i ∧ y = .str j ∧ Q (.bl (!(!(Builtin.Str.occurrences j i 0 j.length 1).isEmpty))) H) ∨ rIn K true x y H Q)
theorem op_inA {X : Cx} : OpR X (compareOp .In) (rInA X.K) := OpR.or op_in_sign (OpR.or op_in_str op_in_seq)
theorem op_ninA {X : Cx} : OpR X (compareOp .NotIn) (rNinA X.K) := OpR.or op_notIn_sign (OpR.or op_notin_str op_notIn_seq)
theorem str_one {z : Str} {c : Nat} (h : z.cps.toList = [c]) : z = ⟨#[c]⟩ := by
  obtain ⟨⟨l⟩⟩ := z
  have : l = [c] := h
  subst this; rfl
theorem inB_ok {I H : Hp} {v w : V} {d1 d2 : D} {b : Bool} (e : Ex I H) (r1 : Rep K cl I v d1) (r2 : Rep K cl I w d2) (h : inB d1 d2 = some b) :
    (∃ (c : Nat) (z : Str), v = .str ⟨#[c]⟩ ∧ w = .str z ∧ decide (c ∈ z.cps.toList) = b) ∨ (∃ i j, v = .str i ∧ w = .str j ∧ (!(Builtin.Str.occurrences j i 0 j.length 1).isEmpty) = b) ∨ ∃ p xs, w = .ref p ∧ (SqL K H p xs ∨ SqT K H p xs) ∧ flatV v = true ∧ xs.all flatV = true ∧ inV v xs = b := by
  unfold inB at h
  split at h
  · cases h
    cases r1; cases r2
    rename_i a z
    unfold subS
    split
    · rename_i c hc
      exact .inl ⟨c, z, by rw [str_one hc], rfl, rfl⟩
    · exact .inr (.inl ⟨a, z, rfl, rfl, rfl⟩)
  · split at h
    · rename_i u us h1 h2
      cases h
      obtain ⟨rfl, f1⟩ := r1.toV h1
      cases r2 with
      | lst hs r =>
        obtain ⟨rfl, f2⟩ := r.toVs h2
        exact .inr (.inr ⟨_, _, rfl, .inl (rl hs e), f1, f2, rfl⟩)
    · cases h
  · split at h
    · rename_i u us h1 h2
      cases h
      obtain ⟨rfl, f1⟩ := r1.toV h1
      cases r2 with
      | tup hs r =>
        obtain ⟨rfl, f2⟩ := r.toVs h2
        exact .inr (.inr ⟨_, _, rfl, .inr (ex_t e hs), f1, f2, rfl⟩)
    · cases h
  · cases h
theorem ok_in : OK2 K cl (rInA K) inD := fun I H v w d1 d2 d Q e r1 r2 hg k => by
  unfold inD at hg
  split at hg
  · rename_i b hb
    cases hg
    rcases inB_ok e r1 r2 hb with ⟨c, z, rfl, rfl, h⟩ | ⟨i, j, rfl, rfl, h⟩ | ⟨p, xs, rfl, h1, h2, h3, h⟩
    · exact .inl ⟨c, z, rfl, rfl, by rw [h]; exact k _ _ _ (Gr.refl e) (.bl _)⟩
    · exact .inr (.inl ⟨i, j, rfl, rfl, by rw [h]; exact k _ _ _ (Gr.refl e) (.bl _)⟩)
    · exact .inr (.inr ⟨p, xs, rfl, h1, h2, h3, by rw [h]; exact k _ _ _ (Gr.refl e) (.bl _)⟩)
  · cases hg
theorem ok_nin : OK2 K cl (rNinA K) ninD := fun I H v w d1 d2 d Q e r1 r2 hg k => by
  unfold ninD at hg
  split at hg
  · rename_i b hb
    cases hg
    rcases inB_ok e r1 r2 hb with ⟨c, z, rfl, rfl, h⟩ | ⟨i, j, rfl, rfl, h⟩ | ⟨p, xs, rfl, h1, h2, h3, h⟩
    · exact .inl ⟨c, z, rfl, rfl, by rw [h]; exact k _ _ _ (Gr.refl e) (.bl _)⟩
    · exact .inr (.inl ⟨i, j, rfl, rfl, by rw [h]; exact k _ _ _ (Gr.refl e) (.bl _)⟩)
    · exact .inr (.inr ⟨p, xs, rfl, h1, h2, h3, by rw [h]; exact k _ _ _ (Gr.refl e) (.bl _)⟩)
  · cases hg
end
section
variable {X : Cx} {cl : Nat → Addr} {a e : Expr} {pos : Pos} {ma : MM D}
/-! is None -/
def isN : D → Option D
  | .non => some (.bl true)
  | _ => some (.bl false)
def notN : D → Option D
  | .non => some (.bl false)
  | _ => some (.bl true)
theorem Rep.non_iff {K : PySem.W.Frag} {I : Hp} {v : V} {d : D} (r : Rep K cl I v d) : isN d = some (.bl (decide (v = .non))) ∧ notN d = some (.bl (!decide (v = .non))) := by
  cases r <;> exact ⟨rfl, rfl⟩
theorem em_isN {j pos'} (h : EM X cl a ma) : EM X cl (.Compare a [.Is] [.Constant .none j pos'] pos) (MM.opt ma isN) := (pe_cmp (pc_isN h) (by rfl)).zi fun σ H Q q => by
  obtain ⟨F, I, env, ex, d, env', s, hm, k⟩ := q
  obtain ⟨d0, h1, h2⟩ := opt_of hm
  refine ⟨F, I, env, ex, d0, env', s, h1, fun v I' H' s' e' r => ?_⟩
  rw [r.non_iff.1] at h2
  cases h2
  exact k _ I' H' s' e' (.bl _)
theorem em_notN {j pos'} (h : EM X cl a ma) : EM X cl (.Compare a [.IsNot] [.Constant .none j pos'] pos) (MM.opt ma notN) := (pe_cmp (pc_notN h) (by rfl)).zi fun σ H Q q => by
  obtain ⟨F, I, env, ex, d, env', s, hm, k⟩ := q
  obtain ⟨d0, h1, h2⟩ := opt_of hm
  refine ⟨F, I, env, ex, d0, env', s, h1, fun v I' H' s' e' r => ?_⟩
  rw [r.non_iff.2] at h2
  cases h2
  exact k _ I' H' s' e' (.bl _)
theorem eb_isN {j pos'} (h : EM X cl a ma) : EB X cl (.Compare a [.Is] [.Constant .none j pos'] pos) (MM.opt (MM.opt ma isN) blD) :=
  eb_of (t := tIsN (tM X.K cl ma)) (pt_cmp (pc_isN h) (by rfl)) fun σ H Q q => by
    obtain ⟨F, I, env, ex, d, env', s, hm, k⟩ := q
    obtain ⟨d0, h1, h2⟩ := opt_of hm
    refine ⟨F, I, env, ex, d0, env', s, h1, fun v I' H' s' e' r => ?_⟩
    rw [r.non_iff.1] at h2
    cases h2
    exact k _ I' H' s' e' (.bl _)
theorem eb_notN {j pos'} (h : EM X cl a ma) : EB X cl (.Compare a [.IsNot] [.Constant .none j pos'] pos) (MM.opt (MM.opt ma notN) blD) :=
  eb_of (t := tNotN (tM X.K cl ma)) (pt_cmp (pc_notN h) (by rfl)) fun σ H Q q => by
    obtain ⟨F, I, env, ex, d, env', s, hm, k⟩ := q
    obtain ⟨d0, h1, h2⟩ := opt_of hm
    refine ⟨F, I, env, ex, d0, env', s, h1, fun v I' H' s' e' r => ?_⟩
    rw [r.non_iff.2] at h2
    cases h2
    exact k _ I' H' s' e' (.bl _)
end
/-! ### built-in functions -/
section
variable {K : PySem.W.Frag} {cl : Nat → Addr}
def lenL : List D → Option D
  | [.str z] => if z.length ≤ 1000000 then some (.int z.length) else none
  | [.lst xs] => some (.int xs.length)
  | [.tup xs] => some (.int xs.length)
  | _ => none
theorem ok_len : OKL K cl (fun xs H Q => ∃ x n, xs = [x] ∧ LenV K x H n ∧ Q (.int n) H) lenL := fun I H vs ds d Q e r hg k => by
  unfold lenL at hg
  split at hg
  · split at hg
    · cases hg
      cases r with
      | cons r rr => cases rr; cases r; exact ⟨_, _, rfl, ⟨Nat.le_trans (by assumption) (by decide), rfl⟩, k _ _ _ (Gr.refl e) (.int _)⟩
    · cases hg
  · cases hg
    cases r with
    | cons r rr =>
      cases rr
      cases r with
      | lst hs r => exact ⟨_, _, rfl, .inl ⟨_, rl hs e, rfl⟩, by rw [r.length]; exact k _ _ _ (Gr.refl e) (.int _)⟩
  · cases hg
    cases r with
    | cons r rr =>
      cases rr
      cases r with
      | tup hs r => exact ⟨_, _, rfl, .inr ⟨_, ex_t e hs, rfl⟩, by rw [r.length]; exact k _ _ _ (Gr.refl e) (.int _)⟩
  · cases hg
def intL : List D → Option D
  | [.int i] => some (.int i)
  | [.bl b] => some (.int (if b then 1 else 0))
  | _ => none
theorem ok_int : OKL K cl (fun xs H Q => (∃ i, xs = [.int i] ∧ Q (.int i) H) ∨ ∃ k, xs = [.bl k] ∧ Q (.int (if k then 1 else 0)) H) intL := fun I H vs ds d Q e r hg k => by
  unfold intL at hg
  split at hg
  · cases hg
    cases r with
    | cons r rr => cases rr; cases r; exact .inl ⟨_, rfl, k _ _ _ (Gr.refl e) (.int _)⟩
  · cases hg
    cases r with
    | cons r rr => cases rr; cases r; exact .inr ⟨_, rfl, k _ _ _ (Gr.refl e) (.int _)⟩
  · cases hg
def listL : List D → Option (List D)
  | [.lst xs] => some xs
  | [.tup xs] => some xs
  | _ => none
theorem okf_list : OKFL K cl (fun xs H Q => ∃ p ys, xs = [.ref p] ∧ (SqL K H p ys ∨ SqT K H p ys) ∧ ∀ l, H l = none → Q (.ref l) (upd H l (.lst ys))) listL := fun I H vs as ds Q e r hg k => by
  unfold listL at hg
  split at hg
  · cases hg
    cases r with
    | cons r rr => cases rr; cases r with
      | lst hs r => exact ⟨_, _, rfl, .inl (rl hs e), fun l hl => k l _ hl r⟩
  · cases hg
    cases r with
    | cons r rr => cases rr; cases r with
      | tup hs r => exact ⟨_, _, rfl, .inr (ex_t e hs), fun l hl => k l _ hl r⟩
  · cases hg
def tupleL : List D → Option D
  | [.lst xs] => some (.tup xs)
  | [.tup xs] => some (.tup xs)
  | _ => none
theorem ok_tuple : OKL K cl (fun xs H Q => ∃ p ys, xs = [.ref p] ∧ ((SqL K H p ys ∧ ∀ l, H l = none → Q (.ref l) (upd H l (.tup ys))) ∨ (SqT K H p ys ∧ Q (.ref p) H))) tupleL := fun I H vs ds d Q e r hg k => by
  unfold tupleL at hg
  split at hg
  · cases hg
    cases r with
    | cons r rr => cases rr; cases r with
      | @lst a vs ds hs r =>
        refine ⟨_, _, rfl, .inl ⟨rl hs e, fun l hl => ?_⟩⟩
        have g := Gr.new (o := .tup vs) e hl
        exact k _ _ _ g (.tup (.inl (.inl upd_same)) (r.ex g.i))
  · cases hg
    cases r with
    | cons r rr => cases rr; cases r with
      | tup hs r => exact ⟨_, _, rfl, .inr ⟨ex_t e hs, k _ _ _ (Gr.refl e) (.tup hs r)⟩⟩
  · cases hg
def sumL : List D → Option D
  | [.lst xs] => (match intsD xs with
    | some ns => some (.int ns.sum)
    | none => none)
  | _ => none
theorem ok_sum : OKL K cl (rSum K) sumL := fun I H vs ds d Q e r hg k => by
  unfold sumL at hg
  split at hg
  · split at hg
    · rename_i ns hn
      cases hg
      cases r with
      | cons r rr => cases rr; cases r with
        | lst hs r =>
          rw [r.intsV hn] at hs
          exact ⟨_, ns, rfl, rl hs e, k _ _ _ (Gr.refl e) (.int _)⟩
    · cases hg
  · cases hg
def allL : List D → Option D
  | [.lst xs] => (match bolsD xs with
    | some ns => some (.bl (ns.all id))
    | none => none)
  | _ => none
theorem ok_all : OKL K cl (rAll K) allL := fun I H vs ds d Q e r hg k => by
  unfold allL at hg
  split at hg
  · split at hg
    · rename_i ns hn
      cases hg
      cases r with
      | cons r rr => cases rr; cases r with
        | lst hs r =>
          rw [r.bolsV hn] at hs
          exact ⟨_, ns, rfl, rl hs e, k _ _ _ (Gr.refl e) (.bl _)⟩
    · cases hg
  · cases hg
def anyL : List D → Option D
  | [.lst xs] => (match bolsD xs with
    | some ns => some (.bl (ns.any id))
    | none => none)
  | _ => none
theorem ok_any : OKL K cl (rAny K) anyL := fun I H vs ds d Q e r hg k => by
  unfold anyL at hg
  split at hg
  · split at hg
    · rename_i ns hn
      cases hg
      cases r with
      | cons r rr => cases rr; cases r with
        | lst hs r =>
          rw [r.bolsV hn] at hs
          exact ⟨_, ns, rfl, rl hs e, k _ _ _ (Gr.refl e) (.bl _)⟩
    · cases hg
  · cases hg
/-! ### methods of texts -/
def startsM (z : Str) : List D → Option D
  | [.str y] => some (.bl (Txt.startswith z y))
  | _ => none
theorem ok_starts : OKM K cl (fun x xs H Q => ∃ a b, x = .str a ∧ xs = [.str b] ∧ Q (.bl (Txt.startswith a b)) H) startsM := fun I H z vs ds d Q e r hg k => by
  unfold startsM at hg
  split at hg
  · cases hg
    cases r with
    | cons r rr => cases rr; cases r; exact ⟨_, _, rfl, rfl, k _ _ _ (Gr.refl e) (.bl _)⟩
  · cases hg
def endsM (z : Str) : List D → Option D
  | [.str y] => some (.bl (Txt.endswith z y))
  | _ => none
theorem ok_ends : OKM K cl (fun x xs H Q => ∃ a b, x = .str a ∧ xs = [.str b] ∧ Q (.bl (Txt.endswith a b)) H) endsM := fun I H z vs ds d Q e r hg k => by
  unfold endsM at hg
  split at hg
  · cases hg
    cases r with
    | cons r rr => cases rr; cases r; exact ⟨_, _, rfl, rfl, k _ _ _ (Gr.refl e) (.bl _)⟩
  · cases hg
def joinM (z : Str) : List D → Option D
  | [.lst xs] => (match strsD xs with
    | some ys => if (ys.map (·.length)).sum + ys.length * z.length ≤ 10000000 then some (.str (Txt.join z ys)) else none
    | none => none)
  | [.tup xs] => (match strsD xs with
    | some ys => if (ys.map (·.length)).sum + ys.length * z.length ≤ 10000000 then some (.str (Txt.join z ys)) else none
    | none => none)
  | _ => none
theorem ok_join : OKM K cl (fun x xs H Q => ∃ a p, ∃ ys : List Str, x = .str a ∧ xs = [.ref p] ∧ (SqL K H p (ys.map V.str) ∨ SqT K H p (ys.map V.str)) ∧ (ys.map (·.length)).sum + ys.length * a.length ≤ 16777216 ∧ Q (.str (Txt.join a ys)) H) joinM := fun I H z vs ds d Q e r hg k => by
  unfold joinM at hg
  split at hg
  · split at hg
    · rename_i ys hn
      split at hg
      · cases hg
        cases r with
        | cons r rr => cases rr; cases r with
          | lst hs r =>
            rw [r.strsV hn] at hs
            exact ⟨z, _, ys, rfl, rfl, .inl (rl hs e), Nat.le_trans (by assumption) (by decide), k _ _ _ (Gr.refl e) (.str _)⟩
      · cases hg
    · cases hg
  · split at hg
    · rename_i ys hn
      split at hg
      · cases hg
        cases r with
        | cons r rr => cases rr; cases r with
          | tup hs r =>
            rw [r.strsV hn] at hs
            exact ⟨z, _, ys, rfl, rfl, .inr (ex_t e hs), Nat.le_trans (by assumption) (by decide), k _ _ _ (Gr.refl e) (.str _)⟩
      · cases hg
    · cases hg
  · cases hg
def splitM (z : Str) : List D → Option (List D)
  | [.str y] => if y.length ≠ 0 ∧ z.length ≤ 1000000 then some ((Txt.split z y).map .str) else none
  | _ => none
theorem okf_split : OKFM K cl (fun x xs H Q => ∃ a b, x = .str a ∧ xs = [.str b] ∧ (b.length == 0) = false ∧ a.length + 2 ≤ sizeLine ∧ rNewStrs (Txt.split a b) H Q) splitM := fun I H z vs as ds Q e r hg k => by
  unfold splitM at hg
  split at hg
  · split at hg
    · rename_i h
      cases hg
      cases r with
      | cons r rr =>
        cases rr; cases r
        exact ⟨_, _, rfl, rfl, beq_eq_false_iff_ne.mpr h.1, Nat.le_trans (Nat.add_le_add_right h.2 2) (by decide), fun p hp => k p _ hp (RepL.strs _)⟩
    · cases hg
  · cases hg
def wordsM (z : Str) : List D → Option (List D)
  | [] => if z.length ≤ 1000000 then some ((Txt.words z).map .str) else none
  | _ => none
theorem okf_words : OKFM K cl (fun x xs H Q => ∃ a, x = .str a ∧ xs = [] ∧ a.length + 2 ≤ sizeLine ∧ rNewStrs (Txt.words a) H Q) wordsM := fun I H z vs as ds Q e r hg k => by
  unfold wordsM at hg
  split at hg
  · split at hg
    · rename_i h
      cases hg
      cases r
      exact ⟨_, rfl, rfl, Nat.le_trans (Nat.add_le_add_right h 2) (by decide), fun p hp => k p _ hp (RepL.strs _)⟩
    · cases hg
  · cases hg
def stripM (f : Str → Str → Str) (z : Str) : List D → Option D
  | [.str y] => if z.length ≤ 1000000 then some (.str (f z y)) else none
  | _ => none
theorem ok_strip {f : Str → Str → Str} : OKM K cl (fun x xs H Q => ∃ a b, x = .str a ∧ xs = [.str b] ∧ a.length ≤ sizeLine ∧ Q (.str (f a b)) H) (stripM f) := fun I H z vs ds d Q e r hg k => by
  unfold stripM at hg
  split at hg
  · split at hg
    · rename_i h
      cases hg
      cases r with
      | cons r rr => cases rr; cases r; exact ⟨_, _, rfl, rfl, Nat.le_trans h (by decide), k _ _ _ (Gr.refl e) (.str _)⟩
    · cases hg
  · cases hg
def find4M (z : Str) : List D → Option D
  | [.str y, .int i, .int j] => some (.int (Txt.findIn z y i j))
  | _ => none
theorem ok_find4 : OKM K cl (fun x xs H Q => ∃ (a b : Str) (i j : Int), x = .str a ∧ xs = [.str b, .int i, .int j] ∧ Q (.int (Txt.findIn a b i j)) H) find4M := fun I H z vs ds d Q e r hg k => by
  unfold find4M at hg
  split at hg
  · cases hg
    cases r with
    | cons r rr => cases rr with
      | cons r2 rr => cases rr with
        | cons r3 rr => cases rr; cases r; cases r2; cases r3; exact ⟨_, _, _, _, rfl, rfl, k _ _ _ (Gr.refl e) (.int _)⟩
  · cases hg
end
end Zf

set_option Elab.async false
set_option linter.all false
set_option maxRecDepth 100000
set_option maxHeartbeats 1000000
/-! Zf, part 8: lists that change, draws, the law's end. -/
namespace Zf
open PySem PySem.Spec L2
section
variable {X : Cx} {cl : Nat → Addr} {a b e : Expr} {es : List Expr} {pos p apos cpos : Pos} {ma mb : MM D} {i : Nat} {x : Str}
/-! ### append, extend, pop -/
def mappend (i : Nat) (m : MM D) : MM D := fun env => match env[i]? with
  | some (.mu _ (.ml _)) => (match m env with
    | some (d, e1) => (match e1[i]? with
      | some (.mu q (.ml ds)) => if ds.length < 1000000 then some (.non, e1.set i (.mu q (.ml (ds ++ [d])))) else none
      | _ => none)
    | none => none)
  | _ => none
theorem em_append (i : Nat) (ha : EM X cl e ma) (hN : X.N[i]? = some x := by rfl) (hv : Vis X.env.scope x := by first | exact Or.inl rfl | exact Or.inr (Or.inl rfl) | exact Or.inr (Or.inr rfl)) (hd : (x == ("__debug__" : Str)) = false := by decide)
    (hcd : (x == ("__classdict__" : Str)) = false := by decide)
    (hbase : attributeBase (.Name x p) "append" X.env (eval (.Name x p) X.env) = eval (.Name x p) X.env := by rfl)
    (hfew : ((backTo cpos (starEach [e] X.env)).all (fun x => !x.1) && (backToKw cpos (keywordEach [] X.env)).all (fun x => x.1.isSome)
      && decide ([e].length + ([] : List Keyword).length + (if ([] : List Keyword).isEmpty then 0 else 1) < 30)) = true := by rfl)
    (hline : (apos.endLine == cpos.line) = true := by rfl) (hs : starEach [e] X.env = (false, eval e X.env) :: starEach [] X.env := by rfl) (hplain : (backTo cpos (starEach [] X.env)).any (·.1) = false := by rfl) :
    EM X cl (.Call (.Attribute (.Name x p) "append" apos) [e] [] cpos) (mappend i ma) := by
  refine (pe_bm PySem.F.plainAttrs_list PySem.F.slot_list_append PySem.F.type_list_append mt_append (pe_var hN hv hd hcd) (pa_cons ha pa_nil hs) hbase hfew hline hs hplain).zi fun σ H Q q => ?_
  obtain ⟨F, I, env, ex, d, env', s, hm, k⟩ := q
  unfold mappend at hm
  split at hm
  · rename_i p0 ds0 h0
    split at hm
    · rename_i d1 e1 h1
      split at hm
      · rename_i q0 ds h2
        split at hm
        · rename_i hlen
          cases hm
          obtain ⟨f, s'⟩ := id s
          obtain ⟨v, hv, ⟨l, vs, rfl, hf, hl, hr⟩, hn⟩ := s'.lookM h0
          refine ⟨_, hv, .inl ⟨rfl, vs, .inl (.inl hl)⟩, F, I, env, ex, d1, e1, s, h1, fun w I1 H1 s1 q1 r1 => ?_⟩
          obtain ⟨f1, s1⟩ := s1
          obtain ⟨v', hv', ⟨l', vs', e', hf', hl', hr'⟩, hn'⟩ := s1.lookM h2
          rw [hv] at hv'
          cases hv'
          cases e'
          refine ⟨l, vs', w, rfl, rfl, hl', by rw [hr'.length]; exact Nat.lt_of_lt_of_le hlen (by decide), ?_⟩
          refine k .non I1 _ ⟨f1, s1.change h2 (fun a ha => upd_ne fun z => ha (by rw [hf', z]; simp)) fun v hv => ?_⟩ q1 .non
          have := s1.lookM h2
          rw [show σ[i]? = some (some (V.ref l)) from by assumption] at hv
          cases hv
          exact ⟨l, _, rfl, hf', upd_same, hr'.append (.cons r1 .nil)⟩
        · cases hm
      · cases hm
    · cases hm
  · cases hm
def mextend (i : Nat) (m : MM (List D)) : MM D := fun env => match env[i]? with
  | some (.mu _ (.ml _)) => (match m env with
    | some (d, e1) => (match e1[i]? with
      | some (.mu q (.ml ds)) => if ds.length + d.length ≤ 1000000 then some (.non, e1.set i (.mu q (.ml (ds ++ d)))) else none
      | _ => none)
    | none => none)
  | _ => none
theorem em_extend (i : Nat) {m : MM (List D)} (ha : EF X cl e m) (hN : X.N[i]? = some x := by rfl) (hv : Vis X.env.scope x := by first | exact Or.inl rfl | exact Or.inr (Or.inl rfl) | exact Or.inr (Or.inr rfl)) (hd : (x == ("__debug__" : Str)) = false := by decide)
    (hcd : (x == ("__classdict__" : Str)) = false := by decide)
    (hbase : attributeBase (.Name x p) "extend" X.env (eval (.Name x p) X.env) = eval (.Name x p) X.env := by rfl)
    (hfew : ((backTo cpos (starEach [e] X.env)).all (fun x => !x.1) && (backToKw cpos (keywordEach [] X.env)).all (fun x => x.1.isSome)
      && decide ([e].length + ([] : List Keyword).length + (if ([] : List Keyword).isEmpty then 0 else 1) < 30)) = true := by rfl)
    (hline : (apos.endLine == cpos.line) = true := by rfl) (hs : starEach [e] X.env = (false, eval e X.env) :: starEach [] X.env := by rfl) (hplain : (backTo cpos (starEach [] X.env)).any (·.1) = false := by rfl) :
    EM X cl (.Call (.Attribute (.Name x p) "extend" apos) [e] [] cpos) (mextend i m) := by
  refine (pe_bm PySem.F.plainAttrs_list PySem.F.slot_list_extend PySem.F.type_list_extend mt_extend (pe_var hN hv hd hcd) (pa_cons ha pa_nil hs) hbase hfew hline hs hplain).zi fun σ H Q q => ?_
  obtain ⟨F, I, env, ex, d, env', s, hm, k⟩ := q
  unfold mextend at hm
  split at hm
  · rename_i p0 ds0 h0
    split at hm
    · rename_i d1 e1 h1
      split at hm
      · rename_i q0 ds h2
        split at hm
        · rename_i hlen
          cases hm
          obtain ⟨f, s'⟩ := id s
          obtain ⟨v, hv, ⟨l, vs, rfl, hf, hl, hr⟩, hn⟩ := s'.lookM h0
          refine ⟨_, hv, .inl ⟨rfl, vs, .inl (.inl hl)⟩, F, I, env, ex, d1, e1, s, h1, fun p1 ws I1 H1 s1 q1 r1 => ?_⟩
          obtain ⟨f1, s1⟩ := s1
          obtain ⟨v', hv', ⟨l', vs', e', hf', hl', hr'⟩, hn'⟩ := s1.lookM h2
          rw [hv] at hv'
          cases hv'
          cases e'
          have hp1 : H1 p1 = some (.lst ws) := (s1.ex0 (p1, .lst ws) (by simp)).2.1
          refine ⟨l, p1, vs', ws, rfl, rfl, hl', hp1, by rw [hr'.length, r1.length]; exact Nat.le_trans hlen (by decide), ?_⟩
          obtain ⟨g1, s2⟩ := s1.exFreeze
          refine k .non _ _ ⟨f1, s2.change h2 (fun a ha => upd_ne fun z => ha (by rw [hf', z]; simp)) fun v hv => ?_⟩ (q1.trans g1) .non
          rw [show σ[i]? = some (some (V.ref l)) from by assumption] at hv
          cases hv
          exact ⟨l, _, rfl, hf', upd_same, (hr'.append r1).ex g1⟩
        · cases hm
      · cases hm
    · cases hm
  · cases hm
def mpopAt (i : Nat) (m : MM D) : MM D := fun env => match env[i]? with
  | some (.mu _ (.ml _)) => (match m env with
    | some (.int j, e1) => (match e1[i]? with
      | some (.mu q (.ml ds)) => if 0 ≤ j then (match ds[j.toNat]? with
        | some d => if ds.length ≤ 1000000 then some (d, e1.set i (.mu q (.ml (ds.eraseIdx j.toNat)))) else none
        | none => none) else none
      | _ => none)
    | _ => none)
  | _ => none
theorem RepL.erase {K : PySem.W.Frag} {I : Hp} {vs : List V} {ds : List D} (r : RepL K cl I vs ds) : ∀ n : Nat, RepL K cl I (vs.eraseIdx n) (ds.eraseIdx n) := by
  induction vs generalizing ds with
  | nil => cases r; exact fun _ => .nil
  | cons v vs ih =>
    cases r with
    | cons h r =>
      intro n
      cases n with
      | zero => exact r
      | succ n => exact .cons h (ih r n)
theorem em_popAt (i : Nat) (ha : EM X cl e ma) (hN : X.N[i]? = some x := by rfl) (hv : Vis X.env.scope x := by first | exact Or.inl rfl | exact Or.inr (Or.inl rfl) | exact Or.inr (Or.inr rfl)) (hd : (x == ("__debug__" : Str)) = false := by decide)
    (hcd : (x == ("__classdict__" : Str)) = false := by decide)
    (hbase : attributeBase (.Name x p) "pop" X.env (eval (.Name x p) X.env) = eval (.Name x p) X.env := by rfl)
    (hfew : ((backTo cpos (starEach [e] X.env)).all (fun x => !x.1) && (backToKw cpos (keywordEach [] X.env)).all (fun x => x.1.isSome)
      && decide ([e].length + ([] : List Keyword).length + (if ([] : List Keyword).isEmpty then 0 else 1) < 30)) = true := by rfl)
    (hline : (apos.endLine == cpos.line) = true := by rfl) (hs : starEach [e] X.env = (false, eval e X.env) :: starEach [] X.env := by rfl) (hplain : (backTo cpos (starEach [] X.env)).any (·.1) = false := by rfl) :
    EM X cl (.Call (.Attribute (.Name x p) "pop" apos) [e] [] cpos) (mpopAt i ma) := by
  refine (pe_bm PySem.F.plainAttrs_list PySem.F.slot_list_pop PySem.F.type_list_pop mt_popAt (pe_var hN hv hd hcd) (pa_cons ha pa_nil hs) hbase hfew hline hs hplain).zi fun σ H Q q => ?_
  obtain ⟨F, I, env, ex, d, env', s, hm, k⟩ := q
  unfold mpopAt at hm
  split at hm
  · rename_i p0 ds0 h0
    split at hm
    · rename_i j e1 h1
      split at hm
      · rename_i q0 ds h2
        split at hm
        · rename_i hj
          split at hm
          · rename_i d2 h3
            split at hm
            · rename_i hlen
              cases hm
              obtain ⟨f, s'⟩ := id s
              obtain ⟨v, hv, ⟨l, vs, rfl, hf, hl, hr⟩, hn⟩ := s'.lookM h0
              refine ⟨_, hv, .inl ⟨rfl, vs, .inl (.inl hl)⟩, F, I, env, ex, .int j, e1, s, h1, fun w I1 H1 s1 q1 r1 => ?_⟩
              cases r1
              obtain ⟨f1, s1⟩ := s1
              obtain ⟨v', hv', ⟨l', vs', e', hf', hl', hr'⟩, hn'⟩ := s1.lookM h2
              rw [hv] at hv'
              cases hv'
              cases e'
              obtain ⟨u, hu, ru⟩ := hr'.get h3
              have hjl : j.toNat < ds.length := (List.getElem?_eq_some_iff.mp h3).1
              have hvl := hr'.length
              refine ⟨l, vs', j, j.toNat, u, rfl, rfl, hl', by omega, by omega, ?_, hu, ?_⟩
              · have e1 : ixN vs'.length j = some j.toNat := by
                  unfold ixN
                  rw [if_pos hj, if_pos (by omega)]
                exact (ixN_seq e1).1
              · refine k u I1 _ ⟨f1, s1.change h2 (fun a ha => upd_ne fun z => ha (by rw [hf', z]; simp)) fun v hv => ?_⟩ q1 ru
                rw [show σ[i]? = some (some (V.ref l)) from by assumption] at hv
                cases hv
                exact ⟨l, _, rfl, hf', upd_same, hr'.erase _⟩
            · cases hm
          · cases hm
        · cases hm
      · cases hm
    · cases hm
  · cases hm
/-! ### own lists looked at -/
/-- len(own list) -/
def mlenO (i : Nat) : MM D := fun env => match env[i]? with
  | some (.mu _ (.ml ds)) => some (.int ds.length, env)
  | _ => none
theorem em_lenO (i : Nat) (hm : X.mg "len" = none) (hg : Gl X "len" := by rfl) (hN : X.N[i]? = some x := by rfl) (hv : Vis X.env.scope x := by first | exact Or.inl rfl | exact Or.inr (Or.inl rfl) | exact Or.inr (Or.inr rfl)) (hd : (x == ("__debug__" : Str)) = false := by decide)
    (hcd : (x == ("__classdict__" : Str)) = false := by decide) (he : starEach [.Name x p] X.env = (false, eval (.Name x p) X.env) :: starEach [] X.env := by rfl) (hpl : (backTo pos (starEach [] X.env)).any (·.1) = false := by rfl) :
    EM X cl (.Call (.Name "len" apos) [.Name x p] [] pos) (mlenO i) := by
  refine (pe_callB call_len hg hm PySem.boot_len (pa_cons (pe_var hN hv hd hcd) pa_nil he) (by decide) (by decide) he hpl).zi fun σ H Q q => ?_
  obtain ⟨F, I, env, ex, d, env', s, hm, k⟩ := q
  unfold mlenO at hm
  split at hm
  · rename_i p0 ds h0
    cases hm
    obtain ⟨f, s'⟩ := id s
    obtain ⟨v, hv, ⟨l, vs, rfl, hf, hl, hr⟩, hn⟩ := s'.lookM h0
    exact ⟨_, hv, _, _, rfl, .inl ⟨vs, .inl (.inl hl), rfl⟩, by rw [hr.length]; exact k _ I H s (Ex.refl _) (.int _)⟩
  · cases hm
/-- own list == [], != [] -/
def mnilO (neg : Bool) (i : Nat) : MM Bool := fun env => match env[i]? with
  | some (.mu _ (.ml ds)) => (match toPs ds with
    | some ps => if SeqAt.shaped (.list ps) then some (if neg then !ds.isEmpty else ds.isEmpty, env) else none
    | none => none)
  | _ => none
theorem eqv_nil (ps : List PyData) : PyData.eqv (.list ps) (.list []) = ps.isEmpty := by cases ps <;> simp [PyData.eqv, PyData.eqvAll]
theorem toPs_isEmpty : ∀ {ds : List D} {ps : List PyData}, toPs ds = some ps → ps.isEmpty = ds.isEmpty
  | [], _, h => by cases h; rfl
  | d :: ds, ps, h => by
    simp only [toPs] at h
    split at h
    · split at h
      · cases h; rfl
      · cases h
    · cases h
theorem eb_nilO {k : Nat} (neg : Bool) (i : Nat) (hr : Room k X.A) {op : CmpOp} (ho : op = if neg then .NotEq else .Eq) (hN : X.N[i]? = some x := by rfl) (hv : Vis X.env.scope x := by first | exact Or.inl rfl | exact Or.inr (Or.inl rfl) | exact Or.inr (Or.inr rfl)) (hd : (x == ("__debug__" : Str)) = false := by decide)
    (hcd : (x == ("__classdict__" : Str)) = false := by decide) : EB X cl (.Compare (.Name x p) [op] [.List [] apos] pos) (mnilO neg i) := by
  have key : ∀ σ H Q, tBo X.K cl (mnilO neg i) σ H Q → ∃ v, σ[i]? = some (some v) ∧ ∀ q, H q = none → ∃ ps : List PyData, Dp X.K (upd H q (.lst [])) v (.list ps) ∧ SeqAt.shaped (.list ps) = true ∧ Q (if neg then !ps.isEmpty else ps.isEmpty) (upd H q (.lst [])) := by
    intro σ H Q q
    obtain ⟨F, I, env, ex, d, env', s, hm, k⟩ := q
    unfold mnilO at hm
    split at hm
    · rename_i p0 ds h0
      split at hm
      · rename_i ps hps
        split at hm
        · rename_i hsh
          cases hm
          obtain ⟨f, s'⟩ := id s
          obtain ⟨v, hv, ⟨l, vs, rfl, hf, hl, hr⟩, hn⟩ := s'.lookM h0
          refine ⟨_, hv, fun q hq => ⟨ps, ?_, hsh, ?_⟩⟩
          · have g := Gr.new (o := .lst []) s.ih hq
            exact .lst (.inl (.inl (g.h _ _ hl))) (RepL.dp ((Ex.refl I).trans (s.ih.trans g.h)) hr hps)
          · have g := Gr.new (o := .lst []) s.ih hq
            rw [toPs_isEmpty hps]
            exact k _ _ (s.gr g) g.i
        · cases hm
      · cases hm
    · cases hm
  cases neg with
  | true =>
    subst ho
    refine (pt_cmpR (op_neD hr.units) (pe_var hN hv hd hcd) (pe_lst pa_nil) (nomark _)).zi fun σ H Q q => ?_
    obtain ⟨v, hv, h⟩ := key σ H Q q
    refine ⟨v, hv, Nat.zero_le _, fun q hq => ?_⟩
    obtain ⟨ps, h1, h2, h3⟩ := h q hq
    exact ⟨_, .list [], h1, .lst (.inl (.inl upd_same)) .nil, h2, by rfl, _, rfl, by rw [eqv_nil]; exact h3⟩
  | false =>
    subst ho
    refine (pt_cmpR (op_eqD hr.units) (pe_var hN hv hd hcd) (pe_lst pa_nil) (nomark _)).zi fun σ H Q q => ?_
    obtain ⟨v, hv, h⟩ := key σ H Q q
    refine ⟨v, hv, Nat.zero_le _, fun q hq => ?_⟩
    obtain ⟨ps, h1, h2, h3⟩ := h q hq
    exact ⟨_, .list [], h1, .lst (.inl (.inl upd_same)) .nil, h2, by rfl, _, rfl, by rw [eqv_nil]; exact h3⟩
/-! ### the source of draws -/
def DS.at (s : DS) : Int → Option Int
  | 1 => some s.cur
  | 3 => some s.cnt
  | _ => none
def mdr (i : Nat) (j : Int) : MM D := fun env => match env[i]? with
  | some (.mu _ (.dr s)) => (match s.at j with
    | some n => some (.int n, env)
    | none => none)
  | _ => none
theorem DS.at_ok {s : DS} {j n : Int} {a b : Addr} (h : s.at j = some n) : atI [V.ref a, .int s.cur, .ref b, .int s.cnt] j = some (.int n) := by
  unfold DS.at at h
  split at h
  · cases h; rfl
  · cases h; rfl
  · cases h
theorem em_dr (i : Nat) (j : Int) {k} (hN : X.N[i]? = some x := by rfl) (hv : Vis X.env.scope x := by first | exact Or.inl rfl | exact Or.inr (Or.inl rfl) | exact Or.inr (Or.inr rfl)) (hd : (x == ("__debug__" : Str)) = false := by decide)
    (hcd : (x == ("__classdict__" : Str)) = false := by decide) (hs : PlainIx (.Constant (.int j) k apos) := by exact fun _ _ => rfl) : EM X cl (.Subscript (.Name x p) (.Constant (.int j) k apos) pos) (mdr i j) := by
  refine (pe_ix ix_list (pe_var hN hv hd hcd) pe_int hs).zi fun σ H Q q => ?_
  obtain ⟨F, I, env, ex, d, env', s, hm, k⟩ := q
  unfold mdr at hm
  split at hm
  · rename_i p0 t h0
    split at hm
    · rename_i n hn
      cases hm
      obtain ⟨f, s'⟩ := id s
      obtain ⟨v, hv, ⟨d, a, b, rfl, hf, _, _, _, h1, h2, h3⟩, _⟩ := s'.lookM h0
      exact ⟨_, hv, d, _, j, _, rfl, rfl, .inl (.inl h1), DS.at_ok hn, k _ I H s (Ex.refl _) (.int _)⟩
    · cases hm
  · cases hm
/-- draws[0], draws[2], as they stand -/
def DS.row (s : DS) : Int → Option (List Int)
  | 0 => some s.A
  | 2 => some s.B
  | _ => none
theorem SRx.row {K : PySem.W.Frag} {F : Fx} {I H : Hp} {σ : L2.St} {env : En} {f : Nat → List Addr} {ex : List (Addr × HO)} (s : SRx K cl F I H σ env f ex) {i : Nat} {q : Bool} {t : DS} {j : Int} {ns : List Int} (h : env[i]? = some (.mu q (.dr t))) (hj : t.row j = some ns) :
    ∃ d xs c, σ[i]? = some (some (.ref d)) ∧ SqL K H d xs ∧ atI xs j = some (.ref c) ∧ H c = some (.lst (ns.map V.int)) := by
  obtain ⟨v, hv, ⟨d, a, b, rfl, hf, _, _, _, h1, h2, h3⟩, _⟩ := s.lookM h
  unfold DS.row at hj
  split at hj
  · cases hj; exact ⟨d, _, a, hv, .inl (.inl h1), rfl, h2⟩
  · cases hj; exact ⟨d, _, b, hv, .inl (.inl h1), rfl, h3⟩
  · cases hj
/-- draws[j] != [] -/
def mdrNe (i : Nat) (j : Int) : MM Bool := fun env => match env[i]? with
  | some (.mu _ (.dr s)) => (match s.row j with
    | some ns => some (!ns.isEmpty, env)
    | none => none)
  | _ => none
theorem dpAll_ints {K : PySem.W.Frag} {H : Hp} : ∀ ns : List Int, DpAll K H (ns.map V.int) (ns.map PyData.int)
  | [] => .nil
  | n :: ns => .cons (.int n) (dpAll_ints ns)
theorem shaped_ints (ns : List Int) : SeqAt.shaped (.list (ns.map PyData.int)) = true := by
  unfold SeqAt.shaped
  rw [Bool.and_eq_true]
  constructor
  · have : ∀ ns : List Int, PyData.canLayAll0 (ns.map PyData.int) = true := fun ns => by
      induction ns with
      | nil => rfl
      | cons n ns ih => simp [PyData.canLayAll0, PyData.canLay0, ih]
    simp [PyData.canLay0, this]
  · have : ∀ ns : List Int, PyData.depthAll (ns.map PyData.int) ≤ 1 := fun ns => by
      induction ns with
      | nil => simp [PyData.depthAll]
      | cons n ns ih => simp [PyData.depthAll, PyData.depth]; omega
    have h := this ns
    simp [PyData.depth]
    omega
theorem eb_drNe {k : Nat} (i : Nat) (j : Int) {kk} {p1 p2 p3 : Pos} (hr : Room k X.A) (hN : X.N[i]? = some x := by rfl) (hv : Vis X.env.scope x := by first | exact Or.inl rfl | exact Or.inr (Or.inl rfl) | exact Or.inr (Or.inr rfl)) (hd : (x == ("__debug__" : Str)) = false := by decide)
    (hcd : (x == ("__classdict__" : Str)) = false := by decide) (hs : PlainIx (.Constant (.int j) kk apos) := by exact fun _ _ => rfl) : EB X cl (.Compare (.Subscript (.Name x p) (.Constant (.int j) kk apos) p1) [.NotEq] [.List [] p2] p3) (mdrNe i j) := by
  refine (pt_cmpR (op_neD hr.units) (pe_ix ix_list (pe_var hN hv hd hcd) pe_int hs) (pe_lst pa_nil) (nomark _)).zi fun σ H Q q => ?_
  obtain ⟨F, I, env, ex, d, env', s, hm, k⟩ := q
  unfold mdrNe at hm
  split at hm
  · rename_i p0 t h0
    split at hm
    · rename_i ns hn
      cases hm
      obtain ⟨f, s'⟩ := id s
      obtain ⟨d, xs, c, h1, h2, h3, h4⟩ := s'.row h0 hn
      refine ⟨_, h1, d, xs, j, _, rfl, rfl, h2, h3, Nat.zero_le _, fun q hq => ?_⟩
      have g := Gr.new (o := .lst []) s.ih hq
      refine ⟨.list (ns.map PyData.int), .list [], .lst (.inl (.inl (g.h _ _ h4))) (dpAll_ints ns), .lst (.inl (.inl upd_same)) .nil, shaped_ints ns, by rfl, _, rfl, ?_⟩
      rw [eqv_nil]
      have : (ns.map PyData.int).isEmpty = ns.isEmpty := by cases ns <;> rfl
      rw [this]
      exact k _ _ (s.gr g) g.i
    · cases hm
  · cases hm
/-- len(draws[2]) -/
def mdrLen (i : Nat) (j : Int) : MM D := fun env => match env[i]? with
  | some (.mu _ (.dr s)) => (match s.row j with
    | some ns => some (.int ns.length, env)
    | none => none)
  | _ => none
theorem em_drLen (i : Nat) (j : Int) {kk} {p1 p2 p3 : Pos} (hm : X.mg "len" = none) (hg : Gl X "len" := by rfl) (hN : X.N[i]? = some x := by rfl) (hv : Vis X.env.scope x := by first | exact Or.inl rfl | exact Or.inr (Or.inl rfl) | exact Or.inr (Or.inr rfl)) (hd : (x == ("__debug__" : Str)) = false := by decide)
    (hcd : (x == ("__classdict__" : Str)) = false := by decide) (hs : PlainIx (.Constant (.int j) kk apos) := by exact fun _ _ => rfl)
    (he : starEach [.Subscript (.Name x p) (.Constant (.int j) kk apos) p1] X.env = (false, eval (.Subscript (.Name x p) (.Constant (.int j) kk apos) p1) X.env) :: starEach [] X.env := by rfl) (hpl : (backTo p3 (starEach [] X.env)).any (·.1) = false := by rfl) :
    EM X cl (.Call (.Name "len" p2) [.Subscript (.Name x p) (.Constant (.int j) kk apos) p1] [] p3) (mdrLen i j) := by
  refine (pe_callB call_len hg hm PySem.boot_len (pa_cons (pe_ix ix_list (pe_var hN hv hd hcd) pe_int hs) pa_nil he) (by decide) (by decide) he hpl).zi fun σ H Q q => ?_
  obtain ⟨F, I, env, ex, d, env', s, hm, k⟩ := q
  unfold mdrLen at hm
  split at hm
  · rename_i p0 t h0
    split at hm
    · rename_i ns hn
      cases hm
      obtain ⟨f, s'⟩ := id s
      obtain ⟨d, xs, c, h1, h2, h3, h4⟩ := s'.row h0 hn
      refine ⟨_, h1, d, xs, j, _, rfl, rfl, h2, h3, _, _, rfl, .inl ⟨_, .inl (.inl h4), rfl⟩, ?_⟩
      rw [List.length_map]
      exact k _ I H s (Ex.refl _) (.int _)
    · cases hm
  · cases hm
/-- draws[2][int(draws[3]) % len(draws[2])], with int or without -/
def mdrSeed (i : Nat) : MM D := fun env => match env[i]? with
  | some (.mu _ (.dr s)) => (match s.B[(s.cnt % (s.B.length : Int)).toNat]? with
    | some z => if 0 < s.B.length then some (.int z, env) else none
    | none => none)
  | _ => none
theorem at_mod {ns : List Int} {c z : Int} (hp : 0 < ns.length) (h : ns[(c % (ns.length : Int)).toNat]? = some z) : atI (ns.map V.int) (c % (ns.length : Int)) = some (.int z) := by
  have h1 : 0 ≤ c % (ns.length : Int) := Int.emod_nonneg _ (by omega)
  have h2 : c % (ns.length : Int) < (ns.length : Int) := Int.emod_lt_of_pos _ (by omega)
  unfold atI ixN
  rw [if_pos h1, List.length_map, if_pos h2]
  show (ns.map V.int)[_]? = _
  rw [List.getElem?_map, h]; rfl
theorem em_drSeed (i : Nat) {k1 k2 k3} {p1 p2 p3 p4 p5 p6 p7 p8 p9 p10 p11 p12 p13 p14 : Pos} (hl : X.mg "len" = none) (hi : X.mg "int" = none) (hgl : Gl X "len" := by rfl) (hgi : Gl X "int" := by rfl) (hN : X.N[i]? = some x := by rfl) (hv : Vis X.env.scope x := by first | exact Or.inl rfl | exact Or.inr (Or.inl rfl) | exact Or.inr (Or.inr rfl)) (hd : (x == ("__debug__" : Str)) = false := by decide)
    (hcd : (x == ("__classdict__" : Str)) = false := by decide)
    (he : starEach [.Subscript (.Name x p1) (.Constant (.int 2) k1 p2) p3] X.env = (false, eval (.Subscript (.Name x p1) (.Constant (.int 2) k1 p2) p3) X.env) :: starEach [] X.env := by rfl) (hpl : (backTo p4 (starEach [] X.env)).any (·.1) = false := by rfl)
    (he2 : starEach [.Subscript (.Name x p5) (.Constant (.int 3) k2 p6) p7] X.env = (false, eval (.Subscript (.Name x p5) (.Constant (.int 3) k2 p6) p7) X.env) :: starEach [] X.env := by rfl) (hpl2 : (backTo p8 (starEach [] X.env)).any (·.1) = false := by rfl) :
    EM X cl (.Subscript (.Subscript (.Name x p12) (.Constant (.int 2) k3 p13) p14) (.BinOp (.Call (.Name "int" p9) [.Subscript (.Name x p5) (.Constant (.int 3) k2 p6) p7] [] p8) .Mod (.Call (.Name "len" p10) [.Subscript (.Name x p1) (.Constant (.int 2) k1 p2) p3] [] p4) p11) pos) (mdrSeed i) := by
  refine (pe_ix ix_list (pe_ix ix_list (pe_var hN hv hd hcd) pe_int (fun _ _ => rfl)) (pe_op op_mod (pe_callTy call_int1 hgi hi (by decide +kernel) (pa_cons (pe_ix ix_list (pe_var hN hv hd hcd) pe_int (fun _ _ => rfl)) pa_nil he2) (by decide) (by decide) he2 hpl2)
    (pe_callB call_len hgl hl PySem.boot_len (pa_cons (pe_ix ix_list (pe_var hN hv hd hcd) pe_int (fun _ _ => rfl)) pa_nil he) (by decide) (by decide) he hpl)) (fun _ _ => rfl)).zi fun σ H Q q => ?_
  obtain ⟨F, I, env, ex, d, env', s, hm, k⟩ := q
  unfold mdrSeed at hm
  split at hm
  · rename_i p0 t h0
    split at hm
    · rename_i z hz
      split at hm
      · rename_i hp
        cases hm
        obtain ⟨f, s'⟩ := id s
        obtain ⟨v, hv, ⟨d, a, b, rfl, hf, _, _, _, h1, h2, h3⟩, _⟩ := s'.lookM h0
        refine ⟨_, hv, d, _, 2, .ref b, rfl, rfl, .inl (.inl h1), rfl, ?_⟩
        refine ⟨_, hv, d, _, 3, .int t.cnt, rfl, rfl, .inl (.inl h1), rfl, .inl ⟨_, rfl, ?_⟩⟩
        refine ⟨_, hv, d, _, 2, .ref b, rfl, rfl, .inl (.inl h1), rfl, _, _, rfl, .inl ⟨_, .inl (.inl h3), rfl⟩, ?_⟩
        refine ⟨_, _, rfl, rfl, by rw [List.length_map]; exact Int.natCast_pos.mpr hp, b, _, _, .int z, rfl, rfl, .inl (.inl h3), ?_, k _ I H s (Ex.refl _) (.int _)⟩
        rw [List.length_map]
        exact at_mod hp hz
      · cases hm
    · cases hm
  · cases hm
theorem em_drSeed' (i : Nat) {k1 k2 k3} {p1 p2 p3 p4 p5 p6 p7 p10 p11 p12 p13 p14 : Pos} (hl : X.mg "len" = none) (hgl : Gl X "len" := by rfl) (hN : X.N[i]? = some x := by rfl) (hv : Vis X.env.scope x := by first | exact Or.inl rfl | exact Or.inr (Or.inl rfl) | exact Or.inr (Or.inr rfl)) (hd : (x == ("__debug__" : Str)) = false := by decide)
    (hcd : (x == ("__classdict__" : Str)) = false := by decide)
    (he : starEach [.Subscript (.Name x p1) (.Constant (.int 2) k1 p2) p3] X.env = (false, eval (.Subscript (.Name x p1) (.Constant (.int 2) k1 p2) p3) X.env) :: starEach [] X.env := by rfl) (hpl : (backTo p4 (starEach [] X.env)).any (·.1) = false := by rfl) :
    EM X cl (.Subscript (.Subscript (.Name x p12) (.Constant (.int 2) k3 p13) p14) (.BinOp (.Subscript (.Name x p5) (.Constant (.int 3) k2 p6) p7) .Mod (.Call (.Name "len" p10) [.Subscript (.Name x p1) (.Constant (.int 2) k1 p2) p3] [] p4) p11) pos) (mdrSeed i) := by
  refine (pe_ix ix_list (pe_ix ix_list (pe_var hN hv hd hcd) pe_int (fun _ _ => rfl)) (pe_op op_mod (pe_ix ix_list (pe_var hN hv hd hcd) pe_int (fun _ _ => rfl))
    (pe_callB call_len hgl hl PySem.boot_len (pa_cons (pe_ix ix_list (pe_var hN hv hd hcd) pe_int (fun _ _ => rfl)) pa_nil he) (by decide) (by decide) he hpl)) (fun _ _ => rfl)).zi fun σ H Q q => ?_
  obtain ⟨F, I, env, ex, d, env', s, hm, k⟩ := q
  unfold mdrSeed at hm
  split at hm
  · rename_i p0 t h0
    split at hm
    · rename_i z hz
      split at hm
      · rename_i hp
        cases hm
        obtain ⟨f, s'⟩ := id s
        obtain ⟨v, hv, ⟨d, a, b, rfl, hf, _, _, _, h1, h2, h3⟩, _⟩ := s'.lookM h0
        refine ⟨_, hv, d, _, 2, .ref b, rfl, rfl, .inl (.inl h1), rfl, ?_⟩
        refine ⟨_, hv, d, _, 3, .int t.cnt, rfl, rfl, .inl (.inl h1), rfl, ?_⟩
        refine ⟨_, hv, d, _, 2, .ref b, rfl, rfl, .inl (.inl h1), rfl, _, _, rfl, .inl ⟨_, .inl (.inl h3), rfl⟩, ?_⟩
        refine ⟨_, _, rfl, rfl, by rw [List.length_map]; exact Int.natCast_pos.mpr hp, b, _, _, .int z, rfl, rfl, .inl (.inl h3), ?_, k _ I H s (Ex.refl _) (.int _)⟩
        rw [List.length_map]
        exact at_mod hp hz
      · cases hm
    · cases hm
  · cases hm
/-- draws[0].pop(0) -/
def mdrPop (i : Nat) : MM D := fun env => match env[i]? with
  | some (.mu q (.dr ⟨n :: r, c, B, t⟩)) => if r.length ≤ 1000000 then some (.int n, env.set i (.mu q (.dr ⟨r, c, B, t⟩))) else none
  | _ => none
theorem em_drPop (i : Nat) {k1 k2} {p1 p2 p3 p4 p5 p6 : Pos} (hN : X.N[i]? = some x := by rfl) (hv : Vis X.env.scope x := by first | exact Or.inl rfl | exact Or.inr (Or.inl rfl) | exact Or.inr (Or.inr rfl)) (hd : (x == ("__debug__" : Str)) = false := by decide)
    (hcd : (x == ("__classdict__" : Str)) = false := by decide)
    (hbase : attributeBase (.Subscript (.Name x p1) (.Constant (.int 0) k1 p2) p3) "pop" X.env (eval (.Subscript (.Name x p1) (.Constant (.int 0) k1 p2) p3) X.env) = eval (.Subscript (.Name x p1) (.Constant (.int 0) k1 p2) p3) X.env := by rfl)
    (hfew : ((backTo p5 (starEach [.Constant (.int 0) k2 p4] X.env)).all (fun x => !x.1) && (backToKw p5 (keywordEach [] X.env)).all (fun x => x.1.isSome)
      && decide (([.Constant (.int 0) k2 p4] : List Expr).length + ([] : List Keyword).length + (if ([] : List Keyword).isEmpty then 0 else 1) < 30)) = true := by rfl)
    (hline : (p6.endLine == p5.line) = true := by rfl) (hs : starEach [.Constant (.int 0) k2 p4] X.env = (false, eval (.Constant (.int 0) k2 p4) X.env) :: starEach [] X.env := by rfl) (hplain : (backTo p5 (starEach [] X.env)).any (·.1) = false := by rfl) :
    EM X cl (.Call (.Attribute (.Subscript (.Name x p1) (.Constant (.int 0) k1 p2) p3) "pop" p6) [.Constant (.int 0) k2 p4] [] p5) (mdrPop i) := by
  refine (pe_bm PySem.F.plainAttrs_list PySem.F.slot_list_pop PySem.F.type_list_pop mt_popAt (pe_ix ix_list (pe_var hN hv hd hcd) pe_int (fun _ _ => rfl)) (pa_cons pe_int pa_nil hs) hbase hfew hline hs hplain).zi fun σ H Q q => ?_
  obtain ⟨F, I, env, ex, d, env', s, hm, k⟩ := q
  unfold mdrPop at hm
  split at hm
  · rename_i q0 n r c B t h0
    split at hm
    · rename_i hlen
      cases hm
      obtain ⟨f, s'⟩ := id s
      obtain ⟨v, hv, ⟨d, a, b, rfl, hf, n1, n2, n3, h1, h2, h3⟩, _⟩ := s'.lookM h0
      refine ⟨_, hv, d, _, 0, .ref a, rfl, rfl, .inl (.inl h1), rfl, .inl ⟨rfl, _, .inl (.inl h2)⟩, a, _, 0, 0, .int n, rfl, rfl, h2, by decide, by decide, ?_, rfl, ?_⟩
      · simp [seqIndex?]
      · refine k _ I _ ⟨f, s'.change h0 (fun z hz => upd_ne fun w => hz (by rw [hf, w]; simp)) fun v hv => ?_⟩ (Ex.refl _) (.int _)
        rw [show σ[i]? = some (some (V.ref d)) from by assumption] at hv
        cases hv
        exact ⟨d, a, b, rfl, hf, n1, n2, n3, by rw [upd_ne n1]; exact h1, upd_same, by rw [upd_ne (Ne.symm n3)]; exact h3⟩
    · cases hm
  · cases hm
/-- draws[1] = e, draws[3] = e -/
def DS.put (s : DS) (j n : Int) : Option DS := match j with
  | 1 => some { s with cur := n }
  | 3 => some { s with cnt := n }
  | _ => none
def sdr (i : Nat) (j : Int) (m : MM D) : SM := fun env => match m env with
  | some (.int n, e1) => (match e1[i]? with
    | some (.mu q (.dr s)) => (match s.put j n with
      | some t => some (.nx (e1.set i (.mu q (.dr t))))
      | none => none)
    | _ => none)
  | _ => none
theorem es_dr (i : Nat) (j : Int) {kk} {p1 p2 p3 : Pos} (ha : EM X cl e ma) (hN : X.N[i]? = some x := by rfl) (hv : Vis X.env.scope x := by first | exact Or.inl rfl | exact Or.inr (Or.inl rfl) | exact Or.inr (Or.inr rfl)) (hd : (x == ("__debug__" : Str)) = false := by decide)
    (hcd : (x == ("__classdict__" : Str)) = false := by decide) (hs : swapsWithSole [.Subscript (.Name x p1) (.Constant (.int j) kk p2) p3] e pos.line X.env = pure false := by rfl) (hw : swappedStores [.Subscript (.Name x p1) (.Constant (.int j) kk p2) p3] e X.env = pure none := by rfl)
    (h1 : (assignEach [.Subscript (.Name x p1) (.Constant (.int j) kk p2) p3] X.env).map (·.2) = [assign (.Subscript (.Name x p1) (.Constant (.int j) kk p2) p3) X.env] := by rfl) :
    ES X cl (.Assign [.Subscript (.Name x p1) (.Constant (.int j) kk p2) p3] e pos) (sdr i j ma) := by
  refine (ps_asg ha (pg_sub (pe_var hN hv hd hcd) pe_int set_list) hs hw h1).zi fun Dn σ H q => ?_
  obtain ⟨F, I, env, ex, out, s, hm, k⟩ := q
  unfold sdr at hm
  split at hm
  · rename_i n e1 h2
    split at hm
    · rename_i q0 t h0
      split at hm
      · rename_i t2 ht
        cases hm
        refine ⟨F, I, env, ex, .int n, e1, s, h2, fun w I1 H1 s1 q1 r1 => ?_⟩
        cases r1
        obtain ⟨f, s'⟩ := id s1
        obtain ⟨v, hv, ⟨d, a, b, rfl, hf, n1, n2, n3, g1, g2, g3⟩, _⟩ := s'.lookM h0
        have key : ∃ jj, ixN 4 j = some jj ∧ [V.ref a, .int t.cur, .ref b, .int t.cnt].set jj (.int n) = [V.ref a, .int t2.cur, .ref b, .int t2.cnt] ∧ t2.A = t.A ∧ t2.B = t.B := by
          unfold DS.put at ht
          split at ht
          · cases ht; exact ⟨1, rfl, rfl, rfl, rfl⟩
          · cases ht; exact ⟨3, rfl, rfl, rfl, rfl⟩
          · cases ht
        obtain ⟨jj, k1, k2, k3, k4⟩ := key
        refine ⟨_, hv, d, _, j, jj, rfl, rfl, g1, k1, ?_⟩
        rw [k2]
        refine k σ I1 _ ⟨f, s'.change h0 (fun z hz => upd_ne fun w => hz (by rw [hf, w]; simp)) fun v hv => ?_⟩ q1
        rw [show σ[i]? = some (some (V.ref d)) from by assumption] at hv
        cases hv
        exact ⟨d, a, b, rfl, hf, n1, n2, n3, upd_same, by rw [upd_ne (Ne.symm n1), k3]; exact g2, by rw [upd_ne (Ne.symm n2), k4]; exact g3⟩
      · cases hm
    · cases hm
  · cases hm
/-! ### the source made, the law's end -/
/-- what _law_draws promises: a new source of the script's ints -/
def spDr (K : PySem.W.Frag) (fA fB : List Int → List Int) : Sp := fun vs H Q _ => ∃ (I : Hp) (ns : List Int) (v : V), vs = [v] ∧ Ex I H ∧ SqL K I (match v with | .ref a => a | _ => 0) (ns.map V.int) ∧ (∃ a, v = .ref a) ∧ ns.length ≤ 63 ∧
  ∀ d a b H', H d = none → H a = none → H b = none → d ≠ a → d ≠ b → a ≠ b → Ex H H' → H' d = some (.lst [.ref a, .int 0, .ref b, .int 0]) → H' a = some (.lst ((fA ns).map V.int)) → H' b = some (.lst ((fB ns).map V.int)) → Q (.ref d) H'
end
end Zf

set_option Elab.async false
set_option linter.all false
set_option maxRecDepth 100000
set_option maxHeartbeats 1000000
/-! Zf, part 9: the source made, the law. -/
namespace Zf
open PySem PySem.Spec L2
theorem an_nil' : ∀ (as : List Ar) (env env' : En), anil env = some (as, env') → as.length = 0 := fun _ _ _ h => an_nil h
theorem an_ok {m : MM (List Ar)} {dfl : List D} {j n : Nat} (h : ∀ (as : List Ar) (env env' : En), m env = some (as, env') → as.length = j) (hj : j + dfl.length = n) : ∀ (as : List Ar) (env env' : En), m env = some (as, env') → as.length + dfl.length = n := fun as e e' q => by
  rw [h as e e' q]; exact hj
def negD : D → Option D
  | .int i => some (.int (-i))
  | _ => none
section
variable {X : Cx} {cl : Nat → Addr} {a b e : Expr} {es : List Expr} {pos p apos cpos : Pos} {ma mb : MM D} {x : Str}
theorem em_neg (h : EM X cl a ma) : EM X cl (.UnaryOp .USub a pos) (MM.opt ma negD) := (pe_un un_neg h).zi fun σ H Q q => by
  obtain ⟨F, I, env, ex, d, env', s, hm, k⟩ := q
  obtain ⟨d0, h1, h2⟩ := opt_of hm
  refine ⟨F, I, env, ex, d0, env', s, h1, fun v I' H' s' e' r => ?_⟩
  cases r <;> cases h2
  exact ⟨_, rfl, k _ I' H' s' e' (.int _)⟩
/-- draws = _law_draws(script) -/
def sdraws (fA fB : List Int → List Int) (i j : Nat) : SM := fun env => match env[j]? with
  | some (.im (.scr ns)) => if okS env i = true ∧ ns.length ≤ 63 then some (.nx (env.set i (.mu false (.dr ⟨fA ns, 0, fB ns, 0⟩)))) else none
  | _ => none
def CalDr (P : Program) (w : World) (K : PySem.W.Frag) (mg : Str → Option Value) (base : Heap) (x : Str) (k : Nat) (fA fB : List Int → List Int) : Prop :=
  ∃ (f : Addr) (fd : FuncData), FnOk P w K mg base CX0 k f fd ["script"] (spDr K fA fB) ∧ mg x = some (.ref f) ∧ PySem.W.keepIn K (.ref f) = true ∧ Binds K fd ["script"] []
theorem es_draws (i j k : Nat) {f y z : Str} {fA fB : List Int → List Int} {p1 p2 p3 p4 : Pos} (c : CalDr X.prog X.w X.K X.mg X.base f k fA fB) (hr : Room k X.A) (hNd : X.N.Nodup) (hi : X.N[i]? = some y := by rfl) (hj : X.N[j]? = some z := by rfl) (hx : Loc X.env.scope y := by first | exact Or.inl rfl | exact Or.inr rfl)
    (hv : Vis X.env.scope z := by first | exact Or.inl rfl | exact Or.inr (Or.inl rfl) | exact Or.inr (Or.inr rfl)) (hd : (z == ("__debug__" : Str)) = false := by decide) (hcd : (z == ("__classdict__" : Str)) = false := by decide)
    (hg : Gl X f := by rfl) (hdb : (f == ("__debug__" : Str)) = false := by decide) (he : starEach [.Name z p2] X.env = (false, eval (.Name z p2) X.env) :: starEach [] X.env := by rfl) (hpl : (backTo p4 (starEach [] X.env)).any (·.1) = false := by rfl)
    (hs : swapsWith (.Call (.Name f p1) [.Name z p2] [] p4) (some (.Name y p3)) pos.line X.env = pure false := by rfl) (hf : X.fn y = true ∨ X.env.scope.names.lookup y = some .local := by first | exact .inl rfl | exact .inr rfl) :
    ES X cl (.Assign [.Name y p3] (.Call (.Name f p1) [.Name z p2] [] p4) pos) (sdraws fA fB i j) := by
  obtain ⟨fa, fd, h1, h2, h3, h4⟩ := c
  refine (ps_set (i := i) hNd hi hx (pe_call h1 hr hg h2 h3 h4 .nil pass0 (pa_cons (pe_var hj hv hd hcd) pa_nil he) hdb he hpl) hs hf).zi fun Dn σ H q => ?_
  obtain ⟨F, I, env, ex, out, s, hm, k⟩ := q
  unfold sdraws at hm
  split at hm
  · rename_i ns h0
    split at hm
    · rename_i ho
      obtain ⟨ho, hlen⟩ := ho
      cases hm
      obtain ⟨f0, s'⟩ := id s
      obtain ⟨v, hv, r⟩ := s'.look h0
      cases r with
      | @scr a _ hs =>
        refine ⟨_, hv, I, ns, .ref a, rfl, s'.ih, hs, ⟨a, rfl⟩, hlen, fun d a b H' nd na nb n1 n2 n3 eH hd ha hb => ?_⟩
        obtain ⟨hl, hok⟩ := okS_of ho
        refine k _ I H' ⟨fun j => if j = i then [d, a, b] else f0 j, ?_⟩ (Ex.refl _)
        have kp : ∀ c, H c ≠ none → H' c = H c := fun c hc => by
          cases q : H c with
          | none => exact absurd q hc
          | some o => exact eH c o q
        have g : ∀ {j : Nat} {q : Bool} {n : Mu}, (env.set i (.mu false (.dr ⟨fA ns, 0, fB ns, 0⟩)))[j]? = some (Sl.mu q n) → j ≠ i → env[j]? = some (Sl.mu q n) := fun {j q n} h q => by
          rw [List.getElem?_set_ne (Ne.symm q)] at h; exact h
        have off : ∀ {j : Nat} {q : Bool} {n : Mu} {c : Addr}, env[j]? = some (Sl.mu q n) → c ∈ f0 j → c ∉ [d, a, b] := fun {j q n c} h hc hm => by
          obtain ⟨⟨_, _, hM⟩, _⟩ := s'.sl.mu j q n h
          have := hM.here c hc
          simp at hm
          rcases hm with rfl | rfl | rfl
          · exact this nd
          · exact this na
          · exact this nb
        have dn : ∀ c ∈ [d, a, b], H c = none := fun c hc => by
          simp at hc
          rcases hc with rfl | rfl | rfl
          · exact nd
          · exact na
          · exact nb
        refine ⟨⟨fun j e h => ?_, fun j q n h => ?_, fun j k q n q' n' c hjk h1 h2 h3 h4 => ?_⟩, by simp [s'.ln], s'.ih.trans eH, s'.ii, s'.fr, fun c o h1 h2 => eH c o (s'.st c o h1 h2), fun j q n c h hc => ?_, fun j q n h => ?_, fun c hc => ?_, fun c hc j q n h => ?_, s'.exn⟩
        · by_cases q : i = j
          · subst q; have h : (env.set i _)[i]? = some (Sl.im e) := h; rw [List.getElem?_set_self hl] at h; cases h
          · have h : (env.set i _)[j]? = some (Sl.im e) := h
            rw [List.getElem?_set_ne q] at h
            show ∃ v, ((σ.set i _)[j]?).join = _ ∧ _
            rw [List.getElem?_set_ne q]
            exact s'.sl.im j e h
        · have h : (env.set i _)[j]? = some (Sl.mu q n) := h
          by_cases z : j = i
          · subst z
            rw [List.getElem?_set_self hl] at h
            cases h
            simp only [if_true]
            refine ⟨⟨.ref d, ?_, d, a, b, rfl, rfl, n1, n2, n3, hd, ha, hb⟩, fun c hc => s'.ih.none (dn c hc)⟩
            rw [List.getElem?_set_self (s'.ln ▸ hl)]; rfl
          · have h1 := g h z
            obtain ⟨⟨u, h4, h5⟩, h6⟩ := s'.sl.mu j q n h1
            simp only [if_neg z]
            refine ⟨⟨u, ?_, h5.kept (Ex.refl _) fun c hc => kp c (h5.here c hc)⟩, h6⟩
            rw [List.getElem?_set_ne (Ne.symm z)]; exact h4
        · have h1 : (env.set i _)[j]? = some (Sl.mu q n) := h1
          have h2 : (env.set i _)[k]? = some (Sl.mu q' n') := h2
          by_cases z1 : j = i
          · by_cases z2 : k = i
            · exact hjk (z1.trans z2.symm)
            · simp only [if_pos z1] at h3; simp only [if_neg z2] at h4
              exact off (g h2 z2) h4 h3
          · simp only [if_neg z1] at h3
            by_cases z2 : k = i
            · simp only [if_pos z2] at h4
              exact off (g h1 z1) h3 h4
            · simp only [if_neg z2] at h4
              exact s'.sl.dj j k q n q' n' c hjk (g h1 z1) (g h2 z2) h3 h4
        · by_cases z : j = i
          · simp only [if_pos z] at hc
            exact .inl (s'.fresh0 (dn c hc))
          · simp only [if_neg z] at hc
            exact s'.nw j q n c (g h z) hc
        · obtain ⟨m', h1, h2, h3⟩ := s'.pn j q n h
          have z : j ≠ i := fun z => hok m' (z ▸ h1)
          exact ⟨m', by rw [List.getElem?_set_ne (Ne.symm z)]; exact h1, by simp only [if_neg z]; exact h2, by rw [List.getElem?_set_ne (Ne.symm z)]; exact h3⟩
        · obtain ⟨h1, h2, h3⟩ := s'.ex0 c hc
          exact ⟨h1, eH _ _ h2, h3⟩
        · by_cases z : j = i
          · simp only [if_pos z]
            intro hm
            have := (s'.ex0 c hc).2.1
            rw [dn _ hm] at this
            cases this
          · simp only [if_neg z]
            exact s'.exd c hc j q n (g h z)
    · cases hm
  · cases hm
end
section
variable {P : Program} {w : World} {K : PySem.W.Frag} {mg : Str → Option Value} {base : Heap} {cl : Nat → Addr}
theorem fn_draws {x qual : Str} {params : Arguments} {body : List Stmt} {scope : Scope} {dvs : List V} {kws : List (Str × V)} {f : Addr} {fd : FuncData} {N : List Str} {k : Nat} {m : MM (List Pa)} {fA fB : List Int → List Int} (F : FunD K x qual params body scope dvs kws f fd) (S : FnScope N ["script"] scope) (hl : 1 ≤ N.length)
    (hb : ∀ (cdv : Value) (A : Around) (outer : List Env) (s : Shared) (H : Hp) (E : XK), Room k (A.deeper (PyProof.Rows.envOfC qual scope s.heap.objs.size f cdv)) → PSs (cxOf CX0 P w K mg base N qual scope f cdv A outer s H E).nox body (tRet (tLst (tP K cl m))))
    (hm : ∀ ns : List Int, ns.length ≤ 63 → ∃ env', m (.im (.scr ns) :: List.replicate (N.length - 1) .no) = some ([.ow ((fA ns).map .int), .im (.int 0), .ow ((fB ns).map .int), .im (.int 0)], env')) :
    FnOk P w K mg base CX0 (k + 1) f fd ["script"] (spDr K fA fB) := by
  refine F.ok S (fun vs H Q E h => ?_) (fun cdv A outer s H vs Q E hr h => ?_)
  · obtain ⟨I, ns, v, rfl, _⟩ := h
    rfl
  · obtain ⟨I, ns, v, rfl, hI, hS, ⟨a, rfl⟩, hlen, kk⟩ := h
    refine ⟨_, (hb cdv A outer s H E hr).nox, ?_⟩
    obtain ⟨env', he⟩ := hm ns hlen
    have s0 : SRx K cl ⟨I, H, [.ref a], [.im (.scr ns)], fun _ => []⟩ I H (L2.start N [.ref a]) (.im (.scr ns) :: List.replicate (N.length - 1) .no) (fun _ => []) [] := by
      have eL : ∀ {i : Nat} {z : Sl}, (Sl.im (.scr ns) :: List.replicate (N.length - 1) Sl.no)[i]? = some z → z ≠ .no → i = 0 ∧ z = .im (.scr ns) := fun {i z} h hz => by
        cases i with
        | zero => cases h; exact ⟨rfl, rfl⟩
        | succ i =>
          rw [List.getElem?_cons_succ, List.getElem?_replicate] at h
          split at h
          · cases h; exact absurd rfl hz
          · cases h
      refine ⟨⟨fun i d e => ?_, fun i p m e => ?_, fun i j p m q n a hij e1 e2 => ?_⟩, (by unfold L2.start; simp), hI, Ex.refl _, fun a _ h => h, fun a o h _ => h, fun i p m a e ha => (by cases ha), fun i p m e => ?_, fun a ha => (by cases ha), fun a ha => (by cases ha), List.nodup_nil⟩
      · obtain ⟨rfl, e1⟩ := eL e (by simp)
        cases e1
        exact ⟨.ref a, rfl, .scr hS⟩
      · obtain ⟨_, e1⟩ := eL e (by simp)
        cases e1
      · obtain ⟨_, e1⟩ := eL e1 (by simp)
        cases e1
      · have e : ([Sl.im (.scr ns)] : En)[i]? = some (.mu p m) := e
        cases i with
        | zero => cases e
        | succ i => cases e
    refine ⟨_, I, _, [], _, env', ⟨_, s0⟩, he, fun vs ps I' H' ⟨f', s'⟩ e' r => ?_⟩
    cases r with
    | @ow _ p1 ws1 _ _ _ r1 r =>
      cases r with
      | im r2 r =>
        cases r with
        | @ow _ p2 ws2 _ _ _ r3 r =>
          cases r with
          | im r4 r =>
            cases r
            cases r2
            cases r4
            have v1 := r1.intsV (intsD_map _)
            have v2 := r3.intsV (intsD_map _)
            subst v1 v2
            obtain ⟨i1, h1, z1⟩ := s'.ex0 (p1, .lst ((fA ns).map V.int)) (List.mem_append_left _ List.mem_cons_self)
            obtain ⟨i2, h2, z2⟩ := s'.ex0 (p2, .lst ((fB ns).map V.int)) (List.mem_append_left _ (List.mem_cons_of_mem _ List.mem_cons_self))
            have ne : p1 ≠ p2 := by
              rintro rfl
              have h7 := s'.exn
              simp at h7
            refine ⟨by show 4 ≤ sizeLine; decide, fun d hd => ?_⟩
            have n1 : d ≠ p1 := fun z => by rw [z, h1] at hd; cases hd
            have n2 : d ≠ p2 := fun z => by rw [z, h2] at hd; cases hd
            have h0 : ∀ c, H' c = none → H c = none := fun c hc => by
              cases q : H c with
              | none => rfl
              | some o =>
                rw [s'.st c o q (fun i p m e => by cases i <;> cases e)] at hc
                cases hc
            have kept : ∀ c o, H c = some o → H' c = some o := fun c o hc => s'.st c o hc fun i p m e => by cases i <;> cases e
            exact kk d p1 p2 _ (h0 d hd) z1 z2 n1 n2 ne (fun c o hc => by
              have h5 := kept c o hc
              have h6 : c ≠ d := fun z => by
                rw [z, hd] at h5
                cases h5
              rw [upd_ne h6]
              exact h5) upd_same (by rw [upd_ne (Ne.symm n1)]; exact h1) (by rw [upd_ne (Ne.symm n2)]; exact h2)
/-- the law, by its mirror -/
def spLaw (K : PySem.W.Frag) : Sp := fun vs H Q _ => ∃ (a : Addr) (ns : List Int), vs = [.ref a] ∧ SqL K H a (ns.map V.int) ∧ ns.length ≤ 63 ∧ ∀ H', Q (.bl true) H'
theorem law_imp {k : Nat} {f : Addr} {fd : FuncData} {F : FM} (h : FnOk P w K mg base CX0 k f fd ["script"] (spM K cl 1 F)) (hF : ∀ ns : List Int, ns.length ≤ 63 → ∃ news, F [.im (.scr ns)] = some (.bl true, news)) : FnOk P w K mg base CX0 k f fd ["script"] (spLaw K) :=
  h.imp fun vs H Q E q => by
    obtain ⟨a, ns, rfl, hS, hlen, k⟩ := q
    obtain ⟨news, hn⟩ := hF ns hlen
    refine ⟨H, [.im (.scr ns)], fun _ => [], .bl true, news, rfl, rfl, ⟨fun i d e => ?_, fun i p m e => ?_, fun i j p m q n a hij e1 e2 => ?_⟩, fun i p m e => ?_, Ex.refl _, fun i e => ?_, hn, fun v I' H' _ _ _ _ _ r => ?_⟩
    · cases i with
      | zero => cases e; exact ⟨_, rfl, .scr hS⟩
      | succ i => cases e
    · cases i <;> cases e
    · cases i <;> cases e1
    · cases i <;> cases e
    · cases i <;> cases e
    · cases r; exact k H'
end
end Zf
namespace Zf
open PySem PySem.Spec L2
theorem glob_str {o : Option Value} {z : Str} (h : ∃ t, o = some (.str z t)) : ∃ u, o = some u ∧ RelV (.str z) u := let ⟨t, e⟩ := h; ⟨_, e, t, rfl⟩
theorem glob_int {o : Option Value} {z : Int} (h : ∃ t, o = some (.int z t)) : ∃ u, o = some u ∧ RelV (.int z) u := let ⟨t, e⟩ := h; ⟨_, e, t, rfl⟩
end Zf
namespace Zf
open PySem PySem.Spec L2
theorem mulD_l {a b : Int} (h : a.natAbs ≤ 2 ^ 63) : mulD (.int a) (.int b) = some (.int (a * b)) := by simp only [mulD]; rw [if_pos (Or.inl h)]
theorem mulD_r {a b : Int} (h : b.natAbs ≤ 2 ^ 63) : mulD (.int a) (.int b) = some (.int (a * b)) := by simp only [mulD]; rw [if_pos (Or.inr h)]
theorem modD_p {a b : Int} (h : 0 < b) : modD (.int a) (.int b) = some (.int (a % b)) := by simp only [modD]; rw [if_pos h]
theorem fdivD_p {a b : Int} (h : 0 < b ∧ b < 1073741824) : fdivD (.int a) (.int b) = some (.int (a / b)) := by simp only [fdivD]; rw [if_pos h]
theorem powD_p {a b : Int} (h : 0 ≤ b ∧ b ≤ 1000000 ∧ a.natAbs < 2 ^ 64) : powD (.int a) (.int b) = some (.int (a ^ b.toNat)) := by simp only [powD]; rw [if_pos h]
theorem addD_i {a b : Int} : addD (.int a) (.int b) = some (.int (a + b)) := rfl
end Zf
namespace Zf
open PySem PySem.Spec L2
theorem eqD_i {a b : Int} : eqD (.int a) (.int b) = some (.bl (decide (a = b))) := rfl
theorem neD_i {a b : Int} : neD (.int a) (.int b) = some (.bl (!decide (a = b))) := rfl
theorem ltD_i {a b : Int} : ltD (.int a) (.int b) = some (.bl (decide (a < b))) := rfl
theorem leD_i {a b : Int} : leD (.int a) (.int b) = some (.bl (decide (a ≤ b))) := rfl
theorem gtD_i {a b : Int} : gtD (.int a) (.int b) = some (.bl (decide (b < a))) := rfl
theorem geD_i {a b : Int} : geD (.int a) (.int b) = some (.bl (decide (b ≤ a))) := rfl
theorem subD_i {a b : Int} : subD (.int a) (.int b) = some (.int (a - b)) := rfl
theorem eqD_s {a b : Str} : eqD (.str a) (.str b) = some (.bl (decide (a = b))) := rfl
theorem neD_s {a b : Str} : neD (.str a) (.str b) = some (.bl (!decide (a = b))) := rfl
theorem addD_s {a b : Str} (h : a.length + b.length ≤ 1000000) : addD (.str a) (.str b) = some (.str (a ++ b)) := by simp only [addD]; rw [if_pos h]
/-- a body's end -/
theorem fnM_rt {n : Nat} {m : SM} {args e : En} {d : D} (h : m (args ++ List.replicate (n - args.length) .no) = some (.rt d e)) : fnM n m args = some (d, (List.range args.length).map fun i => e.getD i .no) := by
  unfold fnM; rw [h]
theorem fnM_nx {n : Nat} {m : SM} {args e : En} (h : m (args ++ List.replicate (n - args.length) .no) = some (.nx e)) : fnM n m args = some (.non, (List.range args.length).map fun i => e.getD i .no) := by
  unfold fnM; rw [h]
theorem slots_nil : slots [] = [] := rfl
theorem slots_im {d : D} {as : List Ar} : slots (.im d :: as) = slots as := rfl
theorem slots_sl {i : Nat} {as : List Ar} : slots (.sl i :: as) = i :: slots as := rfl
end Zf

set_option Elab.async false
set_option linter.all false
set_option maxRecDepth 100000
set_option maxHeartbeats 1000000
/-! Zf, part 10: what is not covered, in-place sums, kinds, least and greatest, places. -/
namespace Zf
open PySem PySem.Spec L2
section
variable {X : Cx} {cl : Nat → Addr} {tg it e : Expr} {es : List Expr} {st : Stmt} {pos p apos cpos : Pos} {ma mb : MM D} {x : Str}
/-! ### not covered: the mirror has no answer -/
def mbad : MM D := fun _ => none
def mbadF : MM (List D) := fun _ => none
def mbadB : MM Bool := fun _ => none
def sbad : SM := fun _ => none
theorem em_bad : EM X cl e mbad := ⟨fun pins s σ H Q I h => by obtain ⟨_, _, _, _, _, _, _, h, _⟩ := h; cases h⟩
theorem ef_bad : EF X cl e mbadF := ⟨fun pins s σ H Q I h => by obtain ⟨_, _, _, _, _, _, _, h, _⟩ := h; cases h⟩
theorem eb_bad : EB X cl e mbadB := ⟨fun pins s σ H Q I h => by obtain ⟨_, _, _, _, _, _, _, h, _⟩ := h; cases h⟩
theorem ei_bad : EI X cl tg it mbadF := ⟨fun pins s σ H R I h => by obtain ⟨_, _, _, _, _, _, _, h, _⟩ := h; cases h⟩
theorem es_bad : ES X cl st sbad := ⟨fun pins s σ H D I h => by obtain ⟨_, _, _, _, _, _, h, _⟩ := h; cases h⟩
/-! ### x += e, of numbers and texts -/
def addI : D → D → Option D
  | .int a, .int b => some (.int (a + b))
  | .str a, .str b => if a.length + b.length ≤ 1000000 then some (.str (a ++ b)) else none
  | _, _ => none
def saug (i : Nat) (m : MM D) : SM := fun env => match env[i]? with
  | some (.im a) => (match m env with
    | some (b, e1) => (match addI a b with
      | some z => if okS e1 i then some (.nx (e1.set i (.im z))) else none
      | none => none)
    | none => none)
  | _ => none
def rAddT : V → V → Hp → VK → Prop := fun x y H Q => ∃ i j, x = .str i ∧ y = .str j ∧ i.length + j.length ≤ sizeLine ∧ Q (.str (i ++ j)) H
def tipA : TIp := fun x y H Q => rAdd x y H Q ∨ rAddT x y H Q
theorem ip_addA : PIp X .Add tipA := fun pins s σ H x y v u Q I rx ry h => h.elim (in_add pins s σ H x y v u Q I rx ry) (iop_add_str pins s σ H x y v u Q I rx ry)
theorem es_aug (i : Nat) {pos' : Pos} (hN : X.N.Nodup) (h : EM X cl e ma) (hi : X.N[i]? = some x := by rfl) (hx : Loc X.env.scope x := by first | exact Or.inl rfl | exact Or.inr rfl)
    (hf : X.fn x = true ∨ X.env.scope.names.lookup x = some .local := by first | exact .inl rfl | exact .inr rfl) : ES X cl (.AugAssign (.Name x pos') .Add e pos) (saug i ma) := by
  refine (ps_aug (i := i) hN hi hx h ip_addA hf).zi fun Dn σ H q => ?_
  obtain ⟨F, I, env, ex, out, s, hm, k⟩ := q
  unfold saug at hm
  split at hm
  · rename_i a h0
    split at hm
    · rename_i b e1 h1
      split at hm
      · rename_i z hz
        split at hm
        · rename_i ho
          cases hm
          obtain ⟨f, s'⟩ := id s
          obtain ⟨v, hv, r⟩ := s'.look h0
          refine ⟨v, hv, F, I, env, ex, b, e1, s, h1, fun u I' H' s1 q1 ru => ?_⟩
          have rv := r.ex q1
          unfold addI at hz
          split at hz
          · cases hz; cases rv; cases ru
            exact .inl ⟨_, _, rfl, rfl, k _ I' H' (s1.set ho (.int _)) q1⟩
          · split at hz
            · rename_i hl
              cases hz; cases rv; cases ru
              exact .inr ⟨_, _, rfl, rfl, Nat.le_trans hl (by decide), k _ I' H' (s1.set ho (.str _)) q1⟩
            · cases hz
          · cases hz
        · cases hm
      · cases hm
    · cases hm
  · cases hm
/-! ### isinstance of a built-in kind -/
def typeN : D → Option String
  | .non => some "NoneType"
  | .bl _ => some "bool"
  | .int _ => some "int"
  | .str _ => some "str"
  | .lst _ => some "list"
  | .tup _ => some "tuple"
  | .dct _ => some "dict"
  | _ => none
theorem Rep.tyX {K : PySem.W.Frag} {I H : Hp} {v : V} {d : D} {t : String} (e : Ex I H) (r : Rep K cl I v d) (h : typeN d = some t) : TyX K H v (.type t) := by
  cases r with
  | non => cases h; exact .base .non
  | bl b => cases h; exact .base (.bl b)
  | int b => cases h; exact .base (.int b)
  | str b => cases h; exact .base (.str b)
  | lst h1 _ => cases h; exact .base (.lst (e _ _ h1))
  | tup h1 _ =>
    cases h
    rcases ex_t e h1 with (h1 | ⟨o, h1⟩) | ⟨o, its, n, h1, h2, _⟩
    · exact .base (.tup h1)
    · exact .fTuple h1
    · exact .kTuple h1 h2
  | dct h1 _ => cases h; exact .base (.dK (e _ _ h1))
  | scr h1 => cases h
  | obj h1 _ => cases h
def kinds7 : List String := ["NoneType", "bool", "int", "str", "list", "tuple", "dict"]
theorem typeN_in {d : D} {t : String} (h : typeN d = some t) : t ∈ kinds7 := by
  unfold typeN at h
  split at h <;> cases h <;> decide
def isT (t T : String) : Bool := decide (t = T) || (decide (t = "bool") && decide (T = "int"))
theorem kit_isT {K : PySem.W.Frag} {t T : String} (h1 : t ∈ kinds7) (h2 : T ∈ ["bool", "int", "str", "list", "tuple", "dict"]) : PySem.W.kitOne K (.type t) (.type T) = some (isT t T) := by
  unfold kinds7 at h1
  simp only [List.mem_cons, List.not_mem_nil, or_false] at h1 h2
  rcases h1 with rfl | rfl | rfl | rfl | rfl | rfl | rfl <;> rcases h2 with rfl | rfl | rfl | rfl | rfl | rfl <;> rfl
def isiD (T : String) (d : D) : Option D := match typeN d with
  | some t => some (.bl (isT t T))
  | none => none
theorem em_isi (T : String) {n : Str} {p2 : Pos} (hm : X.mg "isinstance" = none) (hmT : X.mg n = none) (he : EM X cl e ma) (hT : T ∈ ["bool", "int", "str", "list", "tuple", "dict"] := by decide) (hb : bootBuiltins n = some (.type T) := by decide +kernel)
    (hg : Gl X "isinstance" := by rfl) (hgT : Gl X n := by rfl) (hnT : n ≠ "__name__" := by decide) (hdT : (n == ("__debug__" : Str)) = false := by decide)
    (hs1 : starEach [e, .Name n p2] X.env = (false, eval e X.env) :: starEach [.Name n p2] X.env := by rfl) (hs2 : starEach [.Name n p2] X.env = (false, eval (.Name n p2) X.env) :: starEach [] X.env := by rfl)
    (hpl : (backTo pos (starEach [.Name n p2] X.env)).any (·.1) = false := by rfl) :
    EM X cl (.Call (.Name "isinstance" p) [e, .Name n p2] [] pos) (MM.opt ma (isiD T)) := by
  refine (pe_callB call_isi hg hm PyProof.Rows.boot_isinstance (pa_cons he (pa_cons (pe_bltn (v := .ty T) hgT hmT hb rfl hnT hdT) pa_nil hs2) hs1) (by decide) (by decide) hs1 hpl).zi fun σ H Q q => ?_
  obtain ⟨F, I, env, ex, d, env', s, hq, k⟩ := q
  obtain ⟨a, h1, h2⟩ := opt_of hq
  refine ⟨F, I, env, ex, a, env', s, h1, fun v I1 H1 s1 q1 r1 => ?_⟩
  unfold isiD at h2
  split at h2
  · rename_i t ht
    cases h2
    exact ⟨v, .ty T, .type t, .type T, isT t T, rfl, .ty T, r1.tyX s1.ih ht, kit_isT (typeN_in ht) hT, k _ I1 H1 s1 q1 (.bl _)⟩
  · cases h2
/-! ### least and greatest -/
def minI : List Int → Option Int
  | [] => none
  | [a] => some a
  | a :: r => (minI r).map (min a)
def maxI : List Int → Option Int
  | [] => none
  | [a] => some a
  | a :: r => (maxI r).map (max a)
theorem minI_le : ∀ {ns : List Int} {m : Int}, minI ns = some m → m ∈ ns ∧ ∀ y ∈ ns, m ≤ y
  | [a], m, h => by cases h; simp
  | a :: b :: r, m, h => by
    simp only [minI, Option.map_eq_some_iff] at h
    obtain ⟨m', h1, rfl⟩ := h
    obtain ⟨i1, i2⟩ := minI_le (ns := b :: r) (m := m') h1
    by_cases q : a ≤ m'
    · rw [Int.min_eq_left q]
      refine ⟨List.mem_cons_self, fun y hy => ?_⟩
      rcases List.mem_cons.mp hy with rfl | hy
      · exact Int.le_refl _
      · exact Int.le_trans q (i2 y hy)
    · rw [Int.min_eq_right (by omega)]
      refine ⟨List.mem_cons_of_mem _ i1, fun y hy => ?_⟩
      rcases List.mem_cons.mp hy with rfl | hy
      · omega
      · exact i2 y hy
theorem maxI_le : ∀ {ns : List Int} {m : Int}, maxI ns = some m → m ∈ ns ∧ ∀ y ∈ ns, y ≤ m
  | [a], m, h => by cases h; simp
  | a :: b :: r, m, h => by
    simp only [maxI, Option.map_eq_some_iff] at h
    obtain ⟨m', h1, rfl⟩ := h
    obtain ⟨i1, i2⟩ := maxI_le (ns := b :: r) (m := m') h1
    by_cases q : m' ≤ a
    · rw [Int.max_eq_left q]
      refine ⟨List.mem_cons_self, fun y hy => ?_⟩
      rcases List.mem_cons.mp hy with rfl | hy
      · exact Int.le_refl _
      · exact Int.le_trans (i2 y hy) q
    · rw [Int.max_eq_right (by omega)]
      refine ⟨List.mem_cons_of_mem _ i1, fun y hy => ?_⟩
      rcases List.mem_cons.mp hy with rfl | hy
      · omega
      · exact i2 y hy
theorem minI_pos {ns : List Int} {m : Int} (h : minI ns = some m) : 0 < ns.length := by
  cases ns with
  | nil => cases h
  | cons => simp
theorem maxI_pos {ns : List Int} {m : Int} (h : maxI ns = some m) : 0 < ns.length := by
  cases ns with
  | nil => cases h
  | cons => simp
def minL : List D → Option D
  | [.lst ds] => (match intsD ds with
    | some ns => (minI ns).map .int
    | none => none)
  | [.int i, .int j] => some (.int (if j < i then j else i))
  | _ => none
def maxL : List D → Option D
  | [.lst ds] => (match intsD ds with
    | some ns => (maxI ns).map .int
    | none => none)
  | [.int i, .int j] => some (.int (if j > i then j else i))
  | _ => none
theorem ok_min {K : PySem.W.Frag} : OKL K cl (fun vs H Q => rMin K vs H Q ∨ ∃ i j, vs = [.int i, .int j] ∧ Q (.int (if j < i then j else i)) H) minL := fun I H vs ds d Q e r hg k => by
  unfold minL at hg
  split at hg
  · rename_i xs
    split at hg
    · rename_i ns h1
      obtain ⟨m, hm, rfl⟩ := Option.map_eq_some_iff.mp hg
      cases r with
      | cons r1 rr =>
        cases rr
        cases r1 with
        | lst h2 r2 =>
          have e2 := r2.intsV h1
          subst e2
          refine .inl ⟨_, ns, rfl, SqL.of (e _ _ h2), minI_pos hm, fun m' i1 i2 => ?_⟩
          obtain ⟨j1, j2⟩ := minI_le hm
          have : m' = m := Int.le_antisymm (i2 m j1) (j2 m' i1)
          subst this
          exact k _ _ _ (Gr.refl e) (.int _)
    · cases hg
  · cases hg
    cases r with
    | cons r1 rr =>
      cases rr with
      | cons r2 rr =>
        cases rr
        cases r1
        cases r2
        exact .inr ⟨_, _, rfl, k _ _ _ (Gr.refl e) (.int _)⟩
  · cases hg
theorem ok_max {K : PySem.W.Frag} : OKL K cl (fun vs H Q => rMax K vs H Q ∨ ∃ i j, vs = [.int i, .int j] ∧ Q (.int (if j > i then j else i)) H) maxL := fun I H vs ds d Q e r hg k => by
  unfold maxL at hg
  split at hg
  · rename_i xs
    split at hg
    · rename_i ns h1
      obtain ⟨m, hm, rfl⟩ := Option.map_eq_some_iff.mp hg
      cases r with
      | cons r1 rr =>
        cases rr
        cases r1 with
        | lst h2 r2 =>
          have e2 := r2.intsV h1
          subst e2
          refine .inl ⟨_, ns, rfl, SqL.of (e _ _ h2), maxI_pos hm, fun m' i1 i2 => ?_⟩
          obtain ⟨j1, j2⟩ := maxI_le hm
          have : m' = m := Int.le_antisymm (j2 m' i1) (i2 m j1)
          subst this
          exact k _ _ _ (Gr.refl e) (.int _)
    · cases hg
  · cases hg
    cases r with
    | cons r1 rr =>
      cases rr with
      | cons r2 rr =>
        cases rr
        cases r1
        cases r2
        exact .inr ⟨_, _, rfl, k _ _ _ (Gr.refl e) (.int _)⟩
  · cases hg
theorem call_orB {id : String} {r1 r2 : List V → Hp → VK → Prop} (h1 : CallR X (.builtin id) r1) (h2 : CallR X (.builtin id) r2) : CallR X (.builtin id) (fun vs H Q => r1 vs H Q ∨ r2 vs H Q) :=
  fun pins s σ H vs us Q I r h => h.elim (h1 pins s σ H vs us Q I r) (h2 pins s σ H vs us Q I r)
theorem cr_minA (hc : X.calm = true) : CallR X (.builtin "min") (fun vs H Q => rMin X.K vs H Q ∨ ∃ i j, vs = [.int i, .int j] ∧ Q (.int (if j < i then j else i)) H) := call_orB (cr_min hc) (call_min2 hc)
theorem cr_maxA (hc : X.calm = true) : CallR X (.builtin "max") (fun vs H Q => rMax X.K vs H Q ∨ ∃ i j, vs = [.int i, .int j] ∧ Q (.int (if j > i then j else i)) H) := call_orB (cr_max hc) (call_max2 hc)
/-! ### methods of lists as values -/
def mmethL (g : List D → List D → Option D) (mo : MM D) (ma : MM (List D)) : MM D := fun env => match mo env with
  | some (.lst z, e1) => (match ma e1 with
    | some (ds, e2) => (match g z ds with
      | some d => some (d, e2)
      | none => none)
    | none => none)
  | _ => none
/-- the place of the first that is alike -/
def placeV (v : V) : List V → Option Nat
  | [] => none
  | u :: us => if eqV u v then some 0 else (placeV v us).map (· + 1)
def indexM (z : List D) : List D → Option D
  | [d] => (match toV d, toVs z with
    | some v, some vs => (placeV v vs).map fun n => .int (n : Nat)
    | _, _ => none)
  | _ => none
theorem placeV_ok {v : V} : ∀ {vs : List V} {j : Nat}, placeV v vs = some j → (∃ z, vs[j]? = some z ∧ eqV z v = true) ∧ ∀ (m : Nat) (z' : V), m < j → vs[m]? = some z' → eqV z' v = false
  | u :: us, j, h => by
    unfold placeV at h
    split at h
    · rename_i q
      cases h
      exact ⟨⟨u, rfl, q⟩, fun m z' hm => absurd hm (Nat.not_lt_zero _)⟩
    · rename_i q
      obtain ⟨i, h1, rfl⟩ := Option.map_eq_some_iff.mp h
      obtain ⟨⟨z, h2, h3⟩, h4⟩ := placeV_ok h1
      refine ⟨⟨z, by simpa using h2, h3⟩, fun m z' hm hz => ?_⟩
      cases m with
      | zero => cases hz; simpa using q
      | succ m => exact h4 m z' (by omega) (by simpa using hz)
theorem em_index {o a : Expr} {mo : MM D} (ho : EM X cl o mo) (ha : EM X cl a ma)
    (hbase : attributeBase o "index" X.env (eval o X.env) = eval o X.env := by rfl)
    (hfew : ((backTo cpos (starEach [a] X.env)).all (fun x => !x.1) && (backToKw cpos (keywordEach [] X.env)).all (fun x => x.1.isSome)
      && decide (([a] : List Expr).length + ([] : List Keyword).length + (if ([] : List Keyword).isEmpty then 0 else 1) < 30)) = true := by rfl)
    (hline : (apos.endLine == cpos.line) = true := by rfl) (hs : starEach [a] X.env = (false, eval a X.env) :: starEach [] X.env := by rfl) (hplain : (backTo cpos (starEach [] X.env)).any (·.1) = false := by rfl) :
    EM X cl (.Call (.Attribute o "index" apos) [a] [] cpos) (mmethL indexM mo (mcons ma mnil)) := by
  refine (pe_bm PySem.F.plainAttrs_list PySem.F.slot_list_index PySem.F.type_list_index mt_index ho (pa_cons ha pa_nil hs) hbase hfew hline hs hplain).zi fun σ H Q h => ?_
  obtain ⟨F, I, env, ex, d, env', s, hq, k⟩ := h
  unfold mmethL at hq
  split at hq
  · rename_i z e1 h1
    split at hq
    · rename_i ds e2 h2
      split at hq
      · rename_i d' h3
        cases hq
        obtain ⟨b, e3, r, g1, g2, rfl⟩ := mcons_of h2
        cases g2
        refine ⟨F, I, env, ex, .lst z, e1, s, h1, fun v I1 H1 s1 q1 r1 => ?_⟩
        cases r1 with
        | lst hl rl =>
          refine ⟨.inl ⟨rfl, _, .inl (.inl (s1.ih _ _ hl))⟩, F, I1, e1, ex, b, _, s1, g1, fun w I2 H2 s2 q2 r2 => ?_⟩
          simp only [indexM] at h3
          split at h3
          · rename_i v vs hv hvs
            obtain ⟨j, hj, rfl⟩ := Option.map_eq_some_iff.mp h3
            obtain ⟨rfl, f1⟩ := r2.toV hv
            obtain ⟨rfl, f2⟩ := rl.toVs hvs
            obtain ⟨⟨z1, p1, p2⟩, p3⟩ := placeV_ok hj
            exact ⟨_, _, _, j, z1, rfl, rfl, .inl (.inl (s2.ih _ _ (q2 _ _ hl))), f1, f2, p1, p2, p3, k _ I2 H2 s2 (q1.trans q2) (.int _)⟩
          · cases h3
      · cases hq
    · cases hq
  · cases hq
end
end Zf

set_option Elab.async false
set_option linter.all false
/-! Zf, part 11: the words, applied (printed by words.py). -/
namespace Zf
open PySem PySem.Spec L2
theorem z_sseq (a b : SM) (env : En) : sseq a b env = (match a env with
  | some (.nx e1) => b e1
  | o => o) := rfl
theorem z_sset (i : Nat) (m : MM D) (env : En) : sset i m env = (match m env with
  | some (d, e1) => if okS e1 i then some (.nx (e1.set i (.im d))) else none
  | none => none) := rfl
theorem z_sret (m : MM D) (env : En) : sret m env = (match m env with
  | some (d, e1) => some (.rt d e1)
  | none => none) := rfl
theorem z_sif (t : MM Bool) (a b : SM) (env : En) : sif t a b env = (match t env with
  | some (true, e1) => a e1
  | some (false, e1) => b e1
  | none => none) := rfl
theorem z_snx (env : En) : snx  env = (some (.nx env)) := rfl
theorem z_sbk (env : En) : sbk  env = (some (.bk env)) := rfl
theorem z_sct (env : En) : sct  env = (some (.ct env)) := rfl
theorem z_sdrop (m : MM D) (env : En) : sdrop m env = (match m env with
  | some (_, e1) => some (.nx e1)
  | none => none) := rfl
theorem z_sasg (t : Tg) (m : MM D) (env : En) : sasg t m env = (match m env with
  | some (d, e1) => (match mtg t d e1 with
    | some e2 => some (.nx e2)
    | none => none)
  | none => none) := rfl
theorem z_spar (is : List Nat) (m : MM (List Pa)) (env : En) : spar is m env = (match m env with
  | some (as, e1) => (match setsE is as e1 with
    | some e2 => some (.nx e2)
    | none => none)
  | none => none) := rfl
theorem z_sown (i : Nat) (m : MM (List D)) (env : En) : sown i m env = (match m env with
  | some (ds, e1) => if okS e1 i then some (.nx (e1.set i (.mu false (.ml ds)))) else none
  | none => none) := rfl
theorem z_sfor (t : Tg) (mi : MM (List D)) (mb : SM) (env : En) : sfor t mi mb env = (match mi env with
  | some (ds, e1) => forL t mb ds e1
  | none => none) := rfl
theorem z_mop2 (g : D → D → Option D) (ma mb : MM D) (env : En) : mop2 g ma mb env = (match ma env with
  | some (a, e1) => (match mb e1 with
    | some (b, e2) => (match g a b with
      | some d => some (d, e2)
      | none => none)
    | none => none)
  | none => none) := rfl
theorem z_mc (d : D) (env : En) : mc d env = (some (d, env)) := rfl
theorem z_mvar (i : Nat) (env : En) : mvar i env = (match env[i]? with
  | some (.im d) => some (d, env)
  | some (.mu false m) => (match m.out with
    | some d => some (d, env.set i (.im d))
    | none => none)
  | _ => none) := rfl
theorem z_MM_opt {α β : Type} (m : MM α) (f : α → Option β) (env : En) : MM.opt m f env = (match m env with
  | some (a, env') => (match f a with
    | some b => some (b, env')
    | none => none)
  | none => none) := rfl
theorem z_MM_map {α β : Type} (m : MM α) (f : α → β) (env : En) : MM.map m f env = (match m env with
  | some (a, env') => some (f a, env')
  | none => none) := rfl
theorem z_mcons (ma : MM D) (mr : MM (List D)) (env : En) : mcons ma mr env = (match ma env with
  | some (a, e1) => (match mr e1 with
    | some (r, e2) => some (a :: r, e2)
    | none => none)
  | none => none) := rfl
theorem z_mnil (env : En) : mnil  env = (some ([], env)) := rfl
theorem z_pnil (env : En) : pnil  env = (some ([], env)) := rfl
theorem z_pcim (ma : MM D) (mr : MM (List Pa)) (env : En) : pcim ma mr env = (match ma env with
  | some (a, e1) => (match mr e1 with
    | some (r, e2) => some (.im a :: r, e2)
    | none => none)
  | none => none) := rfl
theorem z_pcow (ma : MM (List D)) (mr : MM (List Pa)) (env : En) : pcow ma mr env = (match ma env with
  | some (a, e1) => (match mr e1 with
    | some (r, e2) => some (.ow a :: r, e2)
    | none => none)
  | none => none) := rfl
theorem z_acim (ma : MM D) (mr : MM (List Ar)) (env : En) : acim ma mr env = (match ma env with
  | some (a, e1) => (match mr e1 with
    | some (r, e2) => some (.im a :: r, e2)
    | none => none)
  | none => none) := rfl
theorem z_acsl (i : Nat) (mr : MM (List Ar)) (env : En) : acsl i mr env = (match env[i]? with
  | some (.mu _ _) => (match mr env with
    | some (r, e2) => some (.sl i :: r, e2)
    | none => none)
  | _ => none) := rfl
theorem z_anil (env : En) : anil  env = (some ([], env)) := rfl
theorem z_mif {α : Type} (t : MM Bool) (ma mb : MM α) (env : En) : mif t ma mb env = (match t env with
  | some (true, e1) => ma e1
  | some (false, e1) => mb e1
  | none => none) := rfl
theorem z_mandB (ma mb : MM Bool) (env : En) : mandB ma mb env = (match ma env with
  | some (true, e1) => mb e1
  | some (false, e1) => some (false, e1)
  | none => none) := rfl
theorem z_morB (ma mb : MM Bool) (env : En) : morB ma mb env = (match ma env with
  | some (true, e1) => some (true, e1)
  | some (false, e1) => mb e1
  | none => none) := rfl
theorem z_mnotB (ma : MM Bool) (env : En) : mnotB ma env = (match ma env with
  | some (b, e1) => some (!b, e1)
  | none => none) := rfl
theorem z_mandV (ma mb : MM D) (env : En) : mandV ma mb env = (match ma env with
  | some (.bl true, e1) => mb e1
  | some (.bl false, e1) => some (.bl false, e1)
  | _ => none) := rfl
theorem z_morV (ma mb : MM D) (env : En) : morV ma mb env = (match ma env with
  | some (.bl true, e1) => some (.bl true, e1)
  | some (.bl false, e1) => mb e1
  | _ => none) := rfl
theorem z_mnotV (ma : MM D) (env : En) : mnotV ma env = (match ma env with
  | some (.bl b, e1) => some (.bl (!b), e1)
  | _ => none) := rfl
theorem z_mmeth (g : Str → List D → Option D) (mo : MM D) (ma : MM (List D)) (env : En) : mmeth g mo ma env = (match mo env with
  | some (.str z, e1) => (match ma e1 with
    | some (ds, e2) => (match g z ds with
      | some d => some (d, e2)
      | none => none)
    | none => none)
  | _ => none) := rfl
theorem z_fmeth (g : Str → List D → Option (List D)) (mo : MM D) (ma : MM (List D)) (env : En) : fmeth g mo ma env = (match mo env with
  | some (.str z, e1) => (match ma e1 with
    | some (ds, e2) => (match g z ds with
      | some d => some (d, e2)
      | none => none)
    | none => none)
  | _ => none) := rfl
theorem z_fop2 (g : D → D → Option (List D)) (ma mb : MM D) (env : En) : fop2 g ma mb env = (match ma env with
  | some (a, e1) => (match mb e1 with
    | some (b, e2) => (match g a b with
      | some d => some (d, e2)
      | none => none)
    | none => none)
  | none => none) := rfl
theorem z_mdr (i : Nat) (j : Int) (env : En) : mdr i j env = (match env[i]? with
  | some (.mu _ (.dr s)) => (match s.at j with
    | some n => some (.int n, env)
    | none => none)
  | _ => none) := rfl
theorem z_mdrNe (i : Nat) (j : Int) (env : En) : mdrNe i j env = (match env[i]? with
  | some (.mu _ (.dr s)) => (match s.row j with
    | some ns => some (!ns.isEmpty, env)
    | none => none)
  | _ => none) := rfl
theorem z_mdrLen (i : Nat) (j : Int) (env : En) : mdrLen i j env = (match env[i]? with
  | some (.mu _ (.dr s)) => (match s.row j with
    | some ns => some (.int ns.length, env)
    | none => none)
  | _ => none) := rfl
theorem z_mdrPop (i : Nat) (env : En) : mdrPop i env = (match env[i]? with
  | some (.mu q (.dr ⟨n :: r, c, B, t⟩)) => if r.length ≤ 1000000 then some (.int n, env.set i (.mu q (.dr ⟨r, c, B, t⟩))) else none
  | _ => none) := rfl
theorem z_sdr (i : Nat) (j : Int) (m : MM D) (env : En) : sdr i j m env = (match m env with
  | some (.int n, e1) => (match e1[i]? with
    | some (.mu q (.dr s)) => (match s.put j n with
      | some t => some (.nx (e1.set i (.mu q (.dr t))))
      | none => none)
    | _ => none)
  | _ => none) := rfl
theorem z_mappend (i : Nat) (m : MM D) (env : En) : mappend i m env = (match env[i]? with
  | some (.mu _ (.ml _)) => (match m env with
    | some (d, e1) => (match e1[i]? with
      | some (.mu q (.ml ds)) => if ds.length < 1000000 then some (.non, e1.set i (.mu q (.ml (ds ++ [d])))) else none
      | _ => none)
    | none => none)
  | _ => none) := rfl
theorem z_mextend (i : Nat) (m : MM (List D)) (env : En) : mextend i m env = (match env[i]? with
  | some (.mu _ (.ml _)) => (match m env with
    | some (d, e1) => (match e1[i]? with
      | some (.mu q (.ml ds)) => if ds.length + d.length ≤ 1000000 then some (.non, e1.set i (.mu q (.ml (ds ++ d)))) else none
      | _ => none)
    | none => none)
  | _ => none) := rfl
theorem z_mpopAt (i : Nat) (m : MM D) (env : En) : mpopAt i m env = (match env[i]? with
  | some (.mu _ (.ml _)) => (match m env with
    | some (.int j, e1) => (match e1[i]? with
      | some (.mu q (.ml ds)) => if 0 ≤ j then (match ds[j.toNat]? with
        | some d => if ds.length ≤ 1000000 then some (d, e1.set i (.mu q (.ml (ds.eraseIdx j.toNat)))) else none
        | none => none) else none
      | _ => none)
    | _ => none)
  | _ => none) := rfl
theorem z_mlenO (i : Nat) (env : En) : mlenO i env = (match env[i]? with
  | some (.mu _ (.ml ds)) => some (.int ds.length, env)
  | _ => none) := rfl
theorem z_mnilO (neg : Bool) (i : Nat) (env : En) : mnilO neg i env = (match env[i]? with
  | some (.mu _ (.ml ds)) => (match toPs ds with
    | some ps => if SeqAt.shaped (.list ps) then some (if neg then !ds.isEmpty else ds.isEmpty, env) else none
    | none => none)
  | _ => none) := rfl
theorem z_msl (ma : MM D) (ml mh : MM (Option Int)) (env : En) : msl ma ml mh env = (match ma env with
  | some (d, e1) => (match ml e1 with
    | some (lo, e2) => (match mh e2 with
      | some (hi, e3) => (match slD d lo hi with
        | some r => some (r, e3)
        | none => none)
      | none => none)
    | none => none)
  | none => none) := rfl
theorem z_mcall (F : FM) (dfl : List D) (m : MM (List Ar)) (env : En) : mcall F dfl m env = (match m env with
  | some (as, e1) => if (slots as).Nodup then (match argsE e1 as with
    | some args => (match F (args ++ dfl.map .im) with
      | some (d, news) => some (d, updE e1 as news)
      | none => none)
    | none => none) else none
  | none => none) := rfl
theorem z_saug (i : Nat) (m : MM D) (env : En) : saug i m env = (match env[i]? with
  | some (.im a) => (match m env with
    | some (b, e1) => (match addI a b with
      | some z => if okS e1 i then some (.nx (e1.set i (.im z))) else none
      | none => none)
    | none => none)
  | _ => none) := rfl
theorem z_mmethL (g : List D → List D → Option D) (mo : MM D) (ma : MM (List D)) (env : En) : mmethL g mo ma env = (match mo env with
  | some (.lst z, e1) => (match ma e1 with
    | some (ds, e2) => (match g z ds with
      | some d => some (d, e2)
      | none => none)
    | none => none)
  | _ => none) := rfl
theorem z_sdraws (fA fB : List Int → List Int) (i j : Nat) (env : En) : sdraws fA fB i j env = (match env[j]? with
  | some (.im (.scr ns)) => if okS env i = true ∧ ns.length ≤ 63 then some (.nx (env.set i (.mu false (.dr ⟨fA ns, 0, fB ns, 0⟩)))) else none
  | _ => none) := rfl
theorem z_mtrue (env : En) : mtrue env = some (true, env) := rfl
end Zf

set_option Elab.async false
set_option linter.all false
set_option maxRecDepth 100000
set_option maxHeartbeats 1000000
/-! Zf, part 12: the module's tuples and tables, defaults. -/
namespace Zf
open PySem PySem.Spec L2
theorem all_at {l : List Bool} (h : l.all id = true) (i : Nat) {b : Bool} (hb : l[i]? = some b) : b = true := List.all_eq_true.mp h b (List.mem_of_getElem? hb)
/-! ### tuples -/
def dvD : He.Dv → D
  | .non => .non
  | .bl b => .bl b
  | .int i => .int i
  | .str z => .str z
  | _ => .non
def flatDv : He.Dv → Bool
  | .non => true
  | .bl _ => true
  | .int _ => true
  | .str _ => true
  | _ => false
theorem rep_dv {K : PySem.W.Frag} {cl : Nat → Addr} {I : Hp} {v : He.Dv} (h : flatDv v = true) : Rep K cl I (v.v K) (dvD v) := by
  cases v <;> first | (cases h; done) | skip
  · exact .non
  · exact .bl _
  · exact .int _
  · exact .str _
theorem rep_dvs {K : PySem.W.Frag} {cl : Nat → Addr} {I : Hp} : ∀ {vs : List He.Dv}, vs.all flatDv = true → RepL K cl I (vs.map (He.Dv.v K)) (vs.map dvD)
  | [], _ => .nil
  | v :: vs, h => by
    rw [List.all_cons, Bool.and_eq_true] at h
    exact .cons (rep_dv h.1) (rep_dvs h.2)
theorem rep_tupB {K : PySem.W.Frag} {cl : Nat → Addr} {x : Str} {vs : List He.Dv} (h : He.tupB K x vs = true) (hf : vs.all flatDv = true) (I : Hp) : Rep K cl I (.ref (He.ga K x)) (.tup (vs.map dvD)) := .tup (He.tupB_ok h I) (rep_dvs hf)
theorem glob_ref {o : Option Value} {a : Addr} (h : o = some (.ref a)) : ∃ u, o = some u ∧ RelV (.ref a) u := ⟨_, h, rfl⟩
/-! ### a default that is an empty tuple -/
def emptB (K : PySem.W.Frag) (a : Addr) : Bool := match K.lookup a with
  | some ⟨.type c, _, .seq its _, _⟩ => decide (c = "tuple") && its.toList.isEmpty
  | _ => false
theorem rep_empt {K : PySem.W.Frag} {cl : Nat → Addr} {a : Addr} (h : emptB K a = true) (I : Hp) : Rep K cl I (.ref a) (.tup []) := by
  unfold emptB at h
  cases q : K.lookup a with
  | none => rw [q] at h; cases h
  | some o =>
    obtain ⟨oc, od, dt, osl⟩ := o
    rw [q] at h
    cases oc with
    | type c =>
      cases dt with
      | seq its n =>
        have h2 : (decide (c = "tuple") && its.toList.isEmpty) = true := h
        rw [Bool.and_eq_true] at h2
        have h3 : its.toList = [] := List.isEmpty_iff.mp h2.2
        have h4 : its = #[] := by
          cases its; simp at h3; rw [h3]
        subst h4
        exact .tup (vs := []) (.inr ⟨_, #[], n, q, congrArg Value.type (of_decide_eq_true h2.1), rfl, Nat.zero_le _, .nil⟩) .nil
      | _ => cases h
    | _ => cases dt <;> cases h
/-! ### tables of texts -/
def rowsB (K : PySem.W.Frag) : List DictEntry → List (Str × He.Dv) → Bool
  | [], [] => true
  | e :: es, q :: qs => (match e.key with
    | .str k _ => decide (k = q.1)
    | _ => false) && (He.relB (q.2.v K) e.val && rowsB K es qs)
  | _, _ => false
def tabB (K : PySem.W.Frag) (x : Str) (kvs : List (Str × He.Dv)) : Bool := match K.lookup (He.ga K x) with
  | some ⟨_, _, .dict es _, _⟩ => rowsB K es.toList kvs
  | _ => false
theorem rows_find {K : PySem.W.Frag} (z : Str) : ∀ {es : List DictEntry} {kvs : List (Str × He.Dv)}, rowsB K es kvs = true →
    (kvs.find? (fun q => q.1 == z) = none ∧ es.find? (·.key.isStr z) = none ∧ es.any (·.refKey) = false) ∨ ∃ q e, kvs.find? (fun q => q.1 == z) = some q ∧ es.find? (·.key.isStr z) = some e ∧ RelV (q.2.v K) e.val
  | [], [], _ => .inl ⟨rfl, rfl, rfl⟩
  | [], _ :: _, h => by cases h
  | _ :: _, [], h => by cases h
  | e :: es, q :: qs, h => by
    unfold rowsB at h
    rw [Bool.and_eq_true, Bool.and_eq_true] at h
    obtain ⟨h1, h2, h3⟩ := h
    split at h1
    · rename_i k t hk
      have h1 := of_decide_eq_true h1
      subst h1
      have hs : e.key.isStr z = (q.1 == z) := by rw [hk]; rfl
      have hr : e.refKey = false := by unfold DictEntry.refKey; rw [hk]
      rw [List.find?_cons, List.find?_cons, hs]
      cases c : (q.1 == z) with
      | true => exact .inr ⟨q, e, rfl, rfl, He.relB_ok h2⟩
      | false =>
        rcases rows_find z h3 with ⟨a, b, c⟩ | h
        · exact .inl ⟨a, b, by rw [List.any_cons, hr, c]; rfl⟩
        · exact .inr h
    · cases h1
theorem tab_find {K : PySem.W.Frag} {x : Str} {kvs : List (Str × He.Dv)} (h : tabB K x kvs = true) (z : Str) :
    (kvs.find? (fun q => q.1 == z) = none ∧ PySem.W.nsIn K (He.ga K x) z = some none) ∨ ∃ q u, kvs.find? (fun q => q.1 == z) = some q ∧ PySem.W.nsIn K (He.ga K x) z = some (some u) ∧ RelV (q.2.v K) u := by
  unfold tabB at h
  unfold PySem.W.nsIn
  cases q : K.lookup (He.ga K x) with
  | none => rw [q] at h; cases h
  | some o =>
    obtain ⟨oc, od, dt, osl⟩ := o
    rw [q] at h
    cases dt with
    | dict es n =>
      rcases rows_find z (show rowsB K es.toList kvs = true from h) with ⟨a, b, c⟩ | ⟨r, e, a, b, c⟩
      · refine .inl ⟨a, ?_⟩
        simp only [b, c]; rfl
      · refine .inr ⟨r, e.val, a, ?_, c⟩
        simp only [b]
    | _ => cases h
def inTab (kvs : List (Str × He.Dv)) (neg : Bool) : D → Option D
  | .str z => some (.bl (neg != (kvs.find? (fun q => q.1 == z)).isSome))
  | _ => none
def ixTab (kvs : List (Str × He.Dv)) : D → Option D
  | .str z => (kvs.find? (fun q => q.1 == z)).map fun q => dvD q.2
  | _ => none
section
variable {X : Cx} {cl : Nat → Addr} {e : Expr} {ma : MM D} {x : Str} {pos p : Pos} {kvs : List (Str × He.Dv)}
theorem em_inTab {es : Array DictEntry} {n : Nat} (D0 : KDict X.K X.w (He.ga X.K x) es n) (h : tabB X.K x kvs = true) (hm : X.mg x = some (.ref (He.ga X.K x))) (he : EM X cl e ma) (hg : Gl X x := by rfl) (hd : (x == ("__debug__" : Str)) = false := by decide) :
    EM X cl (.Compare e [.In] [.Name x p] pos) (MM.opt ma (inTab kvs false)) := by
  refine (pe_cmpR (op_in_kd D0) he (pe_glob hg hm (show RelV (.ref (He.ga X.K x)) (.ref (He.ga X.K x)) from rfl) hd) rfl).zi fun σ H Q q => ?_
  obtain ⟨F, I, env, ex, d, env', s, hq, k⟩ := q
  obtain ⟨a, h1, h2⟩ := opt_of hq
  refine ⟨F, I, env, ex, a, env', s, h1, fun v I1 H1 s1 q1 r1 => ?_⟩
  cases r1 <;> try (cases h2; done)
  rename_i z
  cases h2
  rcases tab_find h z with ⟨a, b⟩ | ⟨q, u, a, b, _⟩
  · rw [a] at k
    exact ⟨z, none, rfl, rfl, b, k _ I1 H1 s1 q1 (.bl _)⟩
  · rw [a] at k
    exact ⟨z, some u, rfl, rfl, b, k _ I1 H1 s1 q1 (.bl _)⟩
theorem em_ninTab {es : Array DictEntry} {n : Nat} (D0 : KDict X.K X.w (He.ga X.K x) es n) (h : tabB X.K x kvs = true) (hm : X.mg x = some (.ref (He.ga X.K x))) (he : EM X cl e ma) (hg : Gl X x := by rfl) (hd : (x == ("__debug__" : Str)) = false := by decide) :
    EM X cl (.Compare e [.NotIn] [.Name x p] pos) (MM.opt ma (inTab kvs true)) := by
  refine (pe_cmpR (op_notIn_kd D0) he (pe_glob hg hm (show RelV (.ref (He.ga X.K x)) (.ref (He.ga X.K x)) from rfl) hd) rfl).zi fun σ H Q q => ?_
  obtain ⟨F, I, env, ex, d, env', s, hq, k⟩ := q
  obtain ⟨a, h1, h2⟩ := opt_of hq
  refine ⟨F, I, env, ex, a, env', s, h1, fun v I1 H1 s1 q1 r1 => ?_⟩
  cases r1 <;> try (cases h2; done)
  rename_i z
  cases h2
  rcases tab_find h z with ⟨a, b⟩ | ⟨q, u, a, b, _⟩
  · rw [a] at k
    exact ⟨z, none, rfl, rfl, b, k _ I1 H1 s1 q1 (.bl _)⟩
  · rw [a] at k
    exact ⟨z, some u, rfl, rfl, b, k _ I1 H1 s1 q1 (.bl _)⟩
theorem em_ixTab {es : Array DictEntry} {n : Nat} (D0 : KDict X.K X.w (He.ga X.K x) es n) (h : tabB X.K x kvs = true) (hf : (kvs.map (·.2)).all flatDv = true) (hm : X.mg x = some (.ref (He.ga X.K x))) (he : EM X cl e ma) (hg : Gl X x := by rfl) (hd : (x == ("__debug__" : Str)) = false := by decide) (hs : PlainIx e := by exact fun _ _ => rfl) :
    EM X cl (.Subscript (.Name x p) e pos) (MM.opt ma (ixTab kvs)) := by
  refine (pe_ix ix_kdict (pe_glob hg hm (show RelV (.ref (He.ga X.K x)) (.ref (He.ga X.K x)) from rfl) hd) he hs).zi fun σ H Q q => ?_
  obtain ⟨F, I, env, ex, d, env', s, hq, k⟩ := q
  obtain ⟨a, h1, h2⟩ := opt_of hq
  refine ⟨F, I, env, ex, a, env', s, h1, fun v I1 H1 s1 q1 r1 => ?_⟩
  cases r1 <;> try (cases h2; done)
  rename_i z
  rcases tab_find h z with ⟨a, b⟩ | ⟨q, u, a, b, r⟩
  · simp only [ixTab, a] at h2
    cases h2
  · simp only [ixTab, a] at h2
    cases h2
    have hq2 : flatDv q.2 = true := by
      refine List.all_eq_true.mp hf q.2 (List.mem_map.mpr ⟨q, List.mem_of_find?_eq_some a, rfl⟩)
    refine ⟨_, z, _, rfl, rfl, ⟨es, n, u, D0.at_, D0.lit, b, r⟩, k _ I1 H1 s1 q1 (rep_dv hq2)⟩
theorem eb_inTab {es : Array DictEntry} {n : Nat} (D0 : KDict X.K X.w (He.ga X.K x) es n) (h : tabB X.K x kvs = true) (hm : X.mg x = some (.ref (He.ga X.K x))) (he : EM X cl e ma) (hg : Gl X x := by rfl) (hd : (x == ("__debug__" : Str)) = false := by decide) :
    EB X cl (.Compare e [.In] [.Name x p] pos) (MM.opt (MM.opt ma (inTab kvs false)) blD) := by
  refine eb_of (pt_cmpR (op_in_kd D0) he (pe_glob hg hm (show RelV (.ref (He.ga X.K x)) (.ref (He.ga X.K x)) from rfl) hd) rfl) fun σ H Q q => ?_
  obtain ⟨F, I, env, ex, d, env', s, hq, k⟩ := q
  obtain ⟨a, h1, h2⟩ := opt_of hq
  refine ⟨F, I, env, ex, a, env', s, h1, fun v I1 H1 s1 q1 r1 => ?_⟩
  cases r1 <;> try (cases h2; done)
  rename_i z
  cases h2
  rcases tab_find h z with ⟨a, b⟩ | ⟨q, u, a, b, _⟩
  · rw [a] at k
    exact ⟨z, none, rfl, rfl, b, k _ I1 H1 s1 q1 (.bl _)⟩
  · rw [a] at k
    exact ⟨z, some u, rfl, rfl, b, k _ I1 H1 s1 q1 (.bl _)⟩
theorem eb_ninTab {es : Array DictEntry} {n : Nat} (D0 : KDict X.K X.w (He.ga X.K x) es n) (h : tabB X.K x kvs = true) (hm : X.mg x = some (.ref (He.ga X.K x))) (he : EM X cl e ma) (hg : Gl X x := by rfl) (hd : (x == ("__debug__" : Str)) = false := by decide) :
    EB X cl (.Compare e [.NotIn] [.Name x p] pos) (MM.opt (MM.opt ma (inTab kvs true)) blD) := by
  refine eb_of (pt_cmpR (op_notIn_kd D0) he (pe_glob hg hm (show RelV (.ref (He.ga X.K x)) (.ref (He.ga X.K x)) from rfl) hd) rfl) fun σ H Q q => ?_
  obtain ⟨F, I, env, ex, d, env', s, hq, k⟩ := q
  obtain ⟨a, h1, h2⟩ := opt_of hq
  refine ⟨F, I, env, ex, a, env', s, h1, fun v I1 H1 s1 q1 r1 => ?_⟩
  cases r1 <;> try (cases h2; done)
  rename_i z
  cases h2
  rcases tab_find h z with ⟨a, b⟩ | ⟨q, u, a, b, _⟩
  · rw [a] at k
    exact ⟨z, none, rfl, rfl, b, k _ I1 H1 s1 q1 (.bl _)⟩
  · rw [a] at k
    exact ⟨z, some u, rfl, rfl, b, k _ I1 H1 s1 q1 (.bl _)⟩
end
end Zf

set_option Elab.async false
set_option linter.all false
set_option maxRecDepth 100000
set_option maxHeartbeats 1000000
/-! Zf, part 13: is of truths, pop(), insert, list(range(..)). -/
namespace Zf
open PySem PySem.Spec L2
section
variable {X : Cx} {cl : Nat → Addr} {a b e : Expr} {ma mb : MM D} {x : Str} {pos p apos cpos : Pos}
def isBD : D → D → Option D
  | .bl a, .bl b => some (.bl (decide (a = b)))
  | _, _ => none
def notBD : D → D → Option D
  | .bl a, .bl b => some (.bl (!decide (a = b)))
  | _, _ => none
theorem ok_isB {K : PySem.W.Frag} : OK2 K cl rIsB isBD := fun I H v w d1 d2 d Q e r1 r2 hg k => by
  cases r1 <;> cases r2 <;> try (cases hg; done)
  cases hg
  exact ⟨_, _, rfl, rfl, k _ _ _ (Gr.refl e) (.bl _)⟩
theorem ok_notB {K : PySem.W.Frag} : OK2 K cl rNotB notBD := fun I H v w d1 d2 d Q e r1 r2 hg k => by
  cases r1 <;> cases r2 <;> try (cases hg; done)
  cases hg
  exact ⟨_, _, rfl, rfl, k _ _ _ (Gr.refl e) (.bl _)⟩
/-! own.pop() -/
def mpop0 (i : Nat) : MM D := fun env => match env[i]? with
  | some (.mu q (.ml ds)) => (match ds[ds.length - 1]? with
    | some d => if ds.length ≤ 1000000 then some (d, env.set i (.mu q (.ml ds.dropLast))) else none
    | none => none)
  | _ => none
theorem RepL.dropLast {K : PySem.W.Frag} {I : Hp} {vs : List V} {ds : List D} (r : RepL K cl I vs ds) : RepL K cl I vs.dropLast ds.dropLast := by
  induction vs generalizing ds with
  | nil => cases r; exact .nil
  | cons v vs ih =>
    cases r with
    | cons h r =>
      cases r with
      | nil => exact .nil
      | cons h2 r2 => exact .cons h (ih (.cons h2 r2))
theorem em_pop0 (i : Nat) (hN : X.N[i]? = some x := by rfl) (hv : Vis X.env.scope x := by first | exact Or.inl rfl | exact Or.inr (Or.inl rfl) | exact Or.inr (Or.inr rfl)) (hd : (x == ("__debug__" : Str)) = false := by decide)
    (hcd : (x == ("__classdict__" : Str)) = false := by decide)
    (hbase : attributeBase (.Name x p) "pop" X.env (eval (.Name x p) X.env) = eval (.Name x p) X.env := by rfl) (hline : (apos.endLine == cpos.line) = true := by rfl) :
    EM X cl (.Call (.Attribute (.Name x p) "pop" apos) [] [] cpos) (mpop0 i) := by
  refine (pe_bm0 PySem.F.plainAttrs_list PySem.F.slot_list_pop PySem.F.type_list_pop mt_pop (pe_var hN hv hd hcd) hbase hline).zi fun σ H Q q => ?_
  obtain ⟨F, I, env, ex, d, env', s, hm, k⟩ := q
  unfold mpop0 at hm
  split at hm
  · rename_i q0 ds h0
    split at hm
    · rename_i d2 h3
      split at hm
      · rename_i hlen
        cases hm
        obtain ⟨f, s'⟩ := id s
        obtain ⟨v, hv, ⟨l, vs, rfl, hf, hl, hr⟩, hn⟩ := s'.lookM h0
        refine ⟨_, hv, .inl ⟨rfl, vs, .inl (.inl hl)⟩, ?_⟩
        obtain ⟨u, hu, ru⟩ := hr.get h3
        refine ⟨l, vs, u, rfl, rfl, hl, by rw [hr.length]; exact hu, ?_⟩
        refine k u I _ ⟨f, s'.change h0 (fun a ha => upd_ne fun z => ha (by rw [hf, z]; simp)) fun v hv => ?_⟩ (Ex.refl _) ru
        rw [show σ[i]? = some (some (V.ref l)) from by assumption] at hv
        cases hv
        exact ⟨l, _, rfl, hf, upd_same, hr.dropLast⟩
      · cases hm
    · cases hm
  · cases hm
/-! own.insert(i, e) -/
def minsert (i : Nat) (m1 m2 : MM D) : MM D := fun env => match env[i]? with
  | some (.mu _ (.ml _)) => (match m1 env with
    | some (.int j, e1) => (match m2 e1 with
      | some (d, e2) => (match e2[i]? with
        | some (.mu q (.ml ds)) => if 0 ≤ j ∧ j < 2 ^ 62 ∧ ds.length < 1000000 then some (.non, e2.set i (.mu q (.ml (ds.take j.toNat ++ [d] ++ ds.drop j.toNat)))) else none
        | _ => none)
      | none => none)
    | _ => none)
  | _ => none
theorem em_insert (i : Nat) (ha : EM X cl a ma) (hb : EM X cl b mb) (hN : X.N[i]? = some x := by rfl) (hv : Vis X.env.scope x := by first | exact Or.inl rfl | exact Or.inr (Or.inl rfl) | exact Or.inr (Or.inr rfl)) (hd : (x == ("__debug__" : Str)) = false := by decide)
    (hcd : (x == ("__classdict__" : Str)) = false := by decide)
    (hbase : attributeBase (.Name x p) "insert" X.env (eval (.Name x p) X.env) = eval (.Name x p) X.env := by rfl)
    (hfew : ((backTo cpos (starEach [a, b] X.env)).all (fun x => !x.1) && (backToKw cpos (keywordEach [] X.env)).all (fun x => x.1.isSome)
      && decide ([a, b].length + ([] : List Keyword).length + (if ([] : List Keyword).isEmpty then 0 else 1) < 30)) = true := by rfl)
    (hline : (apos.endLine == cpos.line) = true := by rfl) (hs : starEach [a, b] X.env = (false, eval a X.env) :: starEach [b] X.env := by rfl) (hs2 : starEach [b] X.env = (false, eval b X.env) :: starEach [] X.env := by rfl) (hplain : (backTo cpos (starEach [b] X.env)).any (·.1) = false := by rfl) :
    EM X cl (.Call (.Attribute (.Name x p) "insert" apos) [a, b] [] cpos) (minsert i ma mb) := by
  refine (pe_bm PySem.F.plainAttrs_list PySem.F.slot_list_insert PySem.F.type_list_insert mt_insert (pe_var hN hv hd hcd) (pa_cons ha (pa_cons hb pa_nil hs2) hs) hbase hfew hline hs hplain).zi fun σ H Q q => ?_
  obtain ⟨F, I, env, ex, d, env', s, hm, k⟩ := q
  unfold minsert at hm
  split at hm
  · rename_i p0 ds0 h0
    split at hm
    · rename_i j e1 h1
      split at hm
      · rename_i d2 e2 h2
        split at hm
        · rename_i q0 ds h3
          split at hm
          · rename_i hlen
            cases hm
            obtain ⟨f, s'⟩ := id s
            obtain ⟨v, hv, ⟨l, vs, rfl, hf, hl, hr⟩, hn⟩ := s'.lookM h0
            refine ⟨_, hv, .inl ⟨rfl, vs, .inl (.inl hl)⟩, F, I, env, ex, .int j, e1, s, h1, fun w I1 H1 s1 q1 r1 => ?_⟩
            cases r1
            refine ⟨F, I1, e1, ex, d2, e2, s1, h2, fun w2 I2 H2 s2 q2 r2 => ?_⟩
            obtain ⟨f2, s2⟩ := s2
            obtain ⟨v', hv', ⟨l', vs', e', hf', hl', hr'⟩, hn'⟩ := s2.lookM h3
            rw [hv] at hv'
            cases hv'
            cases e'
            refine ⟨l, vs', j, w2, rfl, rfl, hl', by rw [hr'.length]; exact Nat.lt_of_lt_of_le hlen.2.2 (by decide), hlen.1, by omega, ?_⟩
            refine k .non I2 _ ⟨f2, s2.change h3 (fun a ha => upd_ne fun z => ha (by rw [hf', z]; simp)) fun v hv => ?_⟩ (q1.trans q2) .non
            rw [show σ[i]? = some (some (V.ref l)) from by assumption] at hv
            cases hv
            exact ⟨l, _, rfl, hf', upd_same, ((hr'.take _).append (.cons r2 .nil)).append (hr'.drop _)⟩
          · cases hm
        · cases hm
      · cases hm
    · cases hm
  · cases hm
/-! list(range(a, b)) -/
def rngF : D → D → Option (List D)
  | .int i, .int j => if -(2 ^ 60) ≤ i ∧ i ≤ 2 ^ 60 ∧ -(2 ^ 60) ≤ j ∧ j ≤ 2 ^ 60 ∧ (j - i).toNat ≤ 1000000 then some (rngD i (j - i).toNat) else none
  | _, _ => none
theorem rep_rg {K : PySem.W.Frag} {I : Hp} (i j : Int) : RepL K cl I (rgV i j) (rngD i (j - i).toNat) := by
  unfold rgV rngD
  generalize List.range (j - i).toNat = l
  induction l with
  | nil => exact .nil
  | cons n l ih => exact .cons (.int _) ih
theorem ef_rg2 {p2 pos2 : Pos} (hml : X.mg "list" = none) (hmr : X.mg "range" = none) (ha : EM X cl a ma) (hb : EM X cl b mb) (hc : X.calm = true := by rfl) (hgl : Gl X "list" := by rfl) (hgr : Gl X "range" := by rfl)
    (na : starEach [a, b] X.env = (false, eval a X.env) :: starEach [b] X.env := by rfl) (nb : starEach [b] X.env = (false, eval b X.env) :: starEach [] X.env := by rfl) (hp : (backTo pos2 (starEach [b] X.env)).any (·.1) = false := by rfl)
    (nr : starEach [.Call (.Name "range" p2) [a, b] [] pos2] X.env = (false, eval (.Call (.Name "range" p2) [a, b] [] pos2) X.env) :: starEach [] X.env := by rfl) :
    EF X cl (.Call (.Name "list" p) [.Call (.Name "range" p2) [a, b] [] pos2] [] pos) (fop2 rngF ma mb) := by
  refine (pe_listRg hc hgl hml (prg_2 hgr hmr ha hb na nb hp) nr).zi fun σ H Q h => ?_
  obtain ⟨F, I, env, ex, d, env', s, hm, k⟩ := h
  obtain ⟨x, e1, y, h1, h2, h3⟩ := fop2_of hm
  refine ⟨F, I, env, ex, x, e1, s, h1, fun v I1 H1 s1 q1 r1 => ⟨F, I1, e1, ex, y, env', s1, h2, fun w I2 H2 s2 q2 r2 => ?_⟩⟩
  have r1 := r1.ex q2
  cases r1 <;> cases r2 <;> try (cases h3; done)
  rename_i i j
  simp only [rngF] at h3
  split at h3
  · rename_i hb
    cases h3
    refine ⟨i, j, rfl, rfl, ⟨by omega, by omega, by omega, by omega, by omega⟩, fun p hp => ?_⟩
    exact k p _ I2 _ (s2.lay hp) (q1.trans q2) (rep_rg i j)
  · cases h3
end
theorem z_mpop0 (i : Nat) (env : En) : mpop0 i env = (match env[i]? with
  | some (.mu q (.ml ds)) => (match ds[ds.length - 1]? with
    | some d => if ds.length ≤ 1000000 then some (d, env.set i (.mu q (.ml ds.dropLast))) else none
    | none => none)
  | _ => none) := rfl
theorem blD_b {b : Bool} : blD (.bl b) = some b := rfl
theorem truD_b {b : Bool} : truD (.bl b) = some b := rfl
theorem truD_i {i : Int} : truD (.int i) = some (i != 0) := rfl
theorem truD_l {xs : List D} : truD (.lst xs) = some (!xs.isEmpty) := rfl
theorem truD_t {xs : List D} : truD (.tup xs) = some (!xs.isEmpty) := rfl
theorem intL_i {i : Int} : intL [.int i] = some (.int i) := rfl
theorem intL_b {b : Bool} : intL [.bl b] = some (.int (if b then 1 else 0)) := rfl
theorem seqD_l {xs : List D} : seqD (.lst xs) = some xs := rfl
theorem seqD_t {xs : List D} : seqD (.tup xs) = some xs := rfl
theorem seqD_s {z : Str} : seqD (.str z) = some (signsD z) := rfl
theorem seqD_c {ns : List Int} : seqD (.scr ns) = some (ns.map .int) := rfl
theorem negD_i {i : Int} : negD (.int i) = some (.int (-i)) := rfl
theorem intD_i {i : Int} : intD (.int i) = some (some i) := rfl
theorem out_l {ds : List D} : Mu.out (.ml ds) = some (.lst ds) := rfl
theorem out_d {ds : List (Key × D)} : Mu.out (.md ds) = some (.dct ds) := rfl
end Zf

set_option Elab.async false
set_option linter.all false
set_option maxRecDepth 100000
set_option maxHeartbeats 1000000
/-! Zf, part 14: x in (.., ..) of data of any depth. -/
namespace Zf
open PySem PySem.Spec L2 PyProof.Rows
section
variable {X : Cx} {cl : Nat → Addr}
def rInT (K : PySem.W.Frag) : R2 := fun x y H Q => ∃ d ds, Dp K H x d ∧ Dp K H y (.tuple ds) ∧ SeqAt.shaped d = true ∧ SeqAt.shaped (.tuple ds) = true ∧ Q (.bl (ds.any fun z => PyData.eqv z d)) H
theorem op_inT {k : Nat} (hr : Room k X.A) : OpR X (compareOp .In) (rInT X.K) := by
  have hu : X.A.units + 65 < cLine := by have := hr.un; omega
  intro pins s σ H x y v u Q I rx ry h
  obtain ⟨d, ds, hd, he, sd, se, q⟩ := h
  obtain ⟨as, r1⟩ := Dp.reads I d x v hd rx
  obtain ⟨bs, r2⟩ := Dp.reads I (.tuple ds) y u he ry
  exact SeqAt.in_tuple_reads r2 r1 (SeqAt.canLay_of_shaped se) (SeqAt.canLay_of_shaped sd) (room_in_shaped sd hu) ⟨.bl _, H, I, rfl, q⟩
def inTD (a b : D) : Option D := match toP a, toP b with
  | some p, some (.tuple qs) => if (SeqAt.shaped p && SeqAt.shaped (.tuple qs)) = true then some (.bl (qs.any fun z => PyData.eqv z p)) else none
  | _, _ => none
theorem ok_inT {K : PySem.W.Frag} : OK2 K cl (rInT K) inTD := fun I H v w d1 d2 d Q e r1 r2 hg k => by
  unfold inTD at hg
  split at hg
  · rename_i p qs h1 h2
    split at hg
    · rename_i h3
      cases hg
      rw [Bool.and_eq_true] at h3
      exact ⟨p, qs, r1.dp e h1, r2.dp e h2, h3.1, h3.2, k _ _ _ (Gr.refl e) (.bl _)⟩
    · cases hg
  · cases hg
end
end Zf

set_option Elab.async false
set_option linter.all false
set_option maxRecDepth 100000
set_option maxHeartbeats 1000000
/-! Zf, part 15: xs[::-1]; isinstance of one of some kinds. -/
namespace Zf
open PySem PySem.Spec L2 PyProof.Rows
section
variable {X : Cx} {cl : Nat → Addr} {e : Expr} {ma : MM D} {p pos : Pos}
def revL : List D → Option (List D)
  | [.lst xs] => some xs.reverse
  | _ => none
theorem RepL.reverse {K : PySem.W.Frag} {I : Hp} {vs : List V} {ds : List D} (r : RepL K cl I vs ds) : RepL K cl I vs.reverse ds.reverse := by
  induction vs generalizing ds with
  | nil => cases r; exact .nil
  | cons v vs ih =>
    cases r with
    | cons h r =>
      rw [List.reverse_cons, List.reverse_cons]
      exact (ih r).append (.cons h .nil)
theorem ef_rev {k : Nat} {p1 p2 p3 : Pos} (he : EM X cl e ma) : EF X cl (.Subscript e (.Slice none none (some (.UnaryOp .USub (.Constant (.int 1) k p1) p2)) p3) pos) (MM.opt (mcons ma mnil) revL) := by
  refine (pe_revL he).zi fun σ H Q h => ?_
  obtain ⟨F, I, env, ex, d, env', s, hm, kk⟩ := h
  obtain ⟨ds, h1, h2⟩ := opt_of hm
  obtain ⟨a, e1, b, h3, h4, rfl⟩ := mcons_of h1
  cases h4
  refine ⟨F, I, env, ex, a, env', s, h3, fun v I1 H1 s1 q1 r1 => ?_⟩
  unfold revL at h2
  split at h2
  · rename_i xs hx
    cases h2
    cases hx
    cases r1 with
    | lst hs r => exact ⟨_, _, rfl, rl hs s1.ih, fun p hp => kk p _ I1 _ (s1.lay hp) q1 r.reverse⟩
  · cases h2
end
end Zf

set_option Elab.async false
set_option linter.all false
set_option maxRecDepth 100000
set_option maxHeartbeats 1000000
/-! Zf, part 16: instances of the program's own classes: made, their attributes, isinstance. -/
namespace Zf
open PySem PySem.Spec L2 PyProof.Rows
section
variable {X : Cx} {cl : Nat → Addr} {e a b : Expr} {ma : MM D} {p pos : Pos} {x : Str}
/-! ### attributes -/
def lkD (f : Str) (fs : List (Str × D)) : Option D := fs.lookup f
def attrD (cs : List Nat) (f : Str) : D → Option D
  | .obj c fs => if c ∈ cs then lkD f fs else none
  | _ => none
theorem RepF.look {K : PySem.W.Frag} {I : Hp} {f : Str} {d : D} : ∀ {vs : List (Str × V)} {ds : List (Str × D)}, RepF K cl I vs ds → ds.lookup f = some d → ∃ v, vs.lookup f = some v ∧ Rep K cl I v d
  | _, _, .nil, h => by cases h
  | _, _, .cons (k := k) (v := v) (d := d') (vs := vs) (ds := ds) r rs, h => by
    rw [List.lookup_cons] at h ⊢
    cases q : f == k with
    | true => rw [q] at h; cases h; exact ⟨v, rfl, r⟩
    | false => rw [q] at h; exact RepF.look rs h
theorem em_attr (cs : List Nat) (f : Str) (hc : ∀ c ∈ cs, Cls X.K (cl c) ∧ NoAttr X.K (cl c) f) (he : EM X cl e ma) (hb : attributeBase e f X.env (eval e X.env) = eval e X.env := by rfl) : EM X cl (.Attribute e f pos) (MM.opt ma (attrD cs f)) := by
  refine (pe_fld he hb).zi fun σ H Q h => ?_
  obtain ⟨F, I, env, ex, d, env', s, hm, k⟩ := h
  obtain ⟨a, h1, h2⟩ := opt_of hm
  refine ⟨F, I, env, ex, a, env', s, h1, fun v I1 H1 s1 q1 r1 => ?_⟩
  unfold attrD at h2
  split at h2
  · rename_i c fs
    split at h2
    · rename_i hcm
      cases r1 with
      | obj h3 r =>
        obtain ⟨u, hu, ru⟩ := RepF.look r h2
        obtain ⟨c1, c2⟩ := hc c hcm
        exact ⟨_, _, _, _, u, rfl, s1.ih _ _ h3, c1, c2, hu, k u I1 H1 s1 q1 ru⟩
    · cases h2
  · cases h2
/-- an attribute of the object that is being made -/
def mattrO (i c : Nat) (f : Str) : MM D := fun env => match env[i]? with
  | some (.mu _ (.ob c' fs)) => if c' = c then (lkD f fs).map fun d => (d, env) else none
  | _ => none
theorem em_attrO (i c : Nat) (f : Str) {np : Pos} (hc : Cls X.K (cl c) ∧ NoAttr X.K (cl c) f) (hN : X.N[i]? = some x := by rfl) (hv : Vis X.env.scope x := by first | exact Or.inl rfl | exact Or.inr (Or.inl rfl) | exact Or.inr (Or.inr rfl)) (hd : (x == ("__debug__" : Str)) = false := by decide)
    (hcd : (x == ("__classdict__" : Str)) = false := by decide) (hb : attributeBase (.Name x np) f X.env (eval (.Name x np) X.env) = eval (.Name x np) X.env := by rfl) : EM X cl (.Attribute (.Name x np) f pos) (mattrO i c f) := by
  refine (pe_fld (pe_var hN hv hd hcd) hb).zi fun σ H Q h => ?_
  obtain ⟨F, I, env, ex, d, env', s, hm, k⟩ := h
  unfold mattrO at hm
  split at hm
  · rename_i q c' fs h0
    split at hm
    · rename_i hcc
      obtain ⟨d', h1, h2⟩ := Option.map_eq_some_iff.mp hm
      cases h2
      subst hcc
      obtain ⟨f0, s'⟩ := id s
      obtain ⟨v, hv, ⟨l, dx, vs, rfl, hf, hl, hr⟩, hn⟩ := s'.lookM h0
      obtain ⟨u, hu, ru⟩ := RepF.look hr h1
      exact ⟨_, hv, _, _, _, _, u, rfl, hl, hc.1, hc.2, hu, k u I H s (Ex.refl _) ru⟩
    · cases hm
  · cases hm
/-! ### self.f = e -/
def putD (f : Str) (d : D) : List (Str × D) → List (Str × D)
  | [] => [(f, d)]
  | (g, x) :: r => if g = f then (g, d) :: r else (g, x) :: putD f d r
theorem RepF.put {K : PySem.W.Frag} {I : Hp} {f : Str} {v : V} {d : D} (r : Rep K cl I v d) : ∀ {vs : List (Str × V)} {ds : List (Str × D)}, RepF K cl I vs ds → RepF K cl I (putF f v vs) (putD f d ds)
  | _, _, .nil => .cons r .nil
  | _, _, .cons (k := k) (v := v') (d := d') (vs := vs) (ds := ds) h rs => by
    show RepF K cl I (if k = f then (k, v) :: vs else (k, v') :: putF f v vs) (if k = f then (k, d) :: ds else (k, d') :: putD f d ds)
    by_cases q : k = f
    · rw [if_pos q, if_pos q]; exact .cons r rs
    · rw [if_neg q, if_neg q]; exact .cons h (RepF.put r rs)
theorem RepF.length {K : PySem.W.Frag} {I : Hp} : ∀ {vs : List (Str × V)} {ds : List (Str × D)}, RepF K cl I vs ds → vs.length = ds.length
  | _, _, .nil => rfl
  | _, _, .cons _ rs => by simp [RepF.length rs]
def sattr (i c : Nat) (f : Str) (m : MM D) : SM := fun env => match m env with
  | some (d, e1) => (match e1[i]? with
    | some (.mu q (.ob c' fs)) => if c' = c ∧ fs.length < 900 then some (.nx (e1.set i (.mu q (.ob c' (putD f d fs))))) else none
    | _ => none)
  | none => none
theorem es_attr (i c : Nat) {f : Str} {np pos' : Pos} {mv : MM D} (hc : Cls X.K (cl c) ∧ NoAttr X.K (cl c) f) (hv : EM X cl e mv) (hN : X.N[i]? = some x := by rfl) (hvs : Vis X.env.scope x := by first | exact Or.inl rfl | exact Or.inr (Or.inl rfl) | exact Or.inr (Or.inr rfl)) (hd : (x == ("__debug__" : Str)) = false := by decide)
    (hcd : (x == ("__classdict__" : Str)) = false := by decide) (hs : swapsWith e (some (.Attribute (.Name x np) f pos')) pos.line X.env = pure false := by rfl) : ES X cl (.Assign [.Attribute (.Name x np) f pos'] e pos) (sattr i c f mv) := by
  refine (ps_fld (pe_var hN hvs hd hcd) hv hs).zi fun Dn σ H q => ?_
  obtain ⟨F, I, env, ex, out, s, hm, k⟩ := q
  unfold sattr at hm
  split at hm
  · rename_i d e1 h1
    split at hm
    · rename_i q0 c' fs h2
      split at hm
      · rename_i hcc
        cases hm
        refine ⟨F, I, env, ex, d, e1, s, h1, fun w I1 H1 s1 q1 r1 => ?_⟩
        obtain ⟨f1, s1'⟩ := id s1
        obtain ⟨v, hv, ⟨l, dx, vs, rfl, hf, hl, hr⟩, hn⟩ := s1'.lookM h2
        obtain ⟨rfl, hlen⟩ := hcc
        refine ⟨_, hv, _, _, dx, vs, rfl, hl, hc.1, hc.2, by rw [RepF.length hr]; omega, ?_⟩
        refine k σ I1 _ ⟨f1, s1'.change h2 (fun a ha => upd_ne fun z => ha (by rw [hf, z]; simp)) fun v hv' => ?_⟩ q1
        rw [hv] at hv'
        cases hv'
        exact ⟨l, dx, _, rfl, hf, upd_same, RepF.put r1 hr⟩
      · cases hm
    · cases hm
  · cases hm
/-! ### keywords -/
theorem _root_.L2.PK.zi {kws : List Keyword} {t t' : TA} (h : PK X kws t) (hi : ∀ σ H Q, t' σ H Q → t σ H Q) : PK X kws t' := ⟨fun pos pins s σ H Q I hw => h.run pos pins s σ H Q I (hi σ H Q hw)⟩
abbrev EK (X : Cx) (cl : Nat → Addr) (kws : List Keyword) (m : MM (List D)) : Prop := PK X kws (tL X.K cl m)
theorem ek_nil : EK X cl [] mnil := pk_nil.zi fun σ H Q h => by
  obtain ⟨F, I, env, ex, as, env', s, hm, k⟩ := h
  cases hm
  exact k [] I H s (Ex.refl _) .nil
theorem ek_cons {nm : Option Str} {kpos : Pos} {kws : List Keyword} {mr : MM (List D)} (ha : EM X cl e ma) (hr : EK X cl kws mr) : EK X cl (⟨nm, e, kpos⟩ :: kws) (mcons ma mr) := (pk_cons ha hr).zi fun σ H Q h => by
  obtain ⟨F, I, env, ex, as, env', s, hm, k⟩ := h
  obtain ⟨d, e1, r, h1, h2, rfl⟩ := mcons_of hm
  exact ⟨F, I, env, ex, d, e1, s, h1, fun v I1 H1 s1 q1 r1 => ⟨F, I1, e1, ex, r, env', s1, h2, fun vs I2 H2 s2 q2 r2 => k (v :: vs) I2 H2 s2 (q1.trans q2) (.cons (r1.ex q2) r2)⟩⟩
/-! ### C(e, .., k = v, ..) -/
/-- an object is made: np values, nk keywords; arr puts them as the parameters stand -/
def mmake (c np nk : Nat) (arr : List D → List D → List D) (F : FM) (ma mk : MM (List D)) : MM D := fun env => match ma env with
  | some (ds, e1) => (match mk e1 with
    | some (zs, e2) => if ds.length = np ∧ zs.length = nk then (match F (.mu true (.ob c []) :: (arr ds zs).map .im) with
      | some (.non, .mu true (.ob c' fs) :: _) => some (.obj c' fs, e2)
      | _ => none) else none
    | none => none)
  | none => none
/-- a class whose objects may be made with np values and the keywords ks -/
def Mkc (P : Program) (w : World) (K : PySem.W.Frag) (mg : Str → Option Value) (base : Heap) (cl : Nat → Addr) (x : Str) (k n c np : Nat) (ks : List Str) (arr : List D → List D → List D) (F : FM) : Prop :=
  ∃ (f : Addr) (fd : FuncData) (ps : List Str) (g : List Value → List Value → List Value) (gV : List V → List V → List V), Mk K (cl c) f ∧ FnOk P w K mg base CX0 k f fd ps (spM K cl n F) ∧ mg x = some (.ref (cl c)) ∧ KBn K fd ps (np + 1) ks g gV ∧
    ∀ (I : Hp) (u : V) (vs zs : List V) (ds es : List D), RepL K cl I vs ds → RepL K cl I zs es → ds.length = np → es.length = ks.length → ∃ ws, gV (u :: vs) zs = u :: ws ∧ RepL K cl I ws (arr ds es) ∧ ws.length + 1 = n
theorem em_make {es : List Expr} {kws : List Keyword} {k n c np : Nat} {ks : List Str} {arr : List D → List D → List D} {Fi : FM} {ma mk : MM (List D)} (M : Mkc X.prog X.w X.K X.mg X.base cl x k n c np ks arr Fi) (hr : Room (k + 1) X.A) (ha : EA X cl (e :: es) ma) (hkw : EK X cl kws mk) (hg : Gl X x := by rfl)
    (hall : (backToKw pos (keywordEach kws X.env)).all (·.1.isSome) = true := by rfl) (hks : (backToKw pos (keywordEach kws X.env)).filterMap (·.1) = ks := by rfl)
    (hdb : (x == ("__debug__" : Str)) = false := by decide) (he : starEach (e :: es) X.env = (false, eval e X.env) :: starEach es X.env := by rfl)
    (hpl : ((backTo pos (starEach (e :: es) X.env)).any (·.1) || (backToKw pos (keywordEach kws X.env)).any (·.1.isNone)) = false := by rfl) :
    EM X cl (.Call (.Name x p) (e :: es) kws pos) (mmake c np ks.length arr Fi ma mk) := by
  obtain ⟨f, fd, ps, g, gV, hM, hF, hm, hb, hgv⟩ := M
  refine (pe_makeN hM hF hr hg hm hb pass0 ha hkw hall hks hdb he hpl).zi fun σ H Q h => ?_
  obtain ⟨F, I, env, ex, d, env', s, hq, k⟩ := h
  unfold mmake at hq
  split at hq
  · rename_i ds e1 h1
    split at hq
    · rename_i zs e2 h2
      split at hq
      · rename_i hlen
        split at hq
        · rename_i c' fs rest hFi
          cases hq
          refine ⟨F, I, env, ex, ds, e1, s, h1, fun vs I1 H1 s1 q1 r1 => ⟨F, I1, e1, ex, zs, env', s1, h2, fun ws I2 H2 s2 q2 r2 => ⟨by rw [r1.length]; exact hlen.1, by rw [r2.length]; exact hlen.2, fun y dx ny ndx ne => ?_⟩⟩⟩
          obtain ⟨us, hus, hru, hlu⟩ := hgv I2 (.ref y) vs ws ds zs (r1.ex q2) r2 hlen.1 hlen.2
          rw [hus]
          have iy : I2 y = none := s2.ih.none ny
          have nyd : y ≠ dx := Ne.symm ne
          have hy0 : upd H2 dx (.own y) y = none := by rw [upd_ne nyd]; exact ny
          have sub : Ex H2 (upd (upd H2 dx (.own y)) y (.ins (cl c) dx [])) := (Ex.new ndx).trans (Ex.new hy0)
          have noMu : ∀ (i : Nat) (q : Bool) (m : Mu), ((.mu true (.ob c []) :: (arr ds zs).map Sl.im : En))[i]? = some (Sl.mu q m) → i = 0 ∧ q = true ∧ m = .ob c [] := fun i q m hi => by
            cases i with
            | zero => cases hi; exact ⟨rfl, rfl, rfl⟩
            | succ i =>
              have hi : ((arr ds zs).map Sl.im)[i]? = some (Sl.mu q m) := hi
              rw [List.getElem?_map] at hi
              cases z : (arr ds zs)[i]? with
              | none => rw [z] at hi; cases hi
              | some d => rw [z] at hi; cases hi
          refine ⟨I2, .mu true (.ob c []) :: (arr ds zs).map .im, fun i => if i = 0 then [y] else [], .non, _, by rw [List.length_cons]; exact hlu, by rw [List.length_cons, List.length_map, ← hru.length]; exact hlu, ⟨fun i d hi => ?_, fun i q m hi => ?_, fun i j q m q' m' a hij hi hj => ?_⟩, fun i q m hi => (noMu i q m hi).2.1, s2.ih.trans sub, fun i hi => ?_, hFi, fun v I' H' x1 x2 x3 x4 x5 x6 => ?_⟩
          · cases i with
            | zero => cases hi
            | succ i =>
              have hi : ((arr ds zs).map Sl.im)[i]? = some (Sl.im d) := hi
              rw [List.getElem?_map] at hi
              cases z : (arr ds zs)[i]? with
              | none => rw [z] at hi; cases hi
              | some d' =>
                rw [z] at hi
                cases hi
                obtain ⟨u, hu, ru⟩ := hru.get z
                exact ⟨u, hu, ru⟩
          · obtain ⟨rfl, rfl, rfl⟩ := noMu i q m hi
            refine ⟨⟨.ref y, rfl, y, dx, [], rfl, rfl, upd_same, .nil⟩, fun a ha => ?_⟩
            have : a = y := by simpa using ha
            rw [this]; exact iy
          · exact absurd ((noMu i q m hi).1.trans (noMu j q' m' hj).1.symm) hij
          · cases i with
            | zero => cases hi
            | succ i =>
              have hi : ((arr ds zs).map Sl.im)[i]? = some Sl.no := hi
              rw [List.getElem?_map] at hi
              cases z : (arr ds zs)[i]? with
              | none => rw [z] at hi; cases hi
              | some d' => rw [z] at hi; cases hi
          · cases x6
            refine ⟨rfl, ?_⟩
            obtain ⟨m', u, n1, n2, n3⟩ := x5 0 true (.ob c []) rfl
            cases n1
            cases n2
            obtain ⟨l, dx', vs', ey, ef, hl, hr'⟩ := n3
            cases ey
            have i'y : I' y = none := x3 y (by rw [upd_same]; simp) iy
            have gr : Gr I2 H2 (upd I' y (.ins (cl c') dx' vs')) H' := by
              refine ⟨x1.trans (Ex.new i'y), fun a o ha => ?_, fun a o ha => ?_, fun a h3 h4 => ?_⟩
              · have hay : a ≠ y := fun z => by rw [z, ny] at ha; cases ha
                refine x4 a o (sub a o ha) fun i q m hi hm => ?_
                obtain ⟨rfl, _, _⟩ := noMu i q m hi
                exact hay (by simpa using hm)
              · by_cases q : a = y
                · rw [q, upd_same] at ha
                  cases ha
                  rw [q]; exact hl
                · rw [upd_ne q] at ha
                  exact x2 a o ha
              · have hay : a ≠ y := fun z => h3 (z ▸ ny)
                have had : a ≠ dx := fun z => h3 (z ▸ ndx)
                rw [upd_ne hay]
                exact x3 a (by rw [upd_ne hay, upd_ne had]; exact h3) h4
            exact k (.ref y) _ H' (s2.gr gr) (q1.trans (q2.trans gr.i)) (.obj upd_same (RepF.ex (Ex.new i'y) hr'))
        · cases hq
      · cases hq
    · cases hq
  · cases hq
/-! ### isinstance of an own class -/
/-- what isinstance asks of the classes: the i-th of cs is no other one -/
def isiB (K : PySem.W.Frag) (cl : Nat → Addr) (c : Nat) (cs : List Nat) : Bool := kinds7.all (fun t => decide (PySem.W.kitOne K (.type t) (.ref (cl c)) = some false)) && cs.all fun c' => decide (PySem.W.kitOne K (.ref (cl c')) (.ref (cl c)) = some (decide (c' = c))) &&
  (He.eqO (PySem.W.findIn K (.ref (cl c')) "__class__") (some (some (.builtin "object.__class__"))) && (He.eqO (PySem.W.specialIn K (.builtin "object.__class__") "__get__") (some (some (.builtin "getset_descriptor.__get__"))) && (decide (PySem.W.takesIn K (.builtin "object.__class__") = some true) && decide (PySem.W.mroIn K (cl c') (.type "object") = some true))))
def isiC (c : Nat) (cs : List Nat) : D → Option D
  | .obj c' _ => if c' ∈ cs then some (.bl (decide (c' = c))) else none
  | d => (typeN d).map fun _ => .bl false
theorem em_isiC (c : Nat) (cs : List Nat) {n : Str} {p2 : Pos} (hm : X.mg "isinstance" = none) (hmC : X.mg n = some (.ref (cl c))) (hB : isiB X.K cl c cs = true) (hcl : ∀ c' ∈ cs, Cls X.K (cl c')) (he : EM X cl e ma)
    (hg : Gl X "isinstance" := by rfl) (hgT : Gl X n := by rfl) (hdT : (n == ("__debug__" : Str)) = false := by decide)
    (hs1 : starEach [e, .Name n p2] X.env = (false, eval e X.env) :: starEach [.Name n p2] X.env := by rfl) (hs2 : starEach [.Name n p2] X.env = (false, eval (.Name n p2) X.env) :: starEach [] X.env := by rfl)
    (hpl : (backTo pos (starEach [.Name n p2] X.env)).any (·.1) = false := by rfl) :
    EM X cl (.Call (.Name "isinstance" p) [e, .Name n p2] [] pos) (MM.opt ma (isiC c cs)) := by
  unfold isiB at hB
  rw [Bool.and_eq_true, List.all_eq_true, List.all_eq_true] at hB
  obtain ⟨hB1, hB2⟩ := hB
  refine (pe_callB call_isi hg hm PyProof.Rows.boot_isinstance (pa_cons he (pa_cons (pe_glob hgT hmC (show RelV (.ref (cl c)) (.ref (cl c)) from rfl) hdT) pa_nil hs2) hs1) (by decide) (by decide) hs1 hpl).zi fun σ H Q q => ?_
  obtain ⟨F, I, env, ex, d, env', s, hq, k⟩ := q
  obtain ⟨a, h1, h2⟩ := opt_of hq
  refine ⟨F, I, env, ex, a, env', s, h1, fun v I1 H1 s1 q1 r1 => ?_⟩
  unfold isiC at h2
  split at h2
  · rename_i c' fs
    split at h2
    · rename_i hcm
      cases h2
      have hb := hB2 c' hcm
      rw [Bool.and_eq_true, decide_eq_true_eq] at hb
      obtain ⟨k1, k2⟩ := hb
      rw [Bool.and_eq_true, Bool.and_eq_true, Bool.and_eq_true, decide_eq_true_eq, decide_eq_true_eq] at k2
      cases r1 with
      | obj h3 r =>
        exact ⟨_, .ref (cl c), .ref (cl c'), .ref (cl c), decide (c' = c), rfl, .own _, .base (.ins (s1.ih _ _ h3) (hcl c' hcm) (He.eqO_ok k2.1) (He.eqO_ok k2.2.1) k2.2.2.1 k2.2.2.2), k1, k _ I1 H1 s1 q1 (.bl _)⟩
    · cases h2
  · obtain ⟨t, ht, rfl⟩ := Option.map_eq_some_iff.mp h2
    exact ⟨v, .ref (cl c), .type t, .ref (cl c), false, rfl, .own _, r1.tyX s1.ih ht, of_decide_eq_true (hB1 t (typeN_in ht)), k _ I1 H1 s1 q1 (.bl _)⟩
end
end Zf

set_option Elab.async false
set_option linter.all false
set_option maxRecDepth 100000
set_option maxHeartbeats 1000000
/-! Zf, part 17: an own object != a text, by its class's own __eq__. -/
namespace PySem
namespace W
open PySem PySem.Calls PyProof.Rows Builtin
section
variable {prog : Program} {w : World} {A A₀ : Around} {E : Value → Shared → Prop} {s : Shared} {K : Frag} {x C L f : Addr} {h₀ : Heap} {m : Str → Option Value} {ox : Obj} {od : Option Obj} {name : Str} {b tb : Value}
theorem ifBound_B {M : Model} {id : String} {args : List Value} {Q : Option Value → Shared → Prop} (X : K.In s.heap) (I : InstAt s.heap x ox C od) (hs : findIn K (.ref C) name = some (some (.builtin id))) (hb : ∀ self, bindSpecial (.builtin id) self = pure (.builtin id, [self]))
    (h : wpAny M A (call (.builtin id) (.ref x :: args)) (fun v => Q (some v)) E s) : wpAny M A (callSpecialIfBound? (.ref x) name args) Q E s := by
  simp only [callSpecialIfBound?, bindSpecialIfBound?]
  refine wpAny_holding (wpAny_bind (wpAny_bind (wpAny_bind (I.type.here ((looks_findIn X hs).here ?_)))))
  refine wpAny_bind (wpAny_askSetting (wpAny_ite ?_))
  have fin : wpAny M A (call (.builtin id) ([.ref x] ++ args) >>= fun v => pure (some v)) Q E s := wpAny_bind (wpAny_mono h (fun v s' h' => wpAny_pure h') fun _ _ h' => h')
  simp only [hb]
  split
  · exact wpAny_bind (wpAny_pure (wpAny_pure (by exact fin)))
  · exact wpAny_tryCatch (wpAny_bind (wpAny_pure (wpAny_pure (by exact fin))))
theorem objNe_K {Q : Value → Shared → Prop} (hu : A.units + 1 < cLine) (X : K.In s.heap) (I : InstAt s.heap x ox C od) (hob : mroIn K C (.type "object") = some true)
    (hs : findIn K (.ref C) "__eq__" = some (some (.ref f))) (hf : isFn K (.ref f) = true)
    (h : wpAny (model prog w) A.in1 (call (.ref f) [.ref x, b]) (fun v s' => ∃ r, v = .bool r ∧ Q (.bool (!r)) s') E s) : wpAny (model prog w) A (call (.builtin "object.__ne__") [.ref x, b]) Q E s := by
  refine wpAny_call (codeAny_call_builtin PySem.F.cmp_object.ne.plain PySem.F.cmpEntry_ne (check_slot PySem.F.cmpKind_ne PySem.F.cmpSplit_ne (I.type.andThen (looks_mroIn X hob)) (PySem.F.cmpArgs_ne _ _) ?_))
  unfold Builtin.«object.__ne__»
  repeat (first
    | with_reducible refine wpAny_cRoomFor (A := A.in1) (by exact hu) ?_
    | (refine wpAny_bind (m := callSpecialIfBound? (.ref x) (Str.ofString "__eq__") [b])
        (ifBound_K X I hs hf (wpAny_mono h (fun r s' hr => by
          obtain ⟨c, rfl, hq⟩ := hr
          repeat (first | exact hq | exact wpAny_pure hq | exact wpAny_truthy_bool hq | (refine wpAny_bind (m := truthy (.bool _)) (wpAny_truthy_bool ?_)) | wp_step)) fun _ _ e => e)))
    | wp_step)
theorem neOwn_K {Q : Value → Shared → Prop} (hu : A.units + 1 < cLine) (X : K.In s.heap) (I : InstAt s.heap x ox C od) (hb : Looks (model prog w) s.heap (typeOf b) tb) (hn : notFirst K C tb = true) (hob : mroIn K C (.type "object") = some true)
    (hne : findIn K (.ref C) "__ne__" = some (some (.builtin "object.__ne__"))) (hs : findIn K (.ref C) "__eq__" = some (some (.ref f))) (hf : isFn K (.ref f) = true)
    (h : wpAny (model prog w) A.in1 (call (.ref f) [.ref x, b]) (fun v s' => ∃ r, v = .bool r ∧ Q (.bool (!r)) s') E s) : wpAny (model prog w) A (richCompare .NotEq (.ref x) b) Q E s := by
  have one : wpAny (model prog w) A (tryCompare (.ref x) "__ne__" b) (fun r s' => ∃ v, r = some v ∧ Q v s') E s := by
    unfold tryCompare
    refine wpAny_bind (ifBound_B X I hne PySem.F.cmp_object.ne.bind (objNe_K hu X I hob hs hf (wpAny_mono h (fun v s' hv => ?_) fun _ _ e => e)))
    obtain ⟨r, rfl, hq⟩ := hv
    exact ⟨r, rfl, wpAny_pure ⟨_, rfl, hq⟩⟩
  unfold richCompare
  simp only [oneThing_ref]
  refine wpAny_holding (wpAny_bind (wpAny_cRoomFor (Nat.lt_of_succ_lt hu) ?_))
  rw [cmpInfo_NotEq]
  dsimp only
  refine wpAny_bind (I.type.here (wpAny_bind (hb.here ?_)))
  split
  · rename_i q
    have e : subIn K tb (.ref C) = some false := by
      rcases Bool.or_eq_true_iff.mp hn with e | e
      · rw [beq_iff_eq.mp e] at q; simp at q
      · exact beq_iff_eq.mp e
    refine wpAny_bind ((looks_subIn X e).here ?_)
    simp only [Bool.false_eq_true, if_false]
    refine wpAny_bind (wpAny_mono one (fun r s' z => ?_) fun _ _ e => e)
    obtain ⟨v, rfl, hq⟩ := z
    exact wpAny_pure hq
  · refine wpAny_bind (wpAny_pure ?_)
    simp only [Bool.false_eq_true, if_false]
    refine wpAny_bind (wpAny_mono one (fun r s' z => ?_) fun _ _ e => e)
    obtain ⟨v, rfl, hq⟩ := z
    exact wpAny_pure hq
end
end W
end PySem
namespace Zf
open PySem PySem.Spec L2 PyProof.Rows
/-- a def called with data alone -/
theorem spM_ims {K : PySem.W.Frag} {cl : Nat → Addr} {n : Nat} {F : FM} {I H : Hp} {vs : List V} {ds : List D} {d : D} {news : En} {Q : VK} {E : XK} (e : Ex I H) (r : RepL K cl I vs ds) (hl : ds.length = n) (hF : F (ds.map .im) = some (d, news)) (k : ∀ v I' H', Gr I H I' H' → Rep K cl I' v d → Q v H') : spM K cl n F vs H Q E := by
  have noMu : ∀ (i : Nat) (q : Bool) (m : Mu), (ds.map Sl.im)[i]? = some (Sl.mu q m) → False := fun i q m hi => by
    rw [List.getElem?_map] at hi
    cases z : ds[i]? with
    | none => rw [z] at hi; cases hi
    | some d => rw [z] at hi; cases hi
  refine ⟨I, ds.map .im, fun _ => [], d, news, by rw [r.length]; exact hl, by rw [List.length_map]; exact hl, ⟨fun i d hi => ?_, fun i q m hi => absurd hi (noMu i q m), fun i j q m q' m' a hij hi hj => absurd hi (noMu i q m)⟩, fun i q m hi => absurd hi (noMu i q m), e, fun i hi => ?_, hF, fun v I' H' x1 x2 x3 x4 x5 x6 => k v I' H' ⟨x1, fun a o h => x4 a o h fun i q m hi => absurd hi (noMu i q m), x2, x3⟩ x6⟩
  · rw [List.getElem?_map] at hi
    cases z : ds[i]? with
    | none => rw [z] at hi; cases hi
    | some d' =>
      rw [z] at hi
      cases hi
      obtain ⟨u, hu, ru⟩ := r.get z
      exact ⟨u, hu, ru⟩
  · rw [List.getElem?_map] at hi
    cases z : ds[i]? with
    | none => rw [z] at hi; cases hi
    | some d' => rw [z] at hi; cases hi
/-- a class with an own __eq__ -/
def EqC (P : Program) (w : World) (K : PySem.W.Frag) (mg : Str → Option Value) (base : Heap) (cl : Nat → Addr) (k c : Nat) (F : FM) : Prop :=
  ∃ (k' : Nat) (f : Addr) (fd : FuncData) (ps : List Str), k' ≤ k ∧ FnOk P w K mg base CX0 k' f fd ps (spM K cl 2 F) ∧ PySem.W.findIn K (.ref (cl c)) "__eq__" = some (some (.ref f)) ∧ PySem.W.isFn K (.ref f) = true ∧ Binds K fd ps [] ∧
    PySem.W.findIn K (.ref (cl c)) "__ne__" = some (some (.builtin "object.__ne__")) ∧ PySem.W.mroIn K (cl c) (.type "object") = some true ∧ PySem.W.notFirst K (cl c) (.type "str") = true
def eqcB (K : PySem.W.Frag) (C f : Addr) : Bool := He.eqO (PySem.W.findIn K (.ref C) "__eq__") (some (some (.ref f))) && (PySem.W.isFn K (.ref f) && (He.eqO (PySem.W.findIn K (.ref C) "__ne__") (some (some (.builtin "object.__ne__"))) && (decide (PySem.W.mroIn K C (.type "object") = some true) && PySem.W.notFirst K C (.type "str"))))
theorem eqc_of {P : Program} {w : World} {K : PySem.W.Frag} {mg : Str → Option Value} {base : Heap} {cl : Nat → Addr} {k k' c : Nat} {F : FM} {f : Addr} {fd : FuncData} {ps : List Str} (h : FnOk P w K mg base CX0 k' f fd ps (spM K cl 2 F)) (hb : Binds K fd ps []) (e : eqcB K (cl c) f = true) (hk : k' ≤ k := by decide) : EqC P w K mg base cl k c F := by
  unfold eqcB at e
  rw [Bool.and_eq_true, Bool.and_eq_true, Bool.and_eq_true, Bool.and_eq_true, decide_eq_true_eq] at e
  exact ⟨k', f, fd, ps, hk, h, He.eqO_ok e.1, e.2.1, hb, He.eqO_ok e.2.2.1, e.2.2.2.1, e.2.2.2.2⟩
theorem allC_nil {α : Type} {P : α → Prop} : ∀ c ∈ ([] : List α), P c := fun _ h => nomatch h
theorem allC_cons {α : Type} {P : α → Prop} {a : α} {l : List α} (h : P a) (k : ∀ c ∈ l, P c) : ∀ c ∈ a :: l, P c := fun c hc => by
  rcases List.mem_cons.mp hc with rfl | hc
  · exact h
  · exact k c hc
section
variable {X : Cx} {cl : Nat → Addr}
def rNeO (K : PySem.W.Frag) (cl : Nat → Addr) (Fs : List (Nat × FM)) : R2 := fun x y H Q => ∃ a c dx fs z F, x = .ref a ∧ y = .str z ∧ H a = some (.ins (cl c) dx fs) ∧ (c, F) ∈ Fs ∧ spM K cl 2 F [x, y] H (fun v H' => ∃ r, v = .bl r ∧ Q (.bl (!r)) H') E0
theorem op_neO {k : Nat} {Fs : List (Nat × FM)} (hFs : ∀ p ∈ Fs, EqC X.prog X.w X.K X.mg X.base cl k p.1 p.2) (hr : Room (k + 1) X.A) : OpR X (compareOp .NotEq) (rNeO X.K cl Fs) := by
  intro pins s σ H x y v u Q I rx ry h
  obtain ⟨a, c, dx, fs, z, F, rfl, rfl, ha, hF, hsp⟩ := h
  cases rx
  obtain ⟨t, rfl⟩ := ry
  obtain ⟨k', f, fd, ps, hk, F1, h1, h2, h3, h4, h5, h6⟩ := hFs _ hF
  obtain ⟨mA, J, _⟩ := ins_get I.hok ha
  obtain ⟨od, J, _⟩ := J.look
  have sb : L2.Sub X k' X.A.in1 := (L2.Sub.in1 ⟨hr, rfl⟩).mono hk
  unfold compareOp
  refine PySem.W.neOwn_K (tb := .type "str") sb.room.units0 I.kIn J (PySem.W.Looks.of_pure rfl) h6 h5 h4 h1 h2 ?_
  have e0 : Env0 X.prog X.w X.K X.mg X.base X.A.in1 X.stack s H := by
    have e := I.env0
    exact ⟨by rw [sb.fr]; exact e.frames, e.mod, e.bs, e.bsz, e.funs, e.frf, e.hok, e.bare⟩
  have hl := F1.len _ _ _ _ hsp
  have r2 : Vals [V.ref a, V.str z] [Value.ref a, Value.str z t] := .cons rfl (.cons ⟨t, rfl⟩ .nil)
  refine wpAny_call (codeAny_mono (F1.run X.A.in1 X.stack s H ⟨[.ref a, .str z t], []⟩ [.ref a, .str z t] [.ref a, .str z] _ E0 sb.room e0 (by
    have := h3 s [.ref a, .str z t] I.kIn (by simpa using hl)
    simpa using this) r2 hsp) fun r s' hq => ?_)
  cases r with
  | error e => exact pass0 pins σ H s e s' I hq
  | ok fl =>
    cases fl with
    | ret w =>
      obtain ⟨zv, H', I', rz, r, ez, q⟩ := I.after hq
      subst ez
      cases rz
      exact ⟨r, rfl, .bl (!r), H', I', rfl, q⟩
    | next => exact False.elim hq
    | brk => exact False.elim hq
    | cont => exact False.elim hq
def neO (Fs : List (Nat × FM)) : D → D → Option D
  | .obj c fs, .str z => (match Fs.find? (fun p => p.1 == c) with
    | some p => (match p.2 [.im (.obj c fs), .im (.str z)] with
      | some (.bl r, _) => some (.bl (!r))
      | _ => none)
    | none => none)
  | a, b => neD a b
theorem ok_neO {Fs : List (Nat × FM)} {r : R2} {K : PySem.W.Frag} (ok : OK2 K cl r neD) : OK2 K cl (fun x y H Q => r x y H Q ∨ rNeO K cl Fs x y H Q) (neO Fs) := fun I H v w d1 d2 d Q e r1 r2 hg k => by
  unfold neO at hg
  split at hg
  · rename_i c fs z
    split at hg
    · rename_i p hp
      split at hg
      · rename_i b news hF
        cases hg
        have hc : p.1 = c := by
          have := List.find?_some hp
          exact beq_iff_eq.mp this
        cases r1 with
        | obj h1 r =>
          cases r2
          refine .inr ⟨_, c, _, _, z, p.2, rfl, rfl, e _ _ h1, by rw [← hc]; exact List.mem_of_find?_eq_some hp, ?_⟩
          refine spM_ims (ds := [.obj c fs, .str z]) e (.cons (.obj h1 r) (.cons (.str z) .nil)) rfl hF fun v I' H' gr rv => ?_
          cases rv
          exact ⟨b, rfl, k _ I' H' gr (.bl _)⟩
      · cases hg
    · cases hg
  · exact .inl (ok I H v w d1 d2 d Q e r1 r2 hg k)
end
end Zf

set_option Elab.async false
set_option linter.all false
set_option maxRecDepth 100000
set_option maxHeartbeats 1000000
/-! Zf, part 18: isinstance of one of two kinds; methods without arguments; empty dicts, copies of dicts. -/
namespace Zf
open PySem PySem.Spec L2 PyProof.Rows
section
variable {X : Cx} {cl : Nat → Addr} {e a b : Expr} {ma : MM D} {p pos : Pos} {x : Str}
def isiDs (Ts : List String) (d : D) : Option D := match typeN d with
  | some t => some (.bl (Ts.any fun T => isT t T))
  | none => none
theorem em_isiT (T1 T2 : String) {n1 n2 : Str} {p1 p2 pt : Pos} {kk : Nat} (hm : X.mg "isinstance" = none) (hm1 : X.mg n1 = none) (hm2 : X.mg n2 = none) (he : EM X cl e ma) (hT1 : T1 ∈ ["bool", "int", "str", "list", "tuple", "dict"] := by decide) (hT2 : T2 ∈ ["bool", "int", "str", "list", "tuple", "dict"] := by decide)
    (hb1 : bootBuiltins n1 = some (.type T1) := by decide +kernel) (hb2 : bootBuiltins n2 = some (.type T2) := by decide +kernel)
    (hg : Gl X "isinstance" := by rfl) (hg1 : Gl X n1 := by rfl) (hg2 : Gl X n2 := by rfl) (hn1 : n1 ≠ "__name__" := by decide) (hn2 : n2 ≠ "__name__" := by decide) (hd1 : (n1 == ("__debug__" : Str)) = false := by decide) (hd2 : (n2 == ("__debug__" : Str)) = false := by decide)
    (hs1 : starEach [e, .Tuple [.Name n1 p1, .Name n2 p2] kk pt] X.env = (false, eval e X.env) :: starEach [.Tuple [.Name n1 p1, .Name n2 p2] kk pt] X.env := by rfl)
    (hs2 : starEach [.Tuple [.Name n1 p1, .Name n2 p2] kk pt] X.env = (false, eval (.Tuple [.Name n1 p1, .Name n2 p2] kk pt) X.env) :: starEach [] X.env := by rfl)
    (ht1 : starEach [.Name n1 p1, .Name n2 p2] X.env = (false, eval (.Name n1 p1) X.env) :: starEach [.Name n2 p2] X.env := by rfl) (ht2 : starEach [.Name n2 p2] X.env = (false, eval (.Name n2 p2) X.env) :: starEach [] X.env := by rfl)
    (hpl : (backTo pos (starEach [.Tuple [.Name n1 p1, .Name n2 p2] kk pt] X.env)).any (·.1) = false := by rfl) :
    EM X cl (.Call (.Name "isinstance" p) [e, .Tuple [.Name n1 p1, .Name n2 p2] kk pt] [] pos) (MM.opt ma (isiDs [T1, T2])) := by
  refine (pe_callB call_isiT hg hm PyProof.Rows.boot_isinstance (pa_cons he (pa_cons (pe_tup (pa_cons (pe_bltn (v := .ty T1) hg1 hm1 hb1 rfl hn1 hd1) (pa_cons (pe_bltn (v := .ty T2) hg2 hm2 hb2 rfl hn2 hd2) pa_nil ht2) ht1)) pa_nil hs2) hs1) (by decide) (by decide) hs1 hpl).zi fun σ H Q q => ?_
  obtain ⟨F, I, env, ex, d, env', s, hq, k⟩ := q
  obtain ⟨a, h1, h2⟩ := opt_of hq
  refine ⟨F, I, env, ex, a, env', s, h1, fun v I1 H1 s1 q1 r1 => ?_⟩
  unfold isiDs at h2
  split at h2
  · rename_i t ht
    cases h2
    refine ⟨by show 2 ≤ sizeLine; decide, fun tp htp => ?_⟩
    have g := Gr.new (o := .tup [.ty T1, .ty T2]) s1.ih htp
    refine ⟨v, tp, [.ty T1, .ty T2], .type t, [.type T1, .type T2], isT t T1 || (isT t T2 || false), rfl, upd_same, .cons (.ty T1) (.cons (.ty T2) .nil), r1.tyX (s1.ih.trans g.h) ht, ?_, k _ _ _ (s1.gr g) (q1.trans g.i) (.bl _)⟩
    have e1 := kit_isT (K := X.K) (typeN_in ht) hT1
    have e2 := kit_isT (K := X.K) (typeN_in ht) hT2
    unfold PySem.W.kitAny
    rw [e1]
    cases isT t T1 with
    | true => rfl
    | false =>
      dsimp only
      unfold PySem.W.kitAny
      rw [e2]
      cases isT t T2 <;> rfl
  · cases h2
def alnumM (z : Str) : List D → Option D
  | [] => some (.bl (Txt.isalnum z))
  | _ => none
theorem ok_alnum {K : PySem.W.Frag} : OKM K cl (fun x xs H Q => ∃ a, x = .str a ∧ xs = [] ∧ True ∧ Q (.bl (Txt.isalnum a)) H) alnumM := fun I H z vs ds d Q e r hg k => by
  unfold alnumM at hg
  split at hg
  · cases hg
    cases r
    exact ⟨z, rfl, rfl, trivial, k _ _ _ (Gr.refl e) (.bl _)⟩
  · cases hg
/-! ### dicts -/
theorem em_dict0 : EM X cl (.Dict [] [] pos) (mc (.dct [])) := pe_dnewK.zi fun σ H Q h => by
  obtain ⟨F, I, env, ex, d, env', s, hq, k⟩ := h
  cases hq
  intro q hp
  have g := Gr.new (o := .dK []) s.ih hp
  exact k (.ref q) _ _ (s.gr g) g.i (.dct upd_same .nil)
def dictL : List D → Option D
  | [.dct kvs] => some (.dct kvs)
  | _ => none
theorem ok_dict {K : PySem.W.Frag} : OKL K cl (fun xs H Q => ∃ (a : Addr) (kvs : List (Key × V)), xs = [.ref a] ∧ Rd H a (.dK kvs) ∧ ∀ p, H p = none → Q (.ref p) (upd H p (.dK kvs))) dictL := fun I H vs ds d Q e r hg k => by
  unfold dictL at hg
  split at hg
  · cases hg
    cases r with
    | cons r rr =>
      cases rr
      cases r with
      | @dct a vs' _ h1 r =>
        refine ⟨_, _, rfl, .inl (e _ _ h1), fun q hp => ?_⟩
        have g := Gr.new (o := .dK vs') e hp
        exact k (.ref q) _ _ g (.dct upd_same (RepK.ex g.i r))
  · cases hg
/-- a walk over a name's dict that has nothing -/
def sforD (i : Nat) : SM := fun env => match env[i]? with
  | some (.im (.dct [])) => some (.nx env)
  | _ => none
theorem es_forD (i : Nat) {tg : Expr} {body : List Stmt} {np : Pos} (hN : X.N[i]? = some x := by rfl) (hv : Vis X.env.scope x := by first | exact Or.inl rfl | exact Or.inr (Or.inl rfl) | exact Or.inr (Or.inr rfl)) (hd : (x == ("__debug__" : Str)) = false := by decide)
    (hcd : (x == ("__classdict__" : Str)) = false := by decide) (hc : X.calm = true := by rfl) (hp : PassesOwn (model X.prog X.w) X.A X.env X.xe := by exact PassesOwn.never) (hs : ∀ z, foldedSetIterable (.Name x np) X.env z = pure z := by intro _; rfl) : ES X cl (.For tg (.Name x np) body [] pos) (sforD i) := by
  have pg : PG X tg (fun _ _ _ _ => False) := ⟨fun _ _ _ _ _ _ _ _ _ h => h.elim⟩
  refine (ps_lock (ps_for hp hc (pi_keys (pe_var hN hv hd hcd)) pg pss_never hs)).zi fun Dn σ H q => ?_
  obtain ⟨F, I, env, ex, out, s, hm, k⟩ := q
  unfold sforD at hm
  split at hm
  · rename_i h0
    cases hm
    obtain ⟨f, s'⟩ := id s
    obtain ⟨v, hv1, hr⟩ := s'.look h0
    cases hr with
    | @dct a0 vs0 _ h1 r =>
      cases r
      have hd1 := s.ih _ _ h1
      refine ⟨_, _, hd1, True.intro, fun od => ⟨_, hv1, _, od, rfl, .inl ⟨[], upd_same, ?_⟩⟩⟩
      refine ⟨fun i m σ' H' => i = 0 ∧ σ' = σ ∧ H' = upd H a0 (.frz od (.dK [])), ⟨0, rfl, rfl, rfl⟩, ?_⟩
      rintro i m σ' H' ⟨rfl, rfl, rfl⟩
      refine .inl ⟨⟨upd_same, Nat.le_refl _⟩, upd_same, ?_⟩
      rw [upd_upd]
      have e1 : upd H a0 (.dK []) = H := by
        funext c
        unfold upd
        split
        · rename_i hq
          rw [hq, hd1]
        · rfl
      rw [e1]
      exact k σ' I H s (Ex.refl _)
  · cases hm
end
end Zf

set_option Elab.async false
set_option linter.all false
set_option maxRecDepth 100000
set_option maxHeartbeats 1000000
/-! Zf, part 19: enumerate of a text. -/
namespace Zf
open PySem PySem.Spec L2 PyProof.Rows
/-- each sign of x with its number, in a new pair -/
def ItEs (x : Str) : It := ⟨fun i _ => i < x.cps.size, fun i H v H' => ∃ T c, v = .ref T ∧ H T = none ∧ H' = upd H T (.tup [.int (i : Nat), .str ⟨#[c]⟩]) ∧ x.cps[i]? = some c, fun i _ => x.cps.size ≤ i⟩
theorem drw {prog : Program} {w : World} {A : Around} (hh : A.handled = none) (it : Addr) (x : Str) (t : Tok) : Draws prog w A it [it] x.cps.size (fun i v => ∃ c u, x.cps[i]? = some c ∧ v = .str ⟨#[c]⟩ u) (fun i h => h.IsStrIter it (strIterType x) x t i) := by
  unfold strIterType
  split
  · exact Draws.strAscii hh it x t
  · exact Draws.strWide hh it x t
theorem turn_enumS {P : Program} {w : World} {K : PySem.W.Frag} {elts : List Expr} {kk : Nat} {tpos : Pos} (x : Str) (t : Tok) (e it : Addr) :
    Turn P w K (.Tuple elts kk tpos) (ItEs x) [e, it] e (fun i h => (∃ old, IsEnum h e it ((i : Nat) : Int) old) ∧ h.IsStrIter it (strIterType x) x t i ∧ e ≠ it ∧ i ≤ x.cps.size) where
  mem := by simp
  obj := fun i h st b hb => by
    obtain ⟨⟨old, he⟩, ⟨o, ho, hc, hd⟩, _⟩ := st
    have e' : b = e ∨ b = it := by simpa using hb
    rcases e' with z | z
    · rw [z]; exact ⟨_, he, fun v q => nomatch q⟩
    · rw [z]; exact ⟨o, ho, fun v q => by rw [hd] at q; cases q⟩
  keep := fun i h h' st k => let ⟨⟨old, he⟩, ⟨o, ho, r⟩, hne, hle⟩ := st; ⟨⟨old, k e (by simp) _ he⟩, ⟨o, k it (by simp) o ho, r⟩, hne, hle⟩
  item := by
    intro X hP hw hK hc i pins s σ H E I hf st hg
    subst hP hw hK
    obtain ⟨⟨old, he⟩, hit, hne, hle⟩ := st
    have hel : e < s.heap.objs.size := Heap.lt_size he
    have hil : it < s.heap.objs.size := by obtain ⟨_, q, _⟩ := hit; exact Heap.lt_size q
    refine wpAny_pyNext_enum_itemD (drw (A := X.A.in1) (I.ok.hd hc) it x t) he hit hg hne (by simpa using hne) fun u h' tk hu ho hit' hT hsz hk => ?_
    obtain ⟨c, u', hcx, rfl⟩ := hu
    refine ⟨_, rfl, wpAny_letOwnedTupleGo_enum (s := { s with heap := h', toks := tk + 1 }) ho fun h'' he' sb => ?_⟩
    have hT2 : h''.get? s.heap.objs.size = some { cls := .type "tuple", data := .seq #[.int i tk, .str ⟨#[c]⟩ u'] } := (sb.2 _ (Nat.ne_of_gt hel)).trans hT
    have new : ObjOk X.prog X.w (upd H s.heap.objs.size (.tup [.int (i : Nat), .str ⟨#[c]⟩])) h'' s.heap.objs.size (.tup [.int (i : Nat), .str ⟨#[c]⟩]) :=
      ⟨by show 2 ≤ sizeLine; decide, [.int i tk, .str ⟨#[c]⟩ u'], .cons ⟨_, rfl⟩ (.cons ⟨_, rfl⟩ .nil), ⟨_, hT2, rfl, _, rfl⟩⟩
    have I1 : Inv X pins σ (upd H s.heap.objs.size (.tup [.int (i : Nat), .str ⟨#[c]⟩])) { s with heap := h'', toks := tk + 1 } :=
      I.turnedNew (ch := [e, it]) (fun b ob hb q => (sb.2 b (fun z => hb (by simp [z]))).trans (hk b ob (fun z => hb (by simp [z])) (fun z => hb (by simp [z])) q)) hf (Nat.le_refl _) new
    refine ⟨.ref s.heap.objs.size, _, I1, rfl, ⟨_, c, rfl, I.hok.fresh (Nat.le_refl _), rfl, hcx⟩, ⟨⟨.str ⟨#[c]⟩ u', ?_⟩, ?_, hne, hg⟩, fun b hb => ?_⟩
    · have e1 : ((i + 1 : Nat) : Int) = (i : Int) + 1 := by omega
      rw [e1]; exact he'
    · exact let ⟨o, ho', r⟩ := hit'; ⟨o, (sb.2 it (Ne.symm hne)).trans ho', r⟩
    · have hb' : b < s.heap.objs.size := by
        have e' : b = e ∨ b = it := by simpa using hb
        rcases e' with z | z
        · rw [z]; exact hel
        · rw [z]; exact hil
      rw [upd_ne (Nat.ne_of_lt hb')]
      exact (hf b hb).1
  done := by
    intro X hP hw hK hc i pins s σ H E I hf st hg
    subst hP hw hK
    obtain ⟨⟨old, he⟩, hit, hne, hle⟩ := st
    obtain ⟨f0, f1, f2, f3, f4, f5⟩ := hf it (by simp)
    have hi : i = x.cps.size := Nat.le_antisymm hle hg
    subst hi
    exact wpAny_pyNext_enum_endD (drw (prog := X.prog) (w := X.w) (A := X.A.in1) (I.ok.hd hc) it x t) he hit fun h' eb => ⟨rfl, I.turned (t' := s.toks) (fun b o hb q => eb b o hb q) f0 f1 f3 f4 f5⟩
  self := fun A i s Q E st h => let ⟨⟨_, he⟩, _⟩ := st; wpAny_pyIter_enum he h
def iEnumS (ta : TA) : TI := fun σ H R => ta σ H fun vs H1 => ∃ x, vs = [.str x] ∧ R (ItEs x) H1
theorem pi_enumS {X : Cx} {e : Expr} {ta : TA} {p pos tpos : Pos} {elts : List Expr} {kk : Nat} (hg : Gl X "enumerate") (hm : X.mg "enumerate" = none) (ha : PA X [e] ta) (hs : starEach [e] X.env = [(false, eval e X.env)] := by rfl) :
    PI X (.Tuple elts kk tpos) (.Call (.Name "enumerate" p) [e] [] pos) (iEnumS ta) := by
  refine ⟨fun pins s σ H R I h => ?_⟩
  refine Call_ (ld_blt I hg hm boot_enumerate (PyProof.Rows.callWith_type1 (thn (ha.run pos pins s σ H _ I h) fun us s1 ⟨vs, H1, I1, r1, q1⟩ => ?_) hs rfl))
  obtain ⟨x, ex, q⟩ := q1
  subst ex
  cases r1 with
  | cons r rr =>
    cases rr
    obtain ⟨t, rfl⟩ := r
    refine call_enumerate_str fun h' he hit hsz hk => wpAny_pyIter_enum he ?_
    have I2 : Inv X pins σ H1 { s1 with heap := h' } := I1.kept (t' := s1.toks) hk
    refine ⟨s1.heap.objs.size + 1, [s1.heap.objs.size + 1, s1.heap.objs.size], _, _, H1, rfl, I2, turn_enumS x t (s1.heap.objs.size + 1) s1.heap.objs.size, ⟨⟨.none, he⟩, hit, Nat.succ_ne_self _, Nat.zero_le _⟩, fun b hb => ?_, q⟩
    have e' : b = s1.heap.objs.size + 1 ∨ b = s1.heap.objs.size := by simpa using hb
    have hle : s1.heap.objs.size ≤ b := by
      rcases e' with z | z
      · rw [z]; exact Nat.le_add_right _ _
      · rw [z]; exact Nat.le_refl _
    exact I1.fpOk hle (I1.hok.fresh hle)
section
variable {X : Cx} {cl : Nat → Addr} {e : Expr} {p pos : Pos}
theorem wd_enumS {K : PySem.W.Frag} {I : Hp} {z : Str} : WD K cl I (ItEs z) (enumD 0 (signsD z)) := by
  have hl : (signsD z).length = z.cps.size := by simp [signsD]
  refine ⟨fun i H hi e => ?_, fun H e => ?_, fun i J H y H' hi e1 e2 hy => ?_⟩
  · rw [enumD_length] at hi
    show i < z.cps.size
    omega
  · rw [enumD_length]
    show z.cps.size ≤ (signsD z).length
    omega
  · obtain ⟨T, c, rfl, hT, rfl, hc⟩ := hy
    have h1 : (signsD z)[i]? = some (.str ⟨#[c]⟩) := by
      unfold signsD
      rw [List.getElem?_map]
      have : z.cps.toList[i]? = some c := by simpa using hc
      rw [this]; rfl
    have g := Gr.new (o := .tup [.int (i : Nat), .str ⟨#[c]⟩]) e2 hT
    refine ⟨_, _, enumD_get h1, g, .tup (.inl (.inl upd_same)) (.cons ?_ (.cons (.str _) .nil))⟩
    rw [Nat.zero_add]
    exact .int _
def strE : List D → Option (List D)
  | [.str z] => some (enumD 0 (signsD z))
  | _ => none
theorem ei_enumS {elts : List Expr} {kk : Nat} {tpos : Pos} {m : MM (List D)} (hm : X.mg "enumerate" = none) (ha : EA X cl [e] m) (hg : Gl X "enumerate" := by rfl) (hs : starEach [e] X.env = [(false, eval e X.env)] := by rfl) :
    EI X cl (.Tuple elts kk tpos) (.Call (.Name "enumerate" p) [e] [] pos) (MM.opt m strE) := by
  refine ⟨fun pins s σ H R I q => (pi_enumS hg hm ha hs).run pins s σ H R I ?_⟩
  obtain ⟨F, J, env, ex, ds, env', s1, hm, k⟩ := q
  obtain ⟨as, h1, h2⟩ := opt_of hm
  refine ⟨F, J, env, ex, as, env', s1, h1, fun vs I' H' s' e' r => ?_⟩
  unfold strE at h2
  split at h2
  · cases h2
    cases r with
    | cons r rr =>
      cases rr
      cases r
      exact ⟨_, rfl, k _ I' H' s' e' wd_enumS⟩
  · cases h2
end
end Zf

set_option Elab.async false
set_option linter.all false
set_option maxRecDepth 100000
set_option maxHeartbeats 1000000
/-! Zf, part 20: isinstance of one of four kinds; written texts in the place of others, where a token is out. -/
namespace Zf
open PySem PySem.Spec L2 PyProof.Rows
section
variable {X : Cx} {cl : Nat → Addr} {e a b c : Expr} {ma mb : MM D} {ta : MM Bool} {p pos : Pos} {x : Str}
theorem em_isi4 (T1 T2 T3 T4 : String) {n1 n2 n3 n4 : Str} {q1 q2 q3 q4 pt : Pos} {kk : Nat} (hm : X.mg "isinstance" = none) (hm1 : X.mg n1 = none) (hm2 : X.mg n2 = none) (hm3 : X.mg n3 = none) (hm4 : X.mg n4 = none) (he : EM X cl e ma) (hT1 : T1 ∈ ["bool", "int", "str", "list", "tuple", "dict"] := by decide) (hT2 : T2 ∈ ["bool", "int", "str", "list", "tuple", "dict"] := by decide) (hT3 : T3 ∈ ["bool", "int", "str", "list", "tuple", "dict"] := by decide) (hT4 : T4 ∈ ["bool", "int", "str", "list", "tuple", "dict"] := by decide)
    (hb1 : bootBuiltins n1 = some (.type T1) := by decide +kernel) (hb2 : bootBuiltins n2 = some (.type T2) := by decide +kernel) (hb3 : bootBuiltins n3 = some (.type T3) := by decide +kernel) (hb4 : bootBuiltins n4 = some (.type T4) := by decide +kernel)
    (hg : Gl X "isinstance" := by rfl) (hg1 : Gl X n1 := by rfl) (hg2 : Gl X n2 := by rfl) (hg3 : Gl X n3 := by rfl) (hg4 : Gl X n4 := by rfl) (hn1 : n1 ≠ "__name__" := by decide) (hn2 : n2 ≠ "__name__" := by decide) (hn3 : n3 ≠ "__name__" := by decide) (hn4 : n4 ≠ "__name__" := by decide) (hd1 : (n1 == ("__debug__" : Str)) = false := by decide) (hd2 : (n2 == ("__debug__" : Str)) = false := by decide) (hd3 : (n3 == ("__debug__" : Str)) = false := by decide) (hd4 : (n4 == ("__debug__" : Str)) = false := by decide)
    (hs1 : starEach [e, .Tuple [.Name n1 q1, .Name n2 q2, .Name n3 q3, .Name n4 q4] kk pt] X.env = (false, eval e X.env) :: starEach [.Tuple [.Name n1 q1, .Name n2 q2, .Name n3 q3, .Name n4 q4] kk pt] X.env := by rfl)
    (hs2 : starEach [.Tuple [.Name n1 q1, .Name n2 q2, .Name n3 q3, .Name n4 q4] kk pt] X.env = (false, eval (.Tuple [.Name n1 q1, .Name n2 q2, .Name n3 q3, .Name n4 q4] kk pt) X.env) :: starEach [] X.env := by rfl)
    (ht1 : starEach [.Name n1 q1, .Name n2 q2, .Name n3 q3, .Name n4 q4] X.env = (false, eval (.Name n1 q1) X.env) :: starEach [.Name n2 q2, .Name n3 q3, .Name n4 q4] X.env := by rfl) (ht2 : starEach [.Name n2 q2, .Name n3 q3, .Name n4 q4] X.env = (false, eval (.Name n2 q2) X.env) :: starEach [.Name n3 q3, .Name n4 q4] X.env := by rfl) (ht3 : starEach [.Name n3 q3, .Name n4 q4] X.env = (false, eval (.Name n3 q3) X.env) :: starEach [.Name n4 q4] X.env := by rfl) (ht4 : starEach [.Name n4 q4] X.env = (false, eval (.Name n4 q4) X.env) :: starEach [] X.env := by rfl)
    (hpl : (backTo pos (starEach [.Tuple [.Name n1 q1, .Name n2 q2, .Name n3 q3, .Name n4 q4] kk pt] X.env)).any (·.1) = false := by rfl) :
    EM X cl (.Call (.Name "isinstance" p) [e, .Tuple [.Name n1 q1, .Name n2 q2, .Name n3 q3, .Name n4 q4] kk pt] [] pos) (MM.opt ma (isiDs [T1, T2, T3, T4])) := by
  refine (pe_callB call_isiT hg hm PyProof.Rows.boot_isinstance (pa_cons he (pa_cons (pe_tup (pa_cons (pe_bltn (v := .ty T1) hg1 hm1 hb1 rfl hn1 hd1) (pa_cons (pe_bltn (v := .ty T2) hg2 hm2 hb2 rfl hn2 hd2) (pa_cons (pe_bltn (v := .ty T3) hg3 hm3 hb3 rfl hn3 hd3) (pa_cons (pe_bltn (v := .ty T4) hg4 hm4 hb4 rfl hn4 hd4) pa_nil ht4) ht3) ht2) ht1)) pa_nil hs2) hs1) (by decide) (by decide) hs1 hpl).zi fun σ H Q q => ?_
  obtain ⟨F, I, env, ex, d, env', s, hq, k⟩ := q
  obtain ⟨a, h1, h2⟩ := opt_of hq
  refine ⟨F, I, env, ex, a, env', s, h1, fun v I1 H1 s1 q1 r1 => ?_⟩
  unfold isiDs at h2
  split at h2
  · rename_i t ht
    cases h2
    refine ⟨by show 4 ≤ sizeLine; decide, fun tp htp => ?_⟩
    have g := Gr.new (o := .tup [.ty T1, .ty T2, .ty T3, .ty T4]) s1.ih htp
    refine ⟨v, tp, [.ty T1, .ty T2, .ty T3, .ty T4], .type t, [.type T1, .type T2, .type T3, .type T4], isT t T1 || (isT t T2 || (isT t T3 || (isT t T4 || false))), rfl, upd_same, (.cons (.ty T1) (.cons (.ty T2) (.cons (.ty T3) (.cons (.ty T4) .nil)))), r1.tyX (s1.ih.trans g.h) ht, ?_, k _ _ _ (s1.gr g) (q1.trans g.i) (.bl _)⟩
    have e1 := kit_isT (K := X.K) (typeN_in ht) hT1
    have e2 := kit_isT (K := X.K) (typeN_in ht) hT2
    have e3 := kit_isT (K := X.K) (typeN_in ht) hT3
    have e4 := kit_isT (K := X.K) (typeN_in ht) hT4
    unfold PySem.W.kitAny
    rw [e1]
    cases isT t T1 with
    | true => rfl
    | false =>
      dsimp only
      unfold PySem.W.kitAny
      rw [e2]
      cases isT t T2 with
      | true => rfl
      | false =>
        dsimp only
        unfold PySem.W.kitAny
        rw [e3]
        cases isT t T3 with
        | true => rfl
        | false =>
          dsimp only
          unfold PySem.W.kitAny
          rw [e4]
          cases isT t T4 <;> rfl
  · cases h2
/-! ### tokens -/
/-- a test behind which a token is out -/
structure PT1 (X : Cx) (e : Expr) (t : TT) : Prop where
  run : ∀ (pins : List (Addr × Obj)) (s : Shared) (σ : L2.St) (H : Hp) (Q : Bool → Hp → Prop), Inv X pins σ H s → t σ H Q → wpAny (model X.prog X.w) X.A (isTrue e X.env (eval e X.env)) (fun d s' => 1 ≤ s'.toks ∧ TP X pins σ Q d s') X.xe s
theorem pt1_cmp {op : CmpOp} {r : R2} {te : TE} {i : Int} {j : Nat} {c0 : Pos} (ho : OpR X (compareOp op) r) (ha : PE X a te) (hm : behindInMarks op (.Constant (.int i) j c0) = false) : PT1 X (.Compare a [op] [.Constant (.int i) j c0] pos) (tTest (tOp r te (tC (.int i)))) := by
  refine ⟨fun pins s σ H Q I h => ?_⟩
  refine wpAny_isTrue_Compare1 (thn (ha.run pins s σ H _ I h) fun v s1 ⟨x, H1, I1, r1, q1⟩ => wpAny_Constant_int ?_) hm
  refine wpAny_mono (PySem.wpAny_toks_of (n := 1) (by show 1 ≤ s1.toks + 1; omega) (ho pins { s1 with toks := s1.toks + 1 } σ H1 x (.int i) v (.int i s1.toks) _ (I1.tok _) r1 ⟨_, rfl⟩ q1)) (fun c s3 q => ?_) fun _ _ z => z.2
  obtain ⟨hk, z, H3, I3, r3, k, e, q3⟩ := q
  subst e
  cases r3
  exact wpAny_truthy_bool ⟨hk, H3, I3, q3⟩
theorem pe_ifExpT {tc : TT} {te tf : TE} (hc : PT1 X c tc) (ha : PET X a te) (hb : PE X b tf) : PE X (.IfExp c a b pos) (tIf tc te tf) := by
  refine ⟨fun pins s σ H Q I h => ?_⟩
  refine wpAny_IfExp (thn (hc.run pins s σ H _ I h) fun d s1 ⟨hk, H1, I1, q1⟩ => ?_)
  cases d with
  | true => exact ha pins s1 σ H1 Q hk I1 q1
  | false => exact hb.run pins s1 σ H1 Q I1 q1
abbrev EB1 (X : Cx) (cl : Nat → Addr) (e : Expr) (m : MM Bool) : Prop := PT1 X e (tBo X.K cl m)
abbrev EMT (X : Cx) (cl : Nat → Addr) (e : Expr) (m : MM D) : Prop := PET X e (tM X.K cl m)
theorem eb1_cmp {op : CmpOp} {r : R2} {g : D → D → Option D} {i : Int} {j : Nat} {c0 : Pos} (ho : OpR X (compareOp op) r) (ok : OK2 X.K cl r g) (hm : behindInMarks op (.Constant (.int i) j c0) = false) (ha : EM X cl a ma) : EB1 X cl (.Compare a [op] [.Constant (.int i) j c0] pos) (MM.opt (mop2 g ma (mc (.int i))) blD) := by
  have h := pt1_cmp (pos := pos) ho ha hm
  refine ⟨fun pins s σ H Q I q => h.run pins s σ H Q I ?_⟩
  obtain ⟨F, J, env, ex, b, env', s1, hm, k⟩ := q
  obtain ⟨d, h1, h2⟩ := opt_of hm
  obtain ⟨F2, I2, e2, x2, d2, e3, s2, h3, k2⟩ := t2_imp (ma := ma) (mb := mc (.int i)) ok σ H (fun x H1 => ∃ c, x = .bl c ∧ Q c H1) ⟨F, J, env, ex, d, env', s1, h1, fun v I' H' s' e' r => ⟨b, r.bl_of h2, k I' H' s' e'⟩⟩
  refine ⟨F2, I2, e2, x2, d2, e3, s2, h3, fun v I' H' s' e' r => ?_⟩
  obtain ⟨F4, I4, e4, x4, d4, e5, s4, h5, k4⟩ := k2 v I' H' s' e' r
  cases h5
  exact k4 _ _ _ s4 (Ex.refl _) (.int i)
theorem em_ifT (hc : EB1 X cl c ta) (ha : EMT X cl a ma) (hb : EM X cl b mb) : EM X cl (.IfExp c a b pos) (mif ta ma mb) := by
  refine (pe_ifExpT hc ha hb).zi fun σ H Q q => ?_
  obtain ⟨F, I, env, ex, d, env', s, hm, k⟩ := q
  unfold mif at hm
  split at hm
  · rename_i e1 h1
    exact ⟨F, I, env, ex, true, e1, s, h1, fun I' H' s' q' => iteT ⟨F, I', e1, ex, d, env', s', hm, fun v I2 H2 s2 q2 => k v I2 H2 s2 (q'.trans q2)⟩⟩
  · rename_i e1 h1
    exact ⟨F, I, env, ex, false, e1, s, h1, fun I' H' s' q' => iteF ⟨F, I', e1, ex, d, env', s', hm, fun v I2 H2 s2 q2 => k v I2 H2 s2 (q'.trans q2)⟩⟩
  · cases hm
/-- x.replace(y, z) -/
def mrepl (ma : MM D) (y z : Str) : MM D := fun env => match ma env with
  | some (.str x, e1) => if x.length + (x.length + 1) * z.length ≤ 1000000 then some (.str (Txt.replace x y z), e1) else none
  | _ => none
theorem emt_repl {o : Expr} {mo : MM D} {y z : Str} {j k : Nat} {c0 c1 apos pos : Pos} (ho : EM X cl o mo) (hyz : (y == z) = false := by decide)
    (hst : starEach [.Constant (.str y) j c0, .Constant (.str z) k c1] X.env = [(false, eval (.Constant (.str y) j c0) X.env), (false, eval (.Constant (.str z) k c1) X.env)] := by rfl)
    (hbase : attributeBase o "replace" X.env (eval o X.env) = eval o X.env := by rfl) (hline : (apos.endLine == pos.line) = true := by rfl) :
    EMT X cl (.Call (.Attribute o "replace" apos) [.Constant (.str y) j c0, .Constant (.str z) k c1] [] pos) (mrepl mo y z) := by
  intro pins s σ H Q h0 I q
  refine CwR.pet_replC ho hyz hst hbase hline pins s σ H Q h0 I ?_
  obtain ⟨F, J, env, ex, d, env', s1, hm, kq⟩ := q
  unfold mrepl at hm
  split at hm
  · rename_i x e1 h1
    split at hm
    · rename_i hl
      cases hm
      refine ⟨F, J, env, ex, .str x, env', s1, h1, fun v I' H' s' e' r => ?_⟩
      obtain ⟨rfl, _⟩ := r.str_of rfl
      exact ⟨x, rfl, Nat.le_trans hl (by decide), kq _ I' H' s' e' (.str _)⟩
    · cases hm
  · cases hm
end
end Zf

set_option Elab.async false
set_option linter.all false
set_option maxRecDepth 100000
set_option maxHeartbeats 1000000
/-! Zf, part 21: texts in the place of others that are picked of written ones; blocks behind which a token is out. -/
namespace Zf
open PySem PySem.Spec L2 PyProof.Rows
theorem thnT {α : Type} {M : Model} {A : Around} {t : Sem α} {Q Q' : α → Shared → Prop} {E : Value → Shared → Prop} {s : Shared} {n : Nat} (hn : n ≤ s.toks) (h : wpAny M A t Q E s) (hQ : ∀ a s', n ≤ s'.toks → Q a s' → Q' a s') : wpAny M A t Q' E s :=
  wpAny_mono (PySem.wpAny_toks_of hn h) (fun a s' z => hQ a s' z.1 z.2) fun _ _ z => z.2
/-- no reader has booked a token, as the module's own objects tell -/
def noneB (K : PySem.W.Frag) : Bool := match K.lookup cStatics with
  | some o => (match o.data with
    | .dict es _ => (nsFind es sharingNotToldKey).isNone
    | _ => false)
  | none => false
theorem noneBooked {X : Cx} {pins : List (Addr × Obj)} {σ : L2.St} {H : Hp} {s : Shared} (I : Inv X pins σ H s) (h : noneB X.K = true) : NoneBooked s.heap := by
  obtain ⟨mc, ⟨o, es, ep, ho, hd, hk, hf⟩, _⟩ := I.nolimit
  refine ⟨mc, ⟨o, es, ep, ho, hd, hk, hf⟩, ?_⟩
  unfold noneB at h
  split at h
  · rename_i o' q
    have e := I.kIn _ _ q
    rw [ho] at e
    cases e
    rw [hd] at h
    rw [← hf]
    exact Option.isNone_iff_eq_none.mp h
  · cases h
/-- written texts -/
inductive StrC (env : Env) : List Expr → List Str → Prop
  | nil : StrC env [] []
  | cons {z : Str} {j : Nat} {c : Pos} {es : List Expr} {zs : List Str} (hs : starEach (.Constant (.str z) j c :: es) env = (false, eval (.Constant (.str z) j c) env) :: starEach es env) (h : StrC env es zs) : StrC env (.Constant (.str z) j c :: es) (z :: zs)
def Tks (n : Nat) (zs : List Str) (us : List Value) : Prop := us.length = zs.length ∧ ∀ (i : Nat) (z : Str), zs[i]? = some z → ∃ t : Tok, us[i]? = some (.str z t) ∧ n ≤ t
theorem splC {M : Model} {A : Around} {env : Env} {E : Value → Shared → Prop} {pos : Pos} : ∀ {es : List Expr} {zs : List Str} (h : StrC env es zs) {s : Shared} {Q : List Value → Shared → Prop}, (∀ us tk, Tks s.toks zs us → s.toks ≤ tk → Q us { s with toks := tk }) → wpAny M A (spliced (backTo pos (starEach es env))) Q E s
  | _, _, .nil, s, Q, k => Calls.spliced_nil (k [] s.toks ⟨rfl, fun i z h => by cases h⟩ (Nat.le_refl _))
  | _, _, .cons (z := z) (j := j) (c := c) (es := es) (zs := zs) hs h, s, Q, k => by
    rw [hs]
    show wpAny _ _ (spliced ((false, eval (.Constant (.str z) j c) env) :: backTo pos (starEach es env))) _ _ s
    refine Calls.spliced_cons (Calls.Constant_str (splC h fun us tk hu hle => ?_))
    refine k (.str z s.toks :: us) tk ⟨by rw [List.length_cons, List.length_cons, hu.1], fun i y hi => ?_⟩ (Nat.le_trans (Nat.le_succ _) hle)
    cases i with
    | zero => cases hi; exact ⟨s.toks, rfl, Nat.le_refl _⟩
    | succ i =>
      obtain ⟨t, h1, h2⟩ := hu.2 i y hi
      exact ⟨t, h1, Nat.le_trans (Nat.le_succ _) h2⟩
section
variable {X : Cx} {cl : Nat → Addr} {e a b c : Expr} {ma mb : MM D} {ta : MM Bool} {p pos : Pos} {x : Str}
/-- x.replace(y, [..][i]) -/
def mreplI (ma mi : MM D) (y : Str) (zs : List Str) : MM D := fun env => match ma env with
  | some (.str x, e1) => (match mi e1 with
    | some (.int i, e2) => if 0 ≤ i then (match zs[i.toNat]? with
      | some z => if x.length + (x.length + 1) * z.length ≤ 1000000 then some (.str (Txt.replace x y z), e2) else none
      | none => none) else none
    | _ => none)
  | _ => none
theorem mreplI_of {mi : MM D} {y : Str} {zs : List Str} {env env' : En} {d : D} (h : mreplI ma mi y zs env = some (d, env')) : ∃ x e1 i z, ma env = some (.str x, e1) ∧ mi e1 = some (.int i, env') ∧ 0 ≤ i ∧ zs[i.toNat]? = some z ∧ x.length + (x.length + 1) * z.length ≤ 1000000 ∧ d = .str (Txt.replace x y z) := by
  unfold mreplI at h
  split at h
  · rename_i x e1 h1
    split at h
    · rename_i i e2 h2
      split at h
      · rename_i h0
        split at h
        · rename_i z hz
          split at h
          · rename_i hb
            cases h
            exact ⟨x, e1, i, z, h1, h2, h0, hz, hb, rfl⟩
          · cases h
        · cases h
      · cases h
    · cases h
  · cases h
theorem emt_replI {o ix : Expr} {mo mi : MM D} {y : Str} {zs : List Str} {es : List Expr} {j : Nat} {cy lp sp apos pos : Pos} (ho : EM X cl o mo) (hi : EM X cl ix mi) (hnb : noneB X.K = true) (hsc : StrC X.env es zs) (hn : zs.length ≤ 1000 := by decide) (hix : PlainIx ix := by exact fun _ _ => rfl)
    (hst : starEach [.Constant (.str y) j cy, .Subscript (.List es lp) ix sp] X.env = [(false, eval (.Constant (.str y) j cy) X.env), (false, eval (.Subscript (.List es lp) ix sp) X.env)] := by rfl)
    (hbase : attributeBase o "replace" X.env (eval o X.env) = eval o X.env := by rfl) (hline : (apos.endLine == pos.line) = true := by rfl) :
    EMT X cl (.Call (.Attribute o "replace" apos) [.Constant (.str y) j cy, .Subscript (.List es lp) ix sp] [] pos) (mreplI mo mi y zs) := by
  intro pins s σ H Q h0 I q
  obtain ⟨F, J, env, ex, d, env', sr, hm, kq⟩ := q
  obtain ⟨x, e1, i, z, hm1, hm2, i0, hz, hb, rfl⟩ := mreplI_of hm
  refine PySem.Call_method2 hbase hst hline (thnT h0 (ho.run pins s σ H (fun v H1 => v = .str x ∧ ∃ I1, SR X.K cl F I1 H1 σ e1 ex ∧ Ex J I1) I ⟨F, J, env, ex, .str x, e1, sr, hm1, fun v I' H' s' e' r => ⟨(r.str_of rfl).1, I', s', e'⟩⟩) fun v s1 hk q => ?_)
  obtain ⟨v', H1, I1, r1, rfl, J1, sr1, ex1⟩ := q
  obtain ⟨tx, rfl⟩ := r1
  refine ⟨"str", _, PySem.F.plainAttrs_str, PySem.F.slot_str_replace, PySem.F.type_str_replace, typeIs_str _ _ _, (fun _ e => nomatch e), Calls.callWith_builtin rfl (Calls.evalArgs_plain (Calls.spliced_cons ?_))⟩
  refine Calls.Constant_str (Calls.spliced_cons (Subscript_ (wpAny_List_spliced (splC hsc fun us tk hu hle => ⟨by rw [hu.1]; exact Nat.le_trans hn (by decide), ?_⟩))))
  have hu : Tks (s1.toks + 1) zs us := hu
  have I2 : Inv X pins σ H1 { s1 with heap := s1.heap.push { cls := .type "list", data := .seq us.toArray }, toks := tk } := I1.kept (t' := tk) fun b ob q => Heap.get?_push_of_some _ q
  have hget : (s1.heap.push { cls := .type "list", data := .seq us.toArray }).get? s1.heap.objs.size = some { cls := .type "list", data := .seq us.toArray } := Heap.get?_push_size _ rfl
  have fok : ∀ b ∈ [s1.heap.objs.size], FpOk X pins H1 b := fun b hb => by
    rw [List.mem_singleton.mp hb]
    exact I1.fpOk (Nat.le_refl _) (I1.hok.fresh (Nat.le_refl _))
  have I3 := I2.pinned fok (fun b hb => by
    rw [List.mem_singleton.mp hb]
    exact ⟨_, hget, fun v z => nomatch z⟩)
  refine thn (hi.run _ _ σ H1 (fun v H2 => v = .int i ∧ ∃ I4, SR X.K cl F I4 H2 σ env' ex ∧ Ex J1 I4) I3 ⟨F, J1, e1, ex, .int i, env', sr1, hm2, fun v I' H' s' e' r => ⟨by cases r; rfl, I', s', e'⟩⟩) fun w s3 q => ?_
  obtain ⟨w', H3, I4, r3, rfl, J4, sr4, ex4⟩ := q
  obtain ⟨tw, rfl⟩ := r3
  have hg3 := (I4.pin (s1.heap.objs.size, _) (List.mem_append_right _ (List.mem_append_right _ (mem_pinsAt (List.mem_singleton.mpr rfl) hget)))).1
  have I5 : Inv X pins σ H3 s3 := I4.unpinned
  obtain ⟨t, h1, h2⟩ := hu.2 _ _ hz
  have h2 : s1.toks + 1 ≤ t := h2
  have hlt := (List.getElem?_eq_some_iff.mp hz).1
  have hl : s3.heap.IsList s1.heap.objs.size us.toArray := ⟨_, hg3, rfl, _, rfl⟩
  refine item_listR hl i0 (by omega) (by rw [List.getElem?_toArray]; exact h1) ?_ (hix _ _)
  refine Calls.spliced_nil ?_
  exact PySem.SC.replaceA (show s1.toks ≠ 0 by omega) (fun z => by rw [z] at h2; exact absurd h2 (Nat.not_succ_le_zero _)) (fun z => by rw [← z] at h2; exact absurd h2 (Nat.not_succ_le_self _)) (Nat.le_trans hb (by decide)) (fun t' k => ⟨.str (Txt.replace x y z), H3, I5.tok k, ⟨t', rfl⟩, kq _ J4 H3 sr4 (ex1.trans ex4) (.str _)⟩) (noneBooked I5 hnb)
/-! ### blocks -/
abbrev EST (X : Cx) (cl : Nat → Addr) (s : Stmt) (m : SM) : Prop := PST X s (tS X.K cl m)
abbrev ESsT (X : Cx) (cl : Nat → Addr) (s : List Stmt) (m : SM) : Prop := PSsT X s (tS X.K cl m)
variable {st : Stmt} {rest body : List Stmt} {sm sm1 sm2 : SM}
theorem pstzi {t t' : TS} (h : PST X st t) (k : ∀ D σ H, t' D σ H → t D σ H) : PST X st t' := fun pins s σ H D h0 I q => h pins s σ H D h0 I (k D σ H q)
theorem psstzi {t t' : TS} {ss : List Stmt} (h : PSsT X ss t) (k : ∀ D σ H, t' D σ H → t D σ H) : PSsT X ss t' := fun pins s σ H D h0 I q => h pins s σ H D h0 I (k D σ H q)
theorem est_of (h : ES X cl st sm) : EST X cl st sm := PST.of h
theorem esst_of {ss : List Stmt} (h : ESs X cl ss sm) : ESsT X cl ss sm := PSsT.of h
theorem esst_one (h : EST X cl st sm) : ESsT X cl [st] sm := CwR.psst_one h
theorem esst_cons (h : EST X cl st sm1) (k : ESsT X cl rest sm2) : ESsT X cl (st :: rest) (sseq sm1 sm2) := psstzi (psst_cons h k) fun Dn σ H q => by
  obtain ⟨F, I, env, ex, out, s, hm, k⟩ := q
  unfold sseq at hm
  split at hm
  · rename_i e1 h1
    exact ⟨F, I, env, ex, .nx e1, s, h1, fun σ' I' H' s' e' => ⟨F, I', e1, ex, out, s', hm, k.ex e'⟩⟩
  · rename_i hn
    refine ⟨F, I, env, ex, out, s, hm, ?_⟩
    cases out with
    | nx e1 => exact absurd hm (hn e1)
    | bk e1 => exact k
    | ct e1 => exact k
    | rt d e1 => exact k
end
end Zf

set_option Elab.async false
set_option linter.all false
set_option maxRecDepth 100000
set_option maxHeartbeats 1000000
/-! Zf, part 22: more of blocks behind which a token is out; a head that keeps the interpreter's own table. -/
namespace Zf
open PySem PySem.Spec L2 PyProof.Rows
section
variable {X : Cx} {cl : Nat → Addr} {e a b c : Expr} {ma mb : MM D} {ta : MM Bool} {p pos : Pos} {x : Str} {st : Stmt} {rest body : List Stmt} {sm sm1 sm2 : SM}
theorem pst_set {i : Nat} {te : TE} {pos' : Pos} (hN : X.N.Nodup) (hi : X.N[i]? = some x) (hx : Loc X.env.scope x) (he : PET X e te) (hs : swapsWith e (some (.Name x pos')) pos.line X.env = pure false := by rfl) (hf : X.fn x = true ∨ X.env.scope.names.lookup x = some .local := by first | exact .inl rfl | exact .inr rfl | assumption) :
    PST X (.Assign [.Name x pos'] e pos) (tAsg te (gName i)) := by
  intro pins s σ H D h0 I h
  refine wpAny_Assign_Name (thn (he pins s σ H _ h0 I h) fun v s1 ⟨y, H1, I1, r1, q1⟩ => ?_) hs
  exact store_ok I1 hN hi hx r1 (fun s2 I2 => ⟨_, H1, I2, q1⟩) hf
theorem est_set (i : Nat) {pos' : Pos} (hN : X.N.Nodup) (h : EMT X cl e ma) (hi : X.N[i]? = some x := by rfl) (hx : Loc X.env.scope x := by first | exact Or.inl rfl | exact Or.inr rfl)
    (hs : swapsWith e (some (.Name x pos')) pos.line X.env = pure false := by rfl) (hf : X.fn x = true ∨ X.env.scope.names.lookup x = some .local := by first | exact .inl rfl | exact .inr rfl) : EST X cl (.Assign [.Name x pos'] e pos) (sset i ma) := pstzi (pst_set (i := i) hN hi hx h hs hf) fun Dn σ H q => by
  obtain ⟨F, I, env, ex, out, s, hm, k⟩ := q
  unfold sset at hm
  split at hm
  · rename_i d e1 h1
    split at hm
    · rename_i ho
      cases hm
      exact ⟨F, I, env, ex, d, e1, s, h1, fun v I' H' s' e' r => k _ I' H' (s'.set ho r) e'⟩
    · cases hm
  · cases hm
theorem est_if (hc : EB X cl c ta) (ha : ESsT X cl rest sm1) (hb : ESsT X cl body sm2) : EST X cl (.If c rest body pos) (sif ta sm1 sm2) := pstzi (CwR.pst_if hc ha hb) fun Dn σ H q => by
  obtain ⟨F, I, env, ex, out, s, hm, k⟩ := q
  unfold sif at hm
  split at hm
  · rename_i e1 h1
    exact ⟨F, I, env, ex, true, e1, s, h1, fun I' H' s' e' => iteT ⟨F, I', e1, ex, out, s', hm, k.ex e'⟩⟩
  · rename_i e1 h1
    exact ⟨F, I, env, ex, false, e1, s, h1, fun I' H' s' e' => iteF ⟨F, I', e1, ex, out, s', hm, k.ex e'⟩⟩
  · cases hm
/-- for: the walk is ps_for's, with the tokens told -/
theorem pst_forB {tg iter : Expr} {wi : TI} {g : TG} {tb : TS} (hp : PassesOwn (model X.prog X.w) X.A X.env X.xe) (hc : X.calm = true) (hi : PI X tg iter wi) (hg : PG X tg g) (hb : PSsT X body tb)
    (hs : ∀ x, foldedSetIterable iter X.env x = pure x := by intro _; rfl) : PST X (.For tg iter body [] pos) (tFor wi g tb) := by
  intro pins s σ H D h0 I h
  refine wpAny_For (thnT h0 (hi.run pins s σ H _ I h) fun v s1 k1 h1 => thnT k1 h1 fun itv s2 k2 h2 => ?_) hs
  obtain ⟨it, fp, tn, J, H2, e, I2, T, st2, f2, W, ⟨m0, w0⟩, turn⟩ := h2
  subst e
  have stat : ∀ {H' : Hp}, (∀ b ∈ fp, H' b = none) → ∀ b ∈ fp, FpOk X pins H' b := fun hn b hb => ⟨hn b hb, (f2 b hb).2⟩
  refine codeAny_forLoop_any (fun n s' => 1 ≤ s'.toks ∧ ∃ i σ' H', Inv X pins σ' H' s' ∧ tn i s'.heap ∧ (∀ b ∈ fp, H' b = none) ∧ W i n σ' H') ?_ m0 ⟨k2, 0, σ, H2, I2, st2, fun b hb => (f2 b hb).1, w0⟩
  rintro n s3 ⟨k3, i, σ3, H3, I3, st3, fr3, w3⟩
  rcases turn i n σ3 H3 w3 with ⟨stop, qn⟩ | ⟨go, N, hN, step⟩
  · refine wpAny_passesOwn hp (thn (T.done X rfl rfl rfl hc i pins s3 σ3 H3 X.xe I3 (stat fr3) st3 stop) fun r s4 ⟨hr, I4⟩ => ?_)
    subst hr
    exact wpAny_execs_nil ⟨σ3, H3, I4, qn⟩
  · refine wpAny_passesOwn hp (thnT k3 (T.item X rfl rfl rfl hc i pins s3 σ3 H3 X.xe I3 (stat fr3) st3 go) fun r s4 k4 z => ?_)
    obtain ⟨u, hr, h4⟩ := z
    subst hr
    refine wpAny_passesOwn hp (thnT k4 h4 fun _ s5 k5 z => ?_)
    obtain ⟨x, H5, I5, r5, y5, st5, fr5⟩ := z
    have I5' := I5.pinned (stat fr5) (T.obj _ _ st5)
    refine wpAny_passesOwn hp (thnT k5 (hg.run _ s5 σ3 H5 x u _ I5' r5 (step x H5 y5)) fun _ s6 k6 z => ?_)
    obtain ⟨σ6, H6, I6, q6⟩ := z
    refine wpAny_passesOwn hp (thnT k6 (hb _ s6 σ6 H6 _ k6 I6 q6) fun f s7 k7 q7 => ?_)
    have again : ∀ {σ7 : L2.St} {H7 : Hp}, Inv X (pins ++ pinsAt fp s5.heap) σ7 H7 s7 → N σ7 H7 → ∃ m, m < n ∧ (1 ≤ s7.toks ∧ ∃ i σ' H', Inv X pins σ' H' s7 ∧ tn i s7.heap ∧ (∀ b ∈ fp, H' b = none) ∧ W i m σ' H') := fun {σ7 H7} I7 n7 => by
      obtain ⟨m', hm, w7⟩ := hN σ7 H7 n7
      refine ⟨m', hm, k7, i + 1, σ7, H7, I7.unpinned, T.keep _ _ _ st5 fun b hb o e => (I7.pin (b, o) (List.mem_append_right _ (List.mem_append_right _ (mem_pinsAt hb e)))).1, fun b hb => ?_, w7⟩
      obtain ⟨o, e, d⟩ := T.obj _ _ st5 b hb
      exact (I7.pin (b, o) (List.mem_append_right _ (List.mem_append_right _ (mem_pinsAt hb e)))).2.1
    cases f with
    | next => obtain ⟨σ7, H7, I7, n7⟩ := q7; exact again I7 n7
    | cont => obtain ⟨σ7, H7, I7, n7⟩ := q7; exact again I7 n7
    | brk => obtain ⟨σ7, H7, I7, q7⟩ := q7; exact ⟨σ7, H7, I7.unpinned, q7⟩
    | ret v => obtain ⟨x7, σ7, H7, I7, r7, q7⟩ := q7; exact ⟨x7, σ7, H7, I7.unpinned, r7, q7⟩
theorem est_for {tg it : Expr} {t : Tg} {mi : MM (List D)} (hi : EI X cl tg it mi) (hg : PG X tg (gR X.K t)) (hb : ESsT X cl body sm) (hs : ∀ x, foldedSetIterable it X.env x = pure x := by intro _; rfl) (hc : X.calm = true := by rfl) (hp : PassesOwn (model X.prog X.w) X.A X.env X.xe := by exact PassesOwn.never) : EST X cl (.For tg it body [] pos) (sfor t mi sm) := by
  refine pstzi (pst_forB hp hc hi hg hb hs) fun Dn σ H q => ?_
  obtain ⟨F, I, env, ex, out, s, hm, k⟩ := q
  unfold sfor at hm
  split at hm
  · rename_i ds e1 h1
    refine ⟨F, I, env, ex, ds, e1, s, h1, fun J I1 H1 s1 q1 wd => ?_⟩
    refine ⟨fun i m σ H => m = ds.length - i ∧ i ≤ ds.length ∧ ∃ I' ei, SR X.K cl F I' H σ ei ex ∧ Ex I1 I' ∧ forL t sm (ds.drop i) ei = some out, ⟨ds.length, by simp, Nat.zero_le _, I1, e1, s1, Ex.refl _, hm⟩, ?_⟩
    rintro i m σ H ⟨rfl, hi, I', ei, s', q', hf⟩
    by_cases hlt : i < ds.length
    · right
      refine ⟨wd.go i H hlt (q'.trans s'.ih), fun σ2 H2 => ∃ I2 e2, SR X.K cl F I2 H2 σ2 e2 ex ∧ Ex I1 I2 ∧ forL t sm (ds.drop (i + 1)) e2 = some out, fun σ2 H2 ⟨I2, e2, s2, q2, h2⟩ => ⟨ds.length - (i + 1), by omega, rfl, hlt, I2, e2, s2, q2, h2⟩, fun x H2 hy => ?_⟩
      obtain ⟨I2, d, hd, g, r⟩ := wd.yld i I' H x H2 hlt q' s'.ih hy
      have e : ds.drop i = d :: ds.drop (i + 1) := by
        rw [List.drop_eq_getElem_cons hlt]
        congr
        have := List.getElem?_eq_getElem hlt
        rw [hd] at this
        exact (Option.some.inj this).symm
      rw [e] at hf
      simp only [forL] at hf
      split at hf
      · rename_i e2 h2
        refine (s'.gr g).tg r h2 fun σ3 s3 _ => ?_
        have q3 : Ex I1 I2 := q'.trans g.i
        split at hf
        · rename_i e3 h3
          exact ⟨F, I2, e2, ex, .nx e3, s3, h3, fun σ4 I4 H4 s4 q4 => ⟨I4, e3, s4, q3.trans q4, hf⟩⟩
        · rename_i e3 h3
          exact ⟨F, I2, e2, ex, .ct e3, s3, h3, fun σ4 I4 H4 s4 q4 => ⟨I4, e3, s4, q3.trans q4, hf⟩⟩
        · rename_i e3 h3
          cases hf
          exact ⟨F, I2, e2, ex, .bk e3, s3, h3, fun σ4 I4 H4 s4 q4 => k σ4 I4 H4 s4 ((q1.trans q3).trans q4)⟩
        · rename_i r2 e3 h3
          cases hf
          exact ⟨F, I2, e2, ex, .rt r2 e3, s3, h3, fun v σ4 I4 H4 s4 q4 r4 => k v σ4 I4 H4 s4 ((q1.trans q3).trans q4) r4⟩
        · cases hf
      · cases hf
    · left
      have e : i = ds.length := by omega
      subst e
      rw [List.drop_length] at hf
      cases hf
      exact ⟨wd.stop H (q'.trans s'.ih), k σ I' H s' (q1.trans q')⟩
  · cases hm
/-- x = '..', and a token is out -/
theorem ess_strT (i : Nat) {j : Nat} {c : Str} {cpos pos' : Pos} (hN : X.N.Nodup) (h : ESsT X cl rest sm) (hi : X.N[i]? = some x := by rfl) (hx : Loc X.env.scope x := by first | exact Or.inl rfl | exact Or.inr rfl)
    (hs : swapsWith (.Constant (.str c) j cpos) (some (.Name x pos')) pos.line X.env = pure false := by rfl) (hf : X.fn x = true ∨ X.env.scope.names.lookup x = some .local := by first | exact .inl rfl | exact .inr rfl) : ESs X cl (.Assign [.Name x pos'] (.Constant (.str c) j cpos) pos :: rest) (sseq (sset i (mc (.str c))) sm) := (pss_str hN hi hx h hs hf).zi fun Dn σ H q => by
  obtain ⟨F, I, env, ex, out, s, hm, k⟩ := q
  unfold sseq sset mc at hm
  dsimp only at hm
  split at hm
  · rename_i e1 h1
    split at h1
    · rename_i ho
      cases h1
      exact ⟨F, I, _, ex, out, s.set ho (.str c), hm, k⟩
    · cases h1
  · rename_i hn
    split at hm
    · rename_i ho
      exact absurd (if_pos ho) (hn _)
    · cases hm
theorem ess_docT {z : Str} {j : Nat} {p' : Pos} (h : ESsT X cl rest sm) : ESs X cl (.Expr (.Constant (.str z) j p) p' :: rest) (sseq snx sm) := (CwR.pss_docT h).zi fun Dn σ H q => q
end
/-! ### the head -/
def obsY (n : Nat) (fa : List He.Fa) (fn : List He.DefD) (ts : List He.Tab) (ex : PySem.W.Frag → Bool) (g : Addr → Option Obj) : He.AlX := (He.obsT fa fn ts (He.frT g (He.asD g n ++ [cStatics])), ex (He.frT g (He.asD g n ++ [cStatics])))
def hookY (n : Nat) (fa : List He.Fa) (fn : List He.DefD) (ts : List He.Tab) (ex : PySem.W.Frag → Bool) : PySem.W.Hook where
  α := He.AlX
  obs := fun s => obsY n fa fn ts ex s.heap.get?
  val := fun w => He.valX fn ts w
  says := fun w h => ∃ K : PySem.W.Frag, K.In h ∧ He.SaysX fa fn ts [] ex w h K
  of := fun _ _ e => ⟨_, He.frT_in, congrArg (fun z : He.AlX => z.1) e, congrArg (fun z : He.AlX => z.2) e, (fun _ h => nomatch h), (fun _ h => nomatch h), (fun _ h => nomatch h)⟩
  keeps := (He.hookX n fa fn ts [] ex).keeps
theorem obsY_eq {n : Nat} {fa : List He.Fa} {fn : List He.DefD} {ts : List He.Tab} {ex : PySem.W.Frag → Bool} {g : Addr → Option Obj} {s : Shared} (h : ∀ a, g a = s.heap.get? a) : obsY n fa fn ts ex g = (hookY n fa fn ts ex).obs s := by
  have e : g = s.heap.get? := funext h
  rw [e] <;> rfl
end Zf

set_option Elab.async false
set_option linter.all false
/-! texts as rows of signs -/
namespace Zf
open PySem PySem.Spec L2 PySem.Builtin PySem.Builtin.Str
def ml (l : List Nat) : Str := ⟨l.toArray⟩
theorem ml_ls (x : Str) : ml x.cps.toList = x := rfl
theorem ls_ml (l : List Nat) : (ml l).cps.toList = l := rfl
theorem str_ext {x y : Str} (h : x.cps.toList = y.cps.toList) : x = y := by
  rw [← ml_ls x, ← ml_ls y, h]
theorem ls_app (x y : Str) : (x ++ y).cps.toList = x.cps.toList ++ y.cps.toList := by
  show (x.cps ++ y.cps).toList = _
  simp
theorem ls_len (x : Str) : x.cps.toList.length = x.length := by simp [Str.length]
theorem ml_len (l : List Nat) : (ml l).length = l.length := by simp [ml, Str.length]
theorem ml_app (a b : List Nat) : ml a ++ ml b = ml (a ++ b) := str_ext (by rw [ls_app]; rfl)
theorem ml_inj {a b : List Nat} : ml a = ml b ↔ a = b := ⟨fun h => by have := congrArg (fun x : Str => x.cps.toList) h; exact this, fun h => h ▸ rfl⟩
def sp (c : Nat) : List Nat → List (List Nat)
  | [] => [[]]
  | d :: l => if d = c then [] :: sp c l else (match sp c l with
    | p :: r => (d :: p) :: r
    | [] => [[d]])
def jn (s : List Nat) : List (List Nat) → List Nat
  | [] => []
  | [p] => p
  | p :: q :: r => p ++ s ++ jn s (q :: r)
theorem jn_cons (s p : List Nat) {r : List (List Nat)} (h : r ≠ []) : jn s (p :: r) = p ++ s ++ jn s r := by
  cases r with
  | nil => exact absurd rfl h
  | cons => rfl
theorem jn_nil : ∀ ps : List (List Nat), jn [] ps = ps.flatten
  | [] => rfl
  | [p] => by simp [jn]
  | p :: q :: r => by simp only [jn, List.append_nil, List.flatten_cons, jn_nil (q :: r)]
theorem ls_join (y : Str) : ∀ ps : List Str, (Str.join y ps).cps.toList = jn y.cps.toList (ps.map (·.cps.toList))
  | [] => rfl
  | [p] => rfl
  | p :: q :: r => by
    show (p ++ y ++ Str.join y (q :: r)).cps.toList = _
    rw [ls_app, ls_app, ls_join y (q :: r)]
    rfl
theorem txt_join (y : Str) (ps : List Str) : Txt.join y ps = ml (jn y.cps.toList (ps.map (·.cps.toList))) := by
  show glued y ps = _
  rw [StrLaws.glued_eq_join]
  exact str_ext (ls_join y ps)
theorem sp_ne (c : Nat) (l : List Nat) : sp c l ≠ [] := by
  cases l with
  | nil => simp [sp]
  | cons d l =>
    unfold sp
    split
    · simp
    · split <;> simp
theorem sp_free {c : Nat} : ∀ {p : List Nat}, c ∉ p → sp c p = [p]
  | [], _ => rfl
  | d :: p, h => by
    rw [List.mem_cons, not_or] at h
    unfold sp
    rw [if_neg (fun e => h.1 e.symm), sp_free h.2]
theorem sp_app {c : Nat} {l : List Nat} : ∀ {p : List Nat}, c ∉ p → sp c (p ++ c :: l) = p :: sp c l
  | [], _ => by simp [sp]
  | d :: p, h => by
    rw [List.mem_cons, not_or] at h
    show sp c (d :: (p ++ c :: l)) = _
    rw [sp, if_neg (fun e => h.1 e.symm), sp_app h.2]
theorem sp_jn {c : Nat} : ∀ ps : List (List Nat), ps ≠ [] → (∀ p ∈ ps, c ∉ p) → sp c (jn [c] ps) = ps
  | [], h, _ => absurd rfl h
  | [p], _, h => sp_free (h p (List.mem_singleton.mpr rfl))
  | p :: q :: r, _, h => by
    have e : jn [c] (p :: q :: r) = p ++ c :: jn [c] (q :: r) := by simp [jn]
    rw [e, sp_app (h p List.mem_cons_self), sp_jn (q :: r) (by simp) (fun z hz => h z (List.mem_cons_of_mem _ hz))]
theorem split_eq (x : Str) (c : Nat) : Txt.split x ⟨#[c]⟩ = (sp c x.cps.toList).map ml := by
  have h1 := StrLaws.join_split x ⟨#[c]⟩
  have h2 := StrLaws.split_free x c
  have h3 := PyProof.Rows.split_pos x ⟨#[c]⟩
  obtain ⟨ps, hp⟩ : ∃ ps, ps = Txt.split x ⟨#[c]⟩ := ⟨_, rfl⟩
  rw [← hp] at h1 h2 h3 ⊢
  have h4 := ls_join ⟨#[c]⟩ ps
  rw [h1] at h4
  have h5 := sp_jn (c := c) (ps.map (·.cps.toList)) (by cases ps with
    | nil => simp at h3
    | cons => simp) (by
      intro p hp
      obtain ⟨q, hq, rfl⟩ := List.mem_map.mp hp
      exact h2 q hq)
  rw [h4]
  show ps = (sp c (jn [c] _)).map ml
  rw [h5, List.map_map]
  exact (List.map_id' ps).symm.trans (List.map_congr_left fun a _ => (ml_ls a).symm)
theorem sp_head (c : Nat) : ∀ l : List Nat, ∃ r, sp c l = l.takeWhile (fun d => !decide (d = c)) :: r
  | [] => ⟨[], rfl⟩
  | d :: l => by
    obtain ⟨r, h⟩ := sp_head c l
    unfold sp
    by_cases q : d = c
    · exact ⟨sp c l, by rw [if_pos q, List.takeWhile_cons]; simp [q]⟩
    · exact ⟨r, by rw [if_neg q, h, List.takeWhile_cons]; simp [q]⟩
/-- what stands behind the last c -/
def lastP (c : Nat) : List Nat → List Nat := List.foldl (fun a d => if d = c then [] else a ++ [d]) []
theorem sp_last_go (c : Nat) : ∀ (l a : List Nat), c ∉ a → (sp c (a ++ l)).getLast? = some (l.foldl (fun a d => if d = c then [] else a ++ [d]) a)
  | [], a, h => by rw [List.append_nil, sp_free h]; rfl
  | d :: l, a, h => by
    by_cases q : d = c
    · subst q
      have ih := sp_last_go d l [] (by simp)
      rw [sp_app h, List.foldl_cons, if_pos rfl, ← ih]
      rw [List.getLast?_cons, List.nil_append]
      cases e : (sp d l).getLast? with
      | none => exact absurd (List.getLast?_eq_none_iff.mp e) (sp_ne d l)
      | some z => simp
    · have ih := sp_last_go c l (a ++ [d]) (by simp [h]; exact fun e => q e.symm)
      rw [List.foldl_cons, if_neg q, ← ih, List.append_assoc]
      rfl
theorem sp_last (c : Nat) (l : List Nat) : (sp c l).getLast? = some (lastP c l) := sp_last_go c l [] (by simp)
theorem at_neg1 {xs : List D} {d : D} (h : xs.getLast? = some d) : atD xs (-1) = some d := by
  unfold atD ixN
  rw [List.getLast?_eq_getElem?] at h
  have hp : 0 < xs.length := by
    cases xs with
    | nil => simp at h
    | cons => simp
  have h1 : -(xs.length : Int) ≤ -1 := by omega
  have h2 : (-1 + (xs.length : Int)).toNat = xs.length - 1 := by omega
  rw [if_neg (by decide), if_pos h1, Option.bind_some, h2, h]
theorem at_0 {x : D} {xs : List D} : atD (x :: xs) 0 = some x := by
  unfold atD ixN
  rw [if_pos (by decide), if_pos (by simp)]
  rfl
theorem at_nat {xs : List D} {i : Int} (h0 : 0 ≤ i) (h1 : i < xs.length) : ∃ x, atD xs i = some x ∧ x ∈ xs ∧ xs[i.toNat]? = some x := by
  have h2 : i.toNat < xs.length := by omega
  refine ⟨xs[i.toNat], ?_, List.getElem_mem h2, List.getElem?_eq_getElem h2⟩
  unfold atD ixN
  rw [if_pos h0, if_pos h1, Option.bind_some, List.getElem?_eq_getElem h2]
/-- the words of text as the mirrors want them -/
theorem splitM_one {z : Str} {c : Nat} (h : z.length ≤ 1000000) : splitM z [.str ⟨#[c]⟩] = some ((sp c z.cps.toList).map fun l => .str (ml l)) := by
  show (if _ then _ else _) = _
  rw [if_pos ⟨Nat.one_ne_zero, h⟩, split_eq, List.map_map]
  rfl
theorem subS_one {z : Str} {c : Nat} : subS ⟨#[c]⟩ z = decide (c ∈ z.cps.toList) := rfl
theorem joinM_lst {z : Str} {ys : List Str} (h : (ys.map (·.length)).sum + ys.length * z.length ≤ 10000000) : joinM z [.lst (ys.map .str)] = some (.str (ml (jn z.cps.toList (ys.map (·.cps.toList))))) := by
  unfold joinM
  simp only [strsD_map, if_pos h, txt_join]
/-! loops -/
theorem forL_inv {t : Tg} {mb : SM} (P : Nat → En → Prop) : ∀ (xs : List D) (k : Nat) (e : En), P k e → (∀ (i : Nat) (x : D) (e : En), xs[i]? = some x → P (k + i) e → ∃ e1 e2, mtg t x e = some e1 ∧ (mb e1 = some (.nx e2) ∨ mb e1 = some (.ct e2)) ∧ P (k + i + 1) e2) → ∃ e', forL t mb xs e = some (.nx e') ∧ P (k + xs.length) e'
  | [], k, e, h, _ => ⟨e, rfl, h⟩
  | x :: xs, k, e, h, s => by
    obtain ⟨e1, e2, h1, h2, h3⟩ := s 0 x e rfl h
    obtain ⟨e', h4, h5⟩ := forL_inv P xs (k + 1) e2 h3 (fun i y e hi hp => by
      have := s (i + 1) y e hi (by rw [Nat.add_comm i 1, ← Nat.add_assoc]; exact hp)
      rw [show k + (i + 1) + 1 = k + 1 + i + 1 by omega] at this
      exact this)
    refine ⟨e', ?_, by rw [List.length_cons, show k + (xs.length + 1) = k + 1 + xs.length by omega]; exact h5⟩
    rcases h2 with h2 | h2 <;> simp only [forL, h1, h2, h4]
theorem lcL_inv {t : Tg} {own : List Nat} {mt : MM Bool} {me : MM D} (P : Nat → En → Prop) (Q : Nat → D → Prop) : ∀ (xs : List D) (k : Nat) (e : En), P k e → (∀ (i : Nat) (x : D) (e : En), xs[i]? = some x → P (k + i) e → ∃ e1 e2 e3 y, mtg t x e = some e1 ∧ mt e1 = some (true, e2) ∧ me e2 = some (y, e3) ∧ okW e3 own = true ∧ P (k + i + 1) (wipeE e3 own) ∧ Q (k + i) y) → ∃ ys e', lcL t own mt me xs e = some (ys, e') ∧ P (k + xs.length) e' ∧ ys.length = xs.length ∧ ∀ i y, ys[i]? = some y → Q (k + i) y
  | [], k, e, h, _ => ⟨[], e, rfl, h, rfl, fun i y h => by simp at h⟩
  | x :: xs, k, e, h, s => by
    obtain ⟨e1, e2, e3, y, h1, h2, h3, h4, h5, h6⟩ := s 0 x e rfl h
    obtain ⟨ys, e', h7, h8, h9, h10⟩ := lcL_inv P Q xs (k + 1) _ h5 (fun i y e hi hp => by
      have := s (i + 1) y e hi (by rw [Nat.add_comm i 1, ← Nat.add_assoc]; exact hp)
      rw [show k + (i + 1) + 1 = k + 1 + i + 1 by omega, show k + (i + 1) = k + 1 + i by omega] at this
      exact this)
    refine ⟨y :: ys, e', ?_, by rw [List.length_cons, show k + (xs.length + 1) = k + 1 + xs.length by omega]; exact h8, by simp [h9], ?_⟩
    · simp only [lcL, h1, h2, h3, if_pos h4, h7]
    · intro i z hi
      cases i with
      | zero => simp at hi; subst hi; exact h6
      | succ i =>
        have := h10 i z (by simpa using hi)
        rw [show k + (i + 1) = k + 1 + i by omega]
        exact this
/-! what may be overwritten -/
def okM : Sl → Bool
  | .mu true _ => false
  | _ => true
def okN : Sl → Bool
  | .mu _ _ => false
  | _ => true
theorem okS_s {env : En} {i : Nat} : okS env i = (match env[i]? with
  | some s => okM s
  | none => false) := by
  unfold okS
  by_cases h : i < env.length
  · rw [List.getElem?_eq_getElem h]; simp only [h, decide_true, Bool.true_and]
    cases env[i] with
    | mu p m => cases p <;> rfl
    | _ => rfl
  · rw [List.getElem?_eq_none (by omega)]; simp [h]
theorem okW_nil {e : En} : okW e [] = true := rfl
theorem okW_cons {e : En} {i : Nat} {r : List Nat} : okW e (i :: r) = ((match e[i]? with
  | some s => okN s
  | none => true) && okW e r) := by
  show ((match e[i]? with
  | some (.mu _ _) => false
  | _ => true) && _) = _
  cases e[i]? with
  | none => rfl
  | some s => cases s <;> rfl
theorem okM_no : okM .no = true := rfl
theorem okM_im {d : D} : okM (.im d) = true := rfl
theorem okM_mf {m : Mu} : okM (.mu false m) = true := rfl
theorem okM_mt {m : Mu} : okM (.mu true m) = false := rfl
theorem okN_no : okN .no = true := rfl
theorem okN_im {d : D} : okN (.im d) = true := rfl
theorem okN_mu {p : Bool} {m : Mu} : okN (.mu p m) = false := rfl
/-! more of texts -/
theorem s_assoc (a b c : Str) : a ++ b ++ c = a ++ (b ++ c) := str_ext (by simp only [ls_app, List.append_assoc])
theorem s_nil (a : Str) : a ++ ("" : Str) = a := str_ext (by rw [ls_app]; exact List.append_nil _)
theorem s_nil' (a : Str) : ("" : Str) ++ a = a := str_ext (by rw [ls_app]; rfl)
theorem s_len (a b : Str) : (a ++ b).length = a.length + b.length := Str.length_append a b
theorem s_empty {a : Str} : a = ("" : Str) ↔ a.cps.toList = [] := ⟨fun h => h ▸ rfl, fun h => str_ext h⟩
theorem ends_one (z : Str) (c : Nat) : Txt.endswith z ⟨#[c]⟩ = decide (z.cps.toList.getLast? = some c) := by
  unfold Txt.endswith
  rw [StrLaws.subAt_eq, List.getLast?_eq_getElem?, ls_len]
  have hl : (⟨#[c]⟩ : Str).length = 1 := rfl
  rw [hl]
  cases q : z.cps.toList with
  | nil =>
    have : z.length = 0 := by rw [← ls_len, q]; rfl
    simp [this]
  | cons a l =>
    have h1 : z.length = l.length + 1 := by rw [← ls_len, q]; rfl
    rw [h1]
    have h2 : (a :: l)[l.length]? = some ((a :: l).getLast (by simp)) := by
      have e := List.getLast?_eq_getElem? (l := a :: l)
      rw [List.getLast?_eq_getLast (by simp)] at e
      exact e.symm
    have h3 : ((a :: l).drop l.length).take 1 = [(a :: l).getLast (by simp)] := by
      rw [List.take_one]
      rw [List.head?_drop, h2]
      rfl
    have h4 : l.length + 1 - 1 = l.length := by omega
    rw [h4, h2, h3]
    simp
    rfl
theorem atS_neg1 {z : Str} {c : Nat} (hl : z.length ≤ 100000) (h : z.cps.toList.getLast? = some c) : ixD (.str z) (.int (-1)) = some (.str ⟨#[c]⟩) := by
  have hp : 0 < z.cps.toList.length := by
    cases q : z.cps.toList with
    | nil => rw [q] at h; cases h
    | cons => simp
  rw [List.getLast?_eq_getElem?] at h
  show (if _ then _ else _) = _
  rw [if_pos hl]
  unfold atI ixN
  rw [if_neg (by decide), if_pos (by omega), Option.bind_some, show (-1 + (z.cps.toList.length : Int)).toNat = z.cps.toList.length - 1 by omega, h]
theorem sseq_nx {a b : SM} {e e1 : En} {r : Option Out} (h : a e = some (.nx e1)) (k : b e1 = r) : sseq a b e = r := by
  unfold sseq; rw [h]; exact k
theorem sif_t {t : MM Bool} {a b : SM} {e e1 : En} (h : t e = some (true, e1)) : sif t a b e = a e1 := by unfold sif; rw [h]
theorem sif_f {t : MM Bool} {a b : SM} {e e1 : En} (h : t e = some (false, e1)) : sif t a b e = b e1 := by unfold sif; rw [h]
theorem rng1_n {n : Int} (h0 : 0 ≤ n) (h : n ≤ 1000000) : rng1D [.int n] = some (rngD 0 n.toNat) := if_pos ⟨by omega, by omega⟩
theorem rng_len {a : Int} {n : Nat} : (rngD a n).length = n := by simp [rngD]
theorem rng_at {n i : Nat} {x : D} (h : (rngD 0 n)[i]? = some x) : x = .int i ∧ i < n := by
  unfold rngD at h
  rw [List.getElem?_map] at h
  by_cases q : i < n
  · rw [List.getElem?_range q] at h
    simp at h
    exact ⟨h.symm, q⟩
  · rw [List.getElem?_eq_none (by simp; omega)] at h
    cases h
theorem signs_at {z : Str} {i : Nat} {x : D} (h : (signsD z)[i]? = some x) : ∃ c, z.cps.toList[i]? = some c ∧ x = .str ⟨#[c]⟩ ∧ i < z.length := by
  rw [signsD, List.getElem?_map] at h
  cases q : z.cps.toList[i]? with
  | none => rw [q] at h; cases h
  | some c => rw [q] at h; cases h; exact ⟨c, rfl, rfl, by rw [← ls_len]; exact (List.getElem?_eq_some_iff.mp q).1⟩
/-! comprehensions that only read -/
theorem set_no {e : En} {i : Nat} {s : Sl} (h : e[i]? = some .no) : (e.set i s).set i .no = e := by
  rw [List.set_set]
  have hl := (List.getElem?_eq_some_iff.mp h)
  obtain ⟨hl, he⟩ := hl
  have : e.set i e[i] = e := List.set_getElem_self hl
  rw [he] at this
  exact this
theorem lcL_fm {i : Nat} {mt : MM Bool} {me : MM D} {e : En} (hi : e[i]? = some .no) (p : D → Bool) (f : D → D) : ∀ ds : List D, (∀ d ∈ ds, mt (e.set i (.im d)) = some (p d, e.set i (.im d)) ∧ (p d = true → me (e.set i (.im d)) = some (f d, e.set i (.im d)))) → lcL (.one i) [i] mt me ds e = some ((ds.filter p).map f, e)
  | [], _ => rfl
  | d :: ds, h => by
    have hl := (List.getElem?_eq_some_iff.mp hi).1
    obtain ⟨h1, h2⟩ := h d List.mem_cons_self
    have ih := lcL_fm hi p f ds (fun x hx => h x (List.mem_cons_of_mem _ hx))
    have ho : okS e i = true := by rw [okS_s, hi]; rfl
    have hw : okW (e.set i (.im d)) [i] = true := by rw [okW_cons, List.getElem?_set_self hl, okW_nil]; rfl
    have hp : wipeE (e.set i (.im d)) [i] = e := set_no hi
    simp only [lcL, mtg, if_pos ho, h1]
    cases q : p d with
    | true => simp only [h2 q, if_pos hw, hp, ih, List.filter_cons, q, if_true, List.map_cons]
    | false => simp only [if_pos hw, hp, ih, List.filter_cons, q]; rfl
theorem mlc_fm {i : Nat} {mi : MM (List D)} {mt : MM Bool} {me : MM D} {e : En} {ds : List D} (p : D → Bool) (f : D → D) (hm : mi e = some (ds, e)) (hn : ds.length ≤ 100000) (hi : e[i]? = some .no) (h : ∀ d ∈ ds, mt (e.set i (.im d)) = some (p d, e.set i (.im d)) ∧ (p d = true → me (e.set i (.im d)) = some (f d, e.set i (.im d)))) :
    mlc (.one i) [i] mi mt me e = some ((ds.filter p).map f, e) := by
  have hw : okW e [i] = true := by rw [okW_cons, hi, okW_nil]; rfl
  have hp : wipeE e [i] = e := by
    have := set_no (s := .no) hi
    rw [List.set_set] at this
    exact this
  unfold mlc
  simp only [hm, if_pos (And.intro hn hw), hp, lcL_fm hi p f ds h]
theorem mlc_m {i : Nat} {mi : MM (List D)} {me : MM D} {e : En} {ds : List D} (f : D → D) (hm : mi e = some (ds, e)) (hn : ds.length ≤ 100000) (hi : e[i]? = some .no) (h : ∀ d ∈ ds, me (e.set i (.im d)) = some (f d, e.set i (.im d))) :
    mlc (.one i) [i] mi mtrue me e = some (ds.map f, e) := by
  have := mlc_fm (fun _ => true) f hm hn hi (mt := mtrue) (fun d hd => ⟨rfl, fun _ => h d hd⟩)
  have e2 : ds.filter (fun _ => true) = ds := List.filter_eq_self.mpr fun _ _ => rfl
  rw [e2] at this
  exact this
/-! times -/
theorem fold_app (x : Array Nat) : ∀ (n : Nat) (a : Array Nat), ((List.replicate n x).foldl (· ++ ·) a).toList = a.toList ++ (List.replicate n x.toList).flatten
  | 0, a => by simp
  | n + 1, a => by
    rw [List.replicate_succ, List.foldl_cons, fold_app x n, List.replicate_succ, List.flatten_cons]
    simp
theorem ls_mul (x : Str) (n : Int) : (Txt.mul x n).cps.toList = (List.replicate n.toNat x.cps.toList).flatten := by
  unfold Txt.mul
  split
  · have : n.toNat = 0 := by omega
    rw [this]; rfl
  · split
    · rename_i h1 h
      rw [Bool.or_eq_true, beq_iff_eq, beq_iff_eq] at h
      rcases h with h | h
      · subst h; simp
      · have : x.cps.toList = [] := List.eq_nil_of_length_eq_zero (by rw [ls_len]; exact h)
        rw [this]
        simp
    · exact (fold_app x.cps n.toNat #[]).trans rfl
theorem mul_one (c : Nat) (n : Int) : Txt.mul ⟨#[c]⟩ n = ml (List.replicate n.toNat c) := str_ext (by
  rw [ls_mul]
  show (List.replicate n.toNat [c]).flatten = List.replicate n.toNat c
  induction n.toNat with
  | zero => rfl
  | succ k ih => rw [List.replicate_succ, List.flatten_cons, ih, List.replicate_succ]; rfl)
/-! strips -/
theorem drop_tw (g : Nat → Bool) : ∀ l : List Nat, l.drop (l.takeWhile g).length = l.dropWhile g
  | [] => rfl
  | d :: l => by
    rw [List.takeWhile_cons, List.dropWhile_cons]
    cases q : g d with
    | true => simpa using drop_tw g l
    | false => simp
theorem tw_le (g : Nat → Bool) : ∀ l : List Nat, (l.takeWhile g).length ≤ l.length
  | [] => Nat.le_refl _
  | d :: l => by
    rw [List.takeWhile_cons]
    split
    · exact Nat.succ_le_succ (tw_le g l)
    · exact Nat.zero_le _
def trimR (g : Nat → Bool) (l : List Nat) : List Nat := (l.reverse.dropWhile g).reverse
theorem take_trim (g : Nat → Bool) (l : List Nat) : l.take (l.length - (l.reverse.takeWhile g).length) = trimR g l := by
  unfold trimR
  rw [← drop_tw g l.reverse, List.reverse_drop, List.reverse_reverse]
  simp
theorem ls_strip (g : Nat → Bool) (l r : Bool) (x : Str) : (Txt.stripBy g l r x).cps.toList = (let d := if l then x.cps.toList.dropWhile g else x.cps.toList; if r then trimR g d else d) := by
  rw [PySem.W.stripBy_eq x g l r]
  unfold W.stripped
  have hx := ls_len x
  have hn := tw_le g x.cps.toList
  cases l with
  | false =>
    cases r with
    | false =>
      simp only [StrLaws.strSub_toList, Bool.false_eq_true, if_false, List.drop_zero, Nat.sub_zero]
      exact List.take_of_length_le (by rw [hx]; exact Nat.le_refl _)
    | true =>
      simp only [StrLaws.strSub_toList, Bool.false_eq_true, if_false, if_true, List.drop_zero, Nat.sub_zero]
      rw [← hx]; exact take_trim g _
  | true =>
    cases r with
    | false =>
      simp only [StrLaws.strSub_toList, Bool.false_eq_true, if_false, if_true]
      rw [drop_tw, List.take_of_length_le]
      rw [← drop_tw, List.length_drop, hx]
      exact Nat.le_refl _
    | true =>
      simp only [StrLaws.strSub_toList, if_true]
      rw [← drop_tw g x.cps.toList, ← take_trim]
      congr 1
      rw [List.length_drop, hx]
      omega
/-! equal lists -/
theorem toPs_ints : ∀ ns : List Int, toPs (ns.map D.int) = some (ns.map PyData.int)
  | [] => rfl
  | n :: ns => by simp [toPs, toP, toPs_ints ns]
theorem toPs_strs : ∀ ns : List Str, toPs (ns.map D.str) = some (ns.map PyData.str)
  | [] => rfl
  | n :: ns => by simp [toPs, toP, toPs_strs ns]
theorem eqv_ints : ∀ xs ys : List Int, PyData.eqvAll (xs.map .int) (ys.map .int) = decide (xs = ys)
  | [], [] => rfl
  | x :: xs, [] => rfl
  | [], y :: ys => rfl
  | x :: xs, y :: ys => by
    show (PyData.eqv (.int x) (.int y) && PyData.eqvAll _ _) = _
    rw [eqv_ints xs ys]
    show ((x == y) && _) = _
    rw [Bool.eq_iff_iff]
    simp
theorem eqv_strs : ∀ xs ys : List Str, PyData.eqvAll (xs.map .str) (ys.map .str) = decide (xs = ys)
  | [], [] => rfl
  | x :: xs, [] => rfl
  | [], y :: ys => rfl
  | x :: xs, y :: ys => by
    show (PyData.eqv (.str x) (.str y) && PyData.eqvAll _ _) = _
    rw [eqv_strs xs ys]
    show ((x == y) && _) = _
    rw [Bool.eq_iff_iff]
    simp
theorem eqB_ints (xs ys : List Int) : eqB (.lst (xs.map .int)) (.lst (ys.map .int)) = some (decide (xs = ys)) := by
  show (match toP _, toP _ with
    | some p, some q => if SeqAt.shaped p && SeqAt.shaped q then some (PyData.eqv p q) else none
    | _, _ => none) = _
  simp only [toP, toPs_ints]
  rw [shaped_ints, shaped_ints]
  show some (PyData.eqvAll _ _) = _
  rw [eqv_ints]
theorem eqD_ints (xs ys : List Int) : eqD (.lst (xs.map .int)) (.lst (ys.map .int)) = some (.bl (decide (xs = ys))) := by unfold eqD; rw [eqB_ints]
theorem neD_ints (xs ys : List Int) : neD (.lst (xs.map .int)) (.lst (ys.map .int)) = some (.bl (!decide (xs = ys))) := by unfold neD; rw [eqB_ints]
theorem swhile_f {t : MM Bool} {mb : SM} {n : Nat} {e e1 : En} (h : t e = some (false, e1)) : swhile t mb (n + 1) e = some (.nx e1) := by unfold swhile; rw [h]
theorem swhile_t {t : MM Bool} {mb : SM} {n : Nat} {e e1 e2 : En} (h : t e = some (true, e1)) (h2 : mb e1 = some (.nx e2)) : swhile t mb (n + 1) e = swhile t mb n e2 := by
  conv => lhs; unfold swhile
  rw [h]; simp only [h2]
def OkS (xs : List Str) : Prop := ∀ s ∈ xs, PyData.strOk s = true
theorem shaped_strs (ns : List Str) (hn : OkS ns) : SeqAt.shaped (.list (ns.map PyData.str)) = true := by
  unfold SeqAt.shaped
  rw [Bool.and_eq_true]
  constructor
  · have : ∀ ns : List Str, OkS ns → PyData.canLayAll0 (ns.map PyData.str) = true := fun ns hn => by
      induction ns with
      | nil => rfl
      | cons n ns ih => simp [PyData.canLayAll0, PyData.canLay0, ih (fun s hs => hn s (List.mem_cons_of_mem _ hs)), hn n List.mem_cons_self]
    simp [PyData.canLay0, this ns hn]
  · have : ∀ ns : List Str, PyData.depthAll (ns.map PyData.str) ≤ 1 := fun ns => by
      induction ns with
      | nil => simp [PyData.depthAll]
      | cons n ns ih => simp [PyData.depthAll, PyData.depth]; omega
    have h := this ns
    simp [PyData.depth]
    omega
theorem eqB_strs (xs ys : List Str) (hx : OkS xs) (hy : OkS ys) : eqB (.lst (xs.map .str)) (.lst (ys.map .str)) = some (decide (xs = ys)) := by
  show (match toP _, toP _ with
    | some p, some q => if SeqAt.shaped p && SeqAt.shaped q then some (PyData.eqv p q) else none
    | _, _ => none) = _
  simp only [toP, toPs_strs]
  rw [shaped_strs xs hx, shaped_strs ys hy]
  show some (PyData.eqvAll _ _) = _
  rw [eqv_strs]
theorem eqD_strs (xs ys : List Str) (hx : OkS xs) (hy : OkS ys) : eqD (.lst (xs.map .str)) (.lst (ys.map .str)) = some (.bl (decide (xs = ys))) := by unfold eqD; rw [eqB_strs xs ys hx hy]
theorem neD_strs (xs ys : List Str) (hx : OkS xs) (hy : OkS ys) : neD (.lst (xs.map .str)) (.lst (ys.map .str)) = some (.bl (!decide (xs = ys))) := by unfold neD; rw [eqB_strs xs ys hx hy]
theorem nilO_strs {i : Nat} {e : En} {p : Bool} {xs : List Str} (neg : Bool) (hx : OkS xs) (h : e[i]? = some (.mu p (.ml (xs.map .str)))) : mnilO neg i e = some (neg != xs.isEmpty, e) := by
  unfold mnilO
  rw [h]
  simp only [toPs_strs]
  rw [shaped_strs xs hx]
  cases neg <;> cases xs <;> rfl
end Zf

set_option Elab.async false
set_option linter.all false
set_option maxRecDepth 100000
/-! more of texts as rows of signs: affixes, cuts, patterns, places -/
namespace Zf
open PySem PySem.Spec L2 PySem.Builtin PySem.Builtin.Str
def AtL (y z : List Nat) (hi i : Nat) : Prop := i + y.length ≤ hi ∧ (z.drop i).take y.length = y
instance (y z : List Nat) (hi i : Nat) : Decidable (AtL y z hi i) := by unfold AtL; infer_instance
theorem at_ml {y z : List Nat} {hi i : Nat} : StrLaws.At (ml z) (ml y) hi i ↔ AtL y z hi i := by
  unfold StrLaws.At AtL
  rw [StrLaws.subAt_eq, ml_len, ls_ml, ls_ml, beq_iff_eq]
theorem starts_ml (z y : List Nat) : Txt.startswith (ml z) (ml y) = decide (z.take y.length = y) := by
  unfold Txt.startswith
  rw [StrLaws.subAt_eq, ml_len, ml_len, ls_ml, ls_ml, List.drop_zero]
  by_cases q : z.take y.length = y
  · have : y.length ≤ z.length := by
      have := congrArg List.length q
      rw [List.length_take] at this
      omega
    rw [decide_eq_true q, decide_eq_true (by omega), Bool.true_and, beq_iff_eq]; exact q
  · rw [decide_eq_false q]
    have : (z.take y.length == y) = false := by rw [beq_eq_false_iff_ne]; exact q
    rw [this, Bool.and_false]
theorem ends_ml (z y : List Nat) : Txt.endswith (ml z) (ml y) = (decide (y.length ≤ z.length) && decide (z.drop (z.length - y.length) = y)) := by
  unfold Txt.endswith
  rw [StrLaws.subAt_eq, ml_len, ml_len, ls_ml, ls_ml]
  by_cases q : y.length ≤ z.length
  · rw [decide_eq_true q, decide_eq_true (show 0 + y.length ≤ z.length by omega), Bool.true_and, Bool.true_and, List.take_of_length_le (by rw [List.length_drop]; omega)]
    rw [Bool.eq_iff_iff, beq_iff_eq, decide_eq_true_eq]
  · rw [decide_eq_false q, decide_eq_false (show ¬ 0 + y.length ≤ z.length by omega), Bool.false_and, Bool.false_and]
theorem cutS_from (z : List Nat) (k : Nat) : cutS (ml z) (some (k : Int)) none = ml (z.drop k) := by
  unfold cutS HT.sIx
  simp only
  rw [if_neg (by omega), ml_len, ls_ml, Int.toNat_natCast]
  show ml _ = ml _
  congr 1
  rw [List.take_of_length_le (by rw [List.length_drop]; exact Nat.le_refl _)]
  by_cases q : k ≤ z.length
  · rw [Nat.min_eq_left q]
  · rw [Nat.min_eq_right (by omega), List.drop_length, List.drop_of_length_le (by omega)]
theorem cutS_to (z : List Nat) (k : Nat) : cutS (ml z) none (some (k : Int)) = ml (z.take k) := by
  unfold cutS HT.sIx
  simp only
  rw [if_neg (by omega), ml_len, ls_ml, Int.toNat_natCast, List.drop_zero, Nat.sub_zero]
  show ml _ = ml _
  congr 1
  by_cases q : k ≤ z.length
  · rw [Nat.min_eq_left q]
  · rw [Nat.min_eq_right (by omega), List.take_length, List.take_of_length_le (by omega)]
theorem cutS_ab (z : List Nat) (a b : Nat) (h : a ≤ b) : cutS (ml z) (some (a : Int)) (some (b : Int)) = ml ((z.drop a).take (b - a)) := by
  unfold cutS HT.sIx
  simp only
  rw [if_neg (by omega), if_neg (by omega), ml_len, ls_ml, Int.toNat_natCast, Int.toNat_natCast]
  show ml _ = ml _
  congr 1
  by_cases q : a ≤ z.length
  · rw [Nat.min_eq_left q]
    by_cases q2 : b ≤ z.length
    · rw [Nat.min_eq_left q2]
    · rw [Nat.min_eq_right (by omega), List.take_of_length_le (by rw [List.length_drop]; omega), List.take_of_length_le (by rw [List.length_drop]; omega)]
  · rw [Nat.min_eq_right (show z.length ≤ a by omega), List.drop_length, List.drop_of_length_le (show z.length ≤ a by omega), List.take_nil, List.take_nil]
/-- the first place of y from a on, its end no more than b -/
theorem findIn_ml (z y : List Nat) (a b : Nat) (hb : b ≤ z.length) : (Txt.findIn (ml z) (ml y) (a : Int) (b : Int) = -1 ∧ ∀ i, a ≤ i → ¬ AtL y z b i) ∨ ∃ i : Nat, Txt.findIn (ml z) (ml y) (a : Int) (b : Int) = (i : Int) ∧ a ≤ i ∧ AtL y z b i ∧ ∀ k, a ≤ k → k < i → ¬ AtL y z b k := by
  have e1 : fromIndex (ml z).length (a : Int) = a := by unfold fromIndex; rw [if_neg (by omega)]; omega
  have e2 : toIndexW (ml z).length (b : Int) = b := by unfold toIndexW; rw [if_neg (by omega), ml_len]; omega
  unfold Txt.findIn
  rw [e1, e2, StrLaws.occ_eq]
  rcases StrLaws.occ_first (ml z) (ml y) b 1 (Nat.le_refl 1) (List.range' a (b + 1 - a)) a (fun i hi => by
    rw [List.mem_range'] at hi
    obtain ⟨j, _, rfl⟩ := hi
    omega) with ⟨h0, hn⟩ | ⟨pre, c, post, e, h0, hc, hn⟩
  · refine .inl ⟨by rw [h0], fun i hi hA => ?_⟩
    exact hn i (by rw [List.mem_range']; exact ⟨i - a, by have := hA.1; omega, by omega⟩) (at_ml.mpr hA)
  · have hp : ∀ k, a ≤ k → k < c → k ∈ pre := fun k hk1 hk2 => by
      have hL : b + 1 - a = pre.length + (post.length + 1) := by
        have := congrArg List.length e
        simpa using this
      have h1 : (List.range' a (b + 1 - a))[pre.length]? = some c := by rw [e]; simp
      rw [List.getElem?_range' (by omega)] at h1
      have h1 : a + 1 * pre.length = c := by simpa using h1
      have h2 : (List.range' a (b + 1 - a))[k - a]? = pre[k - a]? := by rw [e, List.getElem?_append_left (by omega)]
      rw [List.getElem?_range' (by omega)] at h2
      have h3 : pre[k - a]? = some k := by rw [← h2]; congr 1; omega
      exact List.mem_of_getElem? h3
    have hca : a ≤ c := by
      have : c ∈ List.range' a (b + 1 - a) := by rw [e]; simp
      rw [List.mem_range'] at this
      obtain ⟨j, _, rfl⟩ := this
      omega
    refine .inr ⟨c, ?_, hca, at_ml.mp hc, fun k hk1 hk2 hA => hn k (hp k hk1 hk2) (at_ml.mpr hA)⟩
    generalize (forIn (List.range' a (b + 1 - a)) ((#[] : Array Nat), a) (StrLaws.occBody (ml z) (ml y) b 1)).run.fst = arr at h0
    have h1 : arr.toList[0]? = some c := by simpa using h0
    cases hL : arr.toList with
    | nil => rw [hL] at h1; cases h1
    | cons d t => rw [hL] at h1; simp at h1; rw [h1]
/-! split by a pattern -/
def consH (c : Nat) : List (List Nat) → List (List Nat)
  | p :: r => (c :: p) :: r
  | [] => [[c]]
def spk (y : List Nat) : Nat → List Nat → List (List Nat)
  | _, [] => [[]]
  | k + 1, _ :: l => spk y k l
  | 0, c :: l => if (c :: l).take y.length = y then [] :: spk y (y.length - 1) l else consH c (spk y 0 l)
theorem spk_nil (y : List Nat) (k : Nat) : spk y k [] = [[]] := by cases k <;> rfl
theorem spk_succ (y : List Nat) (k c : Nat) (l : List Nat) : spk y (k + 1) (c :: l) = spk y k l := rfl
theorem spk_cons (y : List Nat) (c : Nat) (l : List Nat) : spk y 0 (c :: l) = if (c :: l).take y.length = y then [] :: spk y (y.length - 1) l else consH c (spk y 0 l) := rfl
theorem spk_skip (y : List Nat) : ∀ (k : Nat) (l : List Nat), spk y k l = spk y 0 (l.drop k)
  | 0, l => rfl
  | k + 1, [] => by rw [List.drop_nil, spk_nil, spk_nil]
  | k + 1, c :: l => by
    rw [spk_succ, spk_skip y k l]; rfl
theorem spk_ne (y : List Nat) : ∀ (k : Nat) (l : List Nat), spk y k l ≠ []
  | _, [] => by rw [spk_nil]; simp
  | k + 1, c :: l => spk_ne y k l
  | 0, c :: l => by
    rw [spk_cons]
    split
    · simp
    · unfold consH; split <;> simp
theorem spk_hit (y l : List Nat) (hy : y ≠ []) : spk y 0 (y ++ l) = [] :: spk y 0 l := by
  cases y with
  | nil => exact absurd rfl hy
  | cons c y =>
    show spk (c :: y) 0 (c :: (y ++ l)) = _
    rw [spk_cons, if_pos (by
      rw [← List.cons_append]
      simp), spk_skip]
    have : (y ++ l).drop ((c :: y).length - 1) = l := by
      show List.drop (y.length + 1 - 1) (y ++ l) = l
      simp
    rw [this]
theorem spk_free (y : List Nat) : ∀ (p l : List Nat), (∀ i, i < p.length → ¬ ((p ++ l).drop i).take y.length = y) → spk y 0 (p ++ l) = (match spk y 0 l with
    | q :: r => (p ++ q) :: r
    | [] => [p])
  | [], l, _ => by
    cases q : spk y 0 l with
    | nil => exact absurd q (spk_ne y 0 l)
    | cons a r => simpa using q
  | c :: p, l, h => by
    have ih := spk_free y p l (fun i hi => by
      have := h (i + 1) (by simpa using hi)
      simpa using this)
    show spk y 0 (c :: (p ++ l)) = _
    rw [spk_cons, if_neg (by have := h 0 (by simp); simpa using this), ih]
    cases q : spk y 0 l with
    | nil => exact absurd q (spk_ne y 0 l)
    | cons a r => rfl
theorem spk_none (y l : List Nat) (hy : y ≠ []) (h : ∀ i, ¬ AtL y l l.length i) : spk y 0 l = [l] := by
  have := spk_free y l [] (fun i hi e => by
    refine h i ⟨?_, by simpa using e⟩
    have := congrArg List.length e
    simp only [List.append_nil, List.length_take, List.length_drop] at this
    omega)
  rw [List.append_nil] at this
  rw [this]
  show [l ++ []] = [l]
  rw [List.append_nil]
theorem parts_spk (z y : List Nat) (hy : y ≠ []) : ∀ (cuts : List Nat) (a f : Nat), a ≤ z.length → StrLaws.ChainG (ml z) (ml y) z.length a cuts f → (∀ k, f ≤ k → ¬ AtL y z z.length k) → StrLaws.partsFrom (ml z) y.length a cuts = (spk y 0 (z.drop a)).map ml
  | [], a, f, ha, h, hn => by
    have e : f = a := h
    subst e
    rw [spk_none y _ hy (fun i hA => hn (f + i) (Nat.le_add_right _ _) ⟨by have := hA.1; rw [List.length_drop] at this; omega, by have := hA.2; rw [List.drop_drop] at this; exact this⟩)]
    show [strSub (ml z) f (ml z).length] = [ml (z.drop f)]
    congr 1
    refine str_ext ?_
    rw [StrLaws.strSub_toList, ls_ml, ml_len, ls_ml, List.take_of_length_le (by rw [List.length_drop]; exact Nat.le_refl _)]
  | c :: r, a, f, ha, h, hn => by
    obtain ⟨h1, h2, h3, h4⟩ := h
    have hA := at_ml.mp h2
    rw [ml_len] at h4
    have ih := parts_spk z y hy r (c + y.length) f hA.1 h4 hn
    have e0 : z.drop a = (z.drop a).take (c - a) ++ (y ++ z.drop (c + y.length)) := by
      have e1 : z.drop c = y ++ z.drop (c + y.length) := by
        conv => lhs; rw [← List.take_append_drop y.length (z.drop c), hA.2, List.drop_drop]
      rw [← e1]
      conv => lhs; rw [← List.take_append_drop (c - a) (z.drop a), List.drop_drop, show a + (c - a) = c by omega]
    have hl : ((z.drop a).take (c - a)).length = c - a := by rw [List.length_take, List.length_drop]; have := hA.1; omega
    have e2 := spk_free y ((z.drop a).take (c - a)) (y ++ z.drop (c + y.length)) (fun i hi e => by
      rw [← e0, List.drop_drop] at e
      refine h3 (a + i) (Nat.le_add_right _ _) (by rw [hl] at hi; omega) (at_ml.mpr ⟨?_, e⟩)
      have := congrArg List.length e
      rw [List.length_take, List.length_drop] at this
      have hc := hA.1
      have : 0 < y.length := by
        cases y with
        | nil => exact absurd rfl hy
        | cons => simp
      omega)
    rw [← e0, spk_hit y _ hy] at e2
    have e2 : spk y 0 (z.drop a) = ((z.drop a).take (c - a) ++ []) :: spk y 0 (z.drop (c + y.length)) := e2
    rw [e2, List.append_nil]
    show strSub (ml z) a c :: StrLaws.partsFrom (ml z) y.length (c + y.length) r = _
    rw [ih]
    show _ = ml _ :: _
    congr 1
    refine str_ext ?_
    rw [StrLaws.strSub_toList, ls_ml, ls_ml]
theorem kind_sub {z y : List Nat} {i : Nat} (h : PySem.Builtin.Str.strKind (ml z) < PySem.Builtin.Str.strKind (ml y)) (hA : AtL y z z.length i) : False := by
  have hall : ∀ B : Nat, (ml z).cps.all (· < B) = true → (ml y).cps.all (· < B) = true := fun B hB => by
    rw [← Array.all_toList] at hB ⊢
    rw [List.all_eq_true] at hB ⊢
    intro c hc
    refine hB c ?_
    rw [ls_ml] at hc ⊢
    rw [← hA.2] at hc
    exact List.mem_of_mem_drop (List.mem_of_mem_take hc)
  unfold PySem.Builtin.Str.strKind at h
  by_cases a1 : (ml z).cps.all (· < 256) = true
  · rw [if_pos a1, if_pos (hall 256 a1)] at h
    omega
  · rw [if_neg a1] at h
    by_cases a2 : (ml z).cps.all (· < 65536) = true
    · rw [if_pos a2, if_pos (hall 65536 a2)] at h
      split at h <;> omega
    · rw [if_neg a2] at h
      split at h
      · omega
      · split at h <;> omega
theorem split_ml (z y : List Nat) (hy : y ≠ []) : Txt.split (ml z) (ml y) = (spk y 0 z).map ml := by
  have hp : 1 ≤ (ml y).length := by
    rw [ml_len]
    cases y with
    | nil => exact absurd rfl hy
    | cons => simp
  obtain ⟨f, hG, hn⟩ := StrLaws.occ_tight (ml z) (ml y) hp
  have hn' : ∀ k, f ≤ k → ¬ AtL y z z.length k := fun k hk hA => hn k hk (by rw [ml_len]; exact at_ml.mpr hA)
  rw [ml_len] at hG
  unfold Txt.split
  split
  · rename_i hc
    rw [Bool.or_eq_true, decide_eq_true_eq, decide_eq_true_eq] at hc
    have e := spk_none y z hy (fun i hA => by
      rcases hc with h | h
      · rw [ml_len, ml_len] at h
        have := hA.1; omega
      · exact kind_sub h hA)
    rw [e]; rfl
  · split
    · rename_i he
      have e0 : occurrences (ml z) (ml y) 0 z.length (z.length + 1) = [] := by
        have := List.isEmpty_iff.mp he
        rw [ml_len] at this
        exact this
      rw [e0] at hG
      have ef : f = 0 := hG
      subst ef
      rw [spk_none y z hy (fun i => hn' i (Nat.zero_le _))]; rfl
    · rw [StrLaws.partsBetween_eq]
      rw [ml_len, ml_len]
      exact parts_spk z y hy _ 0 f (Nat.zero_le _) hG hn'
end Zf

namespace Zz
open PySem PySem.Spec L2 Zf
def fA (ns : List Int) : List Int := ns.filter fun n => decide (10 ^ 18 ≤ n)
def fB (ns : List Int) : List Int := ns.filter fun n => decide (n < 10 ^ 18)
def m_frozen_r0 : SM :=
  sseq (sif (MM.opt (MM.opt (mvar 0) (isiD "dict")) truD) (sret (mbad)) (snx)) <|
  sret (mif (MM.opt (MM.opt (mvar 0) (isiDs ["list", "tuple"])) truD) (MM.opt (mcons (MM.map (mlc (.one 2) [2] (MM.opt (mvar 0) seqD) (mtrue) (mbad)) .lst) (mnil)) tupleL) (mvar 0))
abbrev F_frozen_r0 : FM := fnM 3 m_frozen_r0
theorem len_frozen_r0 : ∀ args d news, F_frozen_r0 args = some (d, news) → news.length = args.length := fun _ _ _ h => fnM_length h
abbrev e_frozen_r1_1 : MM D := mcall F_frozen_r0 [] (acim (mvar 2) (anil))
def m_frozen_r1 : SM :=
  sseq (sif (MM.opt (MM.opt (mvar 0) (isiD "dict")) truD) (sret (mbad)) (snx)) <|
  sret (mif (MM.opt (MM.opt (mvar 0) (isiDs ["list", "tuple"])) truD) (MM.opt (mcons (MM.map (mlc (.one 2) [2] (MM.opt (mvar 0) seqD) (mtrue) (e_frozen_r1_1)) .lst) (mnil)) tupleL) (mvar 0))
abbrev F_frozen_r1 : FM := fnM 3 m_frozen_r1
theorem len_frozen_r1 : ∀ args d news, F_frozen_r1 args = some (d, news) → news.length = args.length := fun _ _ _ h => fnM_length h
abbrev e_frozen_r2_1 : MM D := mcall F_frozen_r1 [] (acim (mvar 2) (anil))
def m_frozen_r2 : SM :=
  sseq (sif (MM.opt (MM.opt (mvar 0) (isiD "dict")) truD) (sret (mbad)) (snx)) <|
  sret (mif (MM.opt (MM.opt (mvar 0) (isiDs ["list", "tuple"])) truD) (MM.opt (mcons (MM.map (mlc (.one 2) [2] (MM.opt (mvar 0) seqD) (mtrue) (e_frozen_r2_1)) .lst) (mnil)) tupleL) (mvar 0))
abbrev F_frozen_r2 : FM := fnM 3 m_frozen_r2
theorem len_frozen_r2 : ∀ args d news, F_frozen_r2 args = some (d, news) → news.length = args.length := fun _ _ _ h => fnM_length h
abbrev e_frozen_1 : MM D := mcall F_frozen_r2 [] (acim (mvar 2) (anil))
def m_frozen : SM :=
  sseq (sif (MM.opt (MM.opt (mvar 0) (isiD "dict")) truD) (sret (mbad)) (snx)) <|
  sret (mif (MM.opt (MM.opt (mvar 0) (isiDs ["list", "tuple"])) truD) (MM.opt (mcons (MM.map (mlc (.one 2) [2] (MM.opt (mvar 0) seqD) (mtrue) (e_frozen_1)) .lst) (mnil)) tupleL) (mvar 0))
abbrev F_frozen : FM := fnM 3 m_frozen
theorem len_frozen : ∀ args d news, F_frozen args = some (d, news) → news.length = args.length := fun _ _ _ h => fnM_length h
abbrev b_checked_flags_1 : SM := (sif (morB (mnotB (MM.opt (MM.opt (mvar 1) (isiD "str")) truD)) (MM.opt (mop2 ninD (mvar 1) (mc (.tup [.str "DONT_ACCEPT_TRUE_FOR_1", .str "DONT_ACCEPT_BLANKLINE", .str "NORMALIZE_WHITESPACE", .str "ELLIPSIS", .str "SKIP", .str "IGNORE_EXCEPTION_DETAIL", .str "REPORT_ONLY_FIRST_FAILURE", .str "FAIL_FAST"]))) blD)) (sbad) (snx))
def m_checked_flags : SM :=
  sseq (sfor (.one 1) (MM.opt (mvar 0) seqD) b_checked_flags_1) <|
  sret (MM.opt (mcons (mvar 0) (mnil)) tupleL)
abbrev F_checked_flags : FM := fnM 2 m_checked_flags
theorem len_checked_flags : ∀ args d news, F_checked_flags args = some (d, news) → news.length = args.length := fun _ _ _ h => fnM_length h
def m_is_blank : SM :=
  sret (mop2 eqD (mmeth (stripM Txt.stripChars) (mvar 0) (mcons (mc (.str " \t")) (mnil))) (mc (.str "")))
abbrev F_is_blank : FM := fnM 1 m_is_blank
theorem len_is_blank : ∀ args d news, F_is_blank args = some (d, news) → news.length = args.length := fun _ _ _ h => fnM_length h
abbrev e_markers_cleared_1 : MM D := mif (mandB (MM.opt (mmeth startsM (mvar 2) (mcons (mc (.str "<BLANKLINE>")) (mnil))) truD) (MM.opt (mcall F_is_blank [] (acim (msl (mvar 2) (MM.opt (MM.opt (mcons (mc (.str "<BLANKLINE>")) (mnil)) lenL) intD) (fun env => some (none, env))) (anil))) truD)) (mc (.str "")) (mvar 2)
def m_markers_cleared : SM :=
  sseq (sset 1 (MM.map (fmeth splitM (mvar 0) (mcons (mc (.str "\n")) (mnil))) .lst)) <|
  sret (mmeth joinM (mc (.str "\n")) (mcons (MM.map (mlc (.one 2) [2] (MM.opt (mvar 1) seqD) (mtrue) (e_markers_cleared_1)) .lst) (mnil)))
abbrev F_markers_cleared : FM := fnM 3 m_markers_cleared
theorem len_markers_cleared : ∀ args d news, F_markers_cleared args = some (d, news) → news.length = args.length := fun _ _ _ h => fnM_length h
abbrev e_blanks_cleared_1 : MM D := mif (MM.opt (mcall F_is_blank [] (acim (mvar 1) (anil))) truD) (mc (.str "")) (mvar 1)
def m_blanks_cleared : SM :=
  sret (mmeth joinM (mc (.str "\n")) (mcons (MM.map (mlc (.one 1) [1] (MM.opt (MM.map (fmeth splitM (mvar 0) (mcons (mc (.str "\n")) (mnil))) .lst) seqD) (mtrue) (e_blanks_cleared_1)) .lst) (mnil)))
abbrev F_blanks_cleared : FM := fnM 2 m_blanks_cleared
theorem len_blanks_cleared : ∀ args d news, F_blanks_cleared args = some (d, news) → news.length = args.length := fun _ _ _ h => fnM_length h
def m_words_joined : SM :=
  sret (mmeth joinM (mc (.str " ")) (mcons (MM.map (fmeth wordsM (mvar 0) mnil) .lst) (mnil)))
abbrev F_words_joined : FM := fnM 1 m_words_joined
theorem len_words_joined : ∀ args d news, F_words_joined args = some (d, news) → news.length = args.length := fun _ _ _ h => fnM_length h
abbrev b_fits_pieces_1 : SM := (sseq (sset 2 (mmeth find4M (mvar 1) (mcons (mvar 4) (mcons (mvar 2) (mcons (mvar 3) (mnil)))))) <|
  sseq (sif (MM.opt (mop2 ltD (mvar 2) (mc (.int 0))) blD) (sret (mc (.bl false))) (snx)) <|
  sset 2 (mop2 addD (mvar 2) (MM.opt (mcons (mvar 4) (mnil)) lenL)))
def m_fits_pieces : SM :=
  sseq (sif (MM.opt (mop2 ltD (MM.opt (mcons (mvar 1) (mnil)) lenL) (mop2 addD (MM.opt (mcons (mop2 ixD (mvar 0) (mc (.int 0))) (mnil)) lenL) (MM.opt (mcons (mop2 ixD (mvar 0) (MM.opt (mc (.int 1)) negD)) (mnil)) lenL))) blD) (sret (mc (.bl false))) (snx)) <|
  sseq (sif (morB (mnotB (MM.opt (mmeth startsM (mvar 1) (mcons (mop2 ixD (mvar 0) (mc (.int 0))) (mnil))) truD)) (mnotB (MM.opt (mmeth endsM (mvar 1) (mcons (mop2 ixD (mvar 0) (MM.opt (mc (.int 1)) negD)) (mnil))) truD))) (sret (mc (.bl false))) (snx)) <|
  sseq (spar [2, 3] (pcim (MM.opt (mcons (mop2 ixD (mvar 0) (mc (.int 0))) (mnil)) lenL) (pcim (mop2 subD (MM.opt (mcons (mvar 1) (mnil)) lenL) (MM.opt (mcons (mop2 ixD (mvar 0) (MM.opt (mc (.int 1)) negD)) (mnil)) lenL)) (pnil)))) <|
  sseq (sfor (.one 4) (MM.opt (msl (mvar 0) (MM.opt (mc (.int 1)) intD) (MM.opt (MM.opt (mc (.int 1)) negD) intD)) seqD) b_fits_pieces_1) <|
  sret (mc (.bl true))
abbrev F_fits_pieces : FM := fnM 5 m_fits_pieces
theorem len_fits_pieces : ∀ args d news, F_fits_pieces args = some (d, news) → news.length = args.length := fun _ _ _ h => fnM_length h
def m_is_let_by : SM :=
  sseq (sif (morB (MM.opt (mop2 eqD (mvar 0) (mvar 1)) blD) (mandB (MM.opt (mop2 ninD (mc (.str "DONT_ACCEPT_TRUE_FOR_1")) (mvar 2)) blD) (mandB (MM.opt (MM.opt (mvar 0) (inTab [("1\n", .str "True\n"), ("0\n", .str "False\n")] false)) blD) (MM.opt (mop2 eqD (MM.opt (mvar 0) (ixTab [("1\n", .str "True\n"), ("0\n", .str "False\n")])) (mvar 1)) blD)))) (sret (mc (.bl true))) (snx)) <|
  sseq (sif (MM.opt (mop2 ninD (mc (.str "DONT_ACCEPT_BLANKLINE")) (mvar 2)) blD) (spar [0, 1] (pcim (mcall F_markers_cleared [] (acim (mvar 0) (anil))) (pcim (mcall F_blanks_cleared [] (acim (mvar 1) (anil))) (pnil)))) (snx)) <|
  sseq (sif (MM.opt (mop2 inD (mc (.str "NORMALIZE_WHITESPACE")) (mvar 2)) blD) (spar [0, 1] (pcim (mcall F_words_joined [] (acim (mvar 0) (anil))) (pcim (mcall F_words_joined [] (acim (mvar 1) (anil))) (pnil)))) (snx)) <|
  sseq (sset 3 (mif (MM.opt (mop2 inD (mc (.str "ELLIPSIS")) (mvar 2)) blD) (MM.map (fmeth splitM (mvar 0) (mcons (mc (.str "...")) (mnil))) .lst) (MM.map (MM.opt (mcons (mvar 0) (mnil)) few) .lst))) <|
  sret (morV (mop2 eqD (mvar 0) (mvar 1)) (mandV (mop2 gtD (MM.opt (mcons (mvar 3) (mnil)) lenL) (mc (.int 1))) (mcall F_fits_pieces [] (acim (mvar 3) (acim (mvar 1) (anil))))))
abbrev F_is_let_by : FM := fnM 4 m_is_let_by
theorem len_is_let_by : ∀ args d news, F_is_let_by args = some (d, news) → news.length = args.length := fun _ _ _ h => fnM_length h
def m_check : SM :=
  sret (mcall F_is_let_by [] (acim (mvar 0) (acim (mvar 1) (acim (mcall F_checked_flags [] (acim (mvar 2) (anil))) (anil)))))
abbrev F_check : FM := fnM 3 m_check
theorem len_check : ∀ args d news, F_check args = some (d, news) → news.length = args.length := fun _ _ _ h => fnM_length h
def m_law_draws : MM (List Pa) := pcow (mlc (.one 1) [1] (MM.opt (mvar 0) seqD) (MM.opt (mop2 geD (mvar 1) (mop2 powD (mc (.int 10)) (mc (.int 18)))) blD) (mvar 1)) (pcim (mc (.int 0)) (pcow (mlc (.one 1) [1] (MM.opt (mvar 0) seqD) (MM.opt (mop2 ltD (mvar 1) (mop2 powD (mc (.int 10)) (mc (.int 18)))) blD) (mvar 1)) (pcim (mc (.int 0)) (pnil))))
def m_law_mixed : SM :=
  sseq (sset 2 (mop2 modD (MM.opt (mcons (mop2 powD (mop2 addD (mop2 addD (mop2 modD (MM.opt (mcons (mvar 0) (mnil)) intL) (mc (.int 2147483647))) (mop2 mulD (mc (.int 7919)) (mvar 1))) (mc (.int 104729))) (mc (.int 5))) (mnil)) intL) (mc (.int 2147483629)))) <|
  sret (mop2 modD (MM.opt (mcons (mop2 powD (mop2 addD (mop2 addD (mop2 mulD (mvar 2) (mc (.int 48271))) (mop2 mulD (mop2 mulD (mc (.int 40503)) (mvar 1)) (mvar 1))) (mc (.int 13))) (mc (.int 3))) (mnil)) intL) (mc (.int 1000000007)))
abbrev F_law_mixed : FM := fnM 3 m_law_mixed
theorem len_law_mixed : ∀ args d news, F_law_mixed args = some (d, news) → news.length = args.length := fun _ _ _ h => fnM_length h
def m_law_take : SM :=
  sseq (sdr 0 3 (mop2 addD (mdr 0 3) (mc (.int 1)))) <|
  sseq (sif (mandB (MM.opt (mop2 eqD (mdr 0 1) (mc (.int 0))) blD) (mdrNe 0 0)) (sdr 0 1 (mdrPop 0)) (snx)) <|
  sseq (sif (MM.opt (mop2 gtD (mdr 0 1) (mc (.int 0))) blD) (sseq (sset 2 (mop2 modD (MM.opt (mcons (mdr 0 1) (mnil)) intL) (mvar 1))) <|
  sseq (sdr 0 1 (mop2 fdivD (mdr 0 1) (mvar 1))) <|
  sret (mvar 2)) (snx)) <|
  sseq (sset 3 (mc (.int 17))) <|
  sseq (sif (mdrNe 0 2) (sset 3 (mdrSeed 0)) (snx)) <|
  sseq (sset 2 (mc (.int 0))) <|
  sseq (sset 4 (mc (.int 1))) <|
  sseq (swhile (MM.opt (mop2 ltD (mvar 4) (mvar 1)) blD) (sseq (sset 2 (mop2 addD (mop2 mulD (mvar 2) (mc (.int 1000000007))) (mcall F_law_mixed [] (acim (mvar 3) (acim (mop2 addD (mdr 0 3) (mop2 mulD (mc (.int 1009)) (mop2 modD (MM.opt (mcons (mvar 2) (mnil)) intL) (mc (.int 97))))) (anil)))))) <|
  sset 4 (mop2 mulD (mvar 4) (mc (.int 1000000007)))) 3) <|
  sret (mop2 modD (MM.opt (mcons (mvar 2) (mnil)) intL) (mvar 1))
abbrev F_law_take : FM := fnM 5 m_law_take
theorem len_law_take : ∀ args d news, F_law_take args = some (d, news) → news.length = args.length := fun _ _ _ h => fnM_length h
def m_law_same_r0 : SM :=
  sseq (sif (MM.opt (MM.opt (mvar 1) (isiDs ["list", "tuple"])) truD) (sseq (sif (morB (MM.opt (mop2 neD (MM.opt (mvar 0) (isiD "list")) (MM.opt (mvar 1) (isiD "list"))) blD) (MM.opt (mop2 neD (MM.opt (mvar 0) (isiD "tuple")) (MM.opt (mvar 1) (isiD "tuple"))) blD)) (sret (mc (.bl false))) (snx)) <|
  sret (mandV (mop2 eqD (MM.opt (mcons (mvar 0) (mnil)) lenL) (MM.opt (mcons (mvar 1) (mnil)) lenL)) (MM.opt (mcons (MM.map (mlc (.tup [2, 3]) [2, 3] (MM.opt (mcons (mvar 0) (mcons (mvar 1) (mnil))) zipL) (mtrue) (mbad)) .lst) (mnil)) allL))) (snx)) <|
  sseq (sif (MM.opt (MM.opt (mvar 1) (isiDs ["bool", "int"])) truD) (sret (mandV (MM.opt (mvar 0) (isiD "int")) (mandV (mop2 eqD (MM.opt (mvar 0) (isiD "bool")) (MM.opt (mvar 1) (isiD "bool"))) (mop2 eqD (mvar 0) (mvar 1))))) (snx)) <|
  sret (mandV (mnotV (MM.opt (mvar 0) (isiDs ["bool", "int", "list", "tuple"]))) (mop2 eqD (mvar 0) (mvar 1)))
abbrev F_law_same_r0 : FM := fnM 4 m_law_same_r0
theorem len_law_same_r0 : ∀ args d news, F_law_same_r0 args = some (d, news) → news.length = args.length := fun _ _ _ h => fnM_length h
abbrev e_law_same_r1_1 : MM D := mcall F_law_same_r0 [] (acim (mvar 2) (acim (mvar 3) (anil)))
def m_law_same_r1 : SM :=
  sseq (sif (MM.opt (MM.opt (mvar 1) (isiDs ["list", "tuple"])) truD) (sseq (sif (morB (MM.opt (mop2 neD (MM.opt (mvar 0) (isiD "list")) (MM.opt (mvar 1) (isiD "list"))) blD) (MM.opt (mop2 neD (MM.opt (mvar 0) (isiD "tuple")) (MM.opt (mvar 1) (isiD "tuple"))) blD)) (sret (mc (.bl false))) (snx)) <|
  sret (mandV (mop2 eqD (MM.opt (mcons (mvar 0) (mnil)) lenL) (MM.opt (mcons (mvar 1) (mnil)) lenL)) (MM.opt (mcons (MM.map (mlc (.tup [2, 3]) [2, 3] (MM.opt (mcons (mvar 0) (mcons (mvar 1) (mnil))) zipL) (mtrue) (e_law_same_r1_1)) .lst) (mnil)) allL))) (snx)) <|
  sseq (sif (MM.opt (MM.opt (mvar 1) (isiDs ["bool", "int"])) truD) (sret (mandV (MM.opt (mvar 0) (isiD "int")) (mandV (mop2 eqD (MM.opt (mvar 0) (isiD "bool")) (MM.opt (mvar 1) (isiD "bool"))) (mop2 eqD (mvar 0) (mvar 1))))) (snx)) <|
  sret (mandV (mnotV (MM.opt (mvar 0) (isiDs ["bool", "int", "list", "tuple"]))) (mop2 eqD (mvar 0) (mvar 1)))
abbrev F_law_same_r1 : FM := fnM 4 m_law_same_r1
theorem len_law_same_r1 : ∀ args d news, F_law_same_r1 args = some (d, news) → news.length = args.length := fun _ _ _ h => fnM_length h
abbrev e_law_same_r2_1 : MM D := mcall F_law_same_r1 [] (acim (mvar 2) (acim (mvar 3) (anil)))
def m_law_same_r2 : SM :=
  sseq (sif (MM.opt (MM.opt (mvar 1) (isiDs ["list", "tuple"])) truD) (sseq (sif (morB (MM.opt (mop2 neD (MM.opt (mvar 0) (isiD "list")) (MM.opt (mvar 1) (isiD "list"))) blD) (MM.opt (mop2 neD (MM.opt (mvar 0) (isiD "tuple")) (MM.opt (mvar 1) (isiD "tuple"))) blD)) (sret (mc (.bl false))) (snx)) <|
  sret (mandV (mop2 eqD (MM.opt (mcons (mvar 0) (mnil)) lenL) (MM.opt (mcons (mvar 1) (mnil)) lenL)) (MM.opt (mcons (MM.map (mlc (.tup [2, 3]) [2, 3] (MM.opt (mcons (mvar 0) (mcons (mvar 1) (mnil))) zipL) (mtrue) (e_law_same_r2_1)) .lst) (mnil)) allL))) (snx)) <|
  sseq (sif (MM.opt (MM.opt (mvar 1) (isiDs ["bool", "int"])) truD) (sret (mandV (MM.opt (mvar 0) (isiD "int")) (mandV (mop2 eqD (MM.opt (mvar 0) (isiD "bool")) (MM.opt (mvar 1) (isiD "bool"))) (mop2 eqD (mvar 0) (mvar 1))))) (snx)) <|
  sret (mandV (mnotV (MM.opt (mvar 0) (isiDs ["bool", "int", "list", "tuple"]))) (mop2 eqD (mvar 0) (mvar 1)))
abbrev F_law_same_r2 : FM := fnM 4 m_law_same_r2
theorem len_law_same_r2 : ∀ args d news, F_law_same_r2 args = some (d, news) → news.length = args.length := fun _ _ _ h => fnM_length h
abbrev e_law_same_1 : MM D := mcall F_law_same_r2 [] (acim (mvar 2) (acim (mvar 3) (anil)))
def m_law_same : SM :=
  sseq (sif (MM.opt (MM.opt (mvar 1) (isiDs ["list", "tuple"])) truD) (sseq (sif (morB (MM.opt (mop2 neD (MM.opt (mvar 0) (isiD "list")) (MM.opt (mvar 1) (isiD "list"))) blD) (MM.opt (mop2 neD (MM.opt (mvar 0) (isiD "tuple")) (MM.opt (mvar 1) (isiD "tuple"))) blD)) (sret (mc (.bl false))) (snx)) <|
  sret (mandV (mop2 eqD (MM.opt (mcons (mvar 0) (mnil)) lenL) (MM.opt (mcons (mvar 1) (mnil)) lenL)) (MM.opt (mcons (MM.map (mlc (.tup [2, 3]) [2, 3] (MM.opt (mcons (mvar 0) (mcons (mvar 1) (mnil))) zipL) (mtrue) (e_law_same_1)) .lst) (mnil)) allL))) (snx)) <|
  sseq (sif (MM.opt (MM.opt (mvar 1) (isiDs ["bool", "int"])) truD) (sret (mandV (MM.opt (mvar 0) (isiD "int")) (mandV (mop2 eqD (MM.opt (mvar 0) (isiD "bool")) (MM.opt (mvar 1) (isiD "bool"))) (mop2 eqD (mvar 0) (mvar 1))))) (snx)) <|
  sret (mandV (mnotV (MM.opt (mvar 0) (isiDs ["bool", "int", "list", "tuple"]))) (mop2 eqD (mvar 0) (mvar 1)))
abbrev F_law_same : FM := fnM 4 m_law_same
theorem len_law_same : ∀ args d news, F_law_same args = some (d, news) → news.length = args.length := fun _ _ _ h => fnM_length h
def m_law_pick : SM :=
  sret (mop2 ixD (mvar 1) (mcall F_law_take [] (acsl 0 (acim (MM.opt (mcons (mvar 1) (mnil)) lenL) (anil)))))
abbrev F_law_pick : FM := fnM 2 m_law_pick
theorem len_law_pick : ∀ args d news, F_law_pick args = some (d, news) → news.length = args.length := fun _ _ _ h => fnM_length h
abbrev t_law_cleared_1 : MM Bool := MM.opt (mop2 ninD (mvar 6) (mc (.str " \t"))) blD
abbrev b_law_cleared_2 : SM := (sseq (sset 4 (mif (mandB (MM.opt (mvar 1) truD) (MM.opt (mop2 eqD (msl (mvar 3) (fun env => some (none, env)) (MM.opt (mc (.int 11)) intD)) (mc (.str "<BLANKLINE>"))) blD)) (msl (mvar 3) (MM.opt (mc (.int 11)) intD) (fun env => some (none, env))) (mvar 3))) <|
  sseq (sset 5 (mop2 eqD (MM.map (mlc (.one 6) [6] (MM.opt (mvar 4) seqD) (t_law_cleared_1) (mvar 6)) .lst) (MM.map (MM.opt (mnil) few) .lst))) <|
  sdrop (mappend 2 (mif (mandB (MM.opt (mvar 5) truD) (morB (mnotB (MM.opt (mvar 1) truD)) (MM.opt (mop2 eqD (msl (mvar 3) (fun env => some (none, env)) (MM.opt (mc (.int 11)) intD)) (mc (.str "<BLANKLINE>"))) blD))) (mc (.str "")) (mvar 3))))
def m_law_cleared : SM :=
  sseq (sown 2 (MM.opt (mnil) few)) <|
  sseq (sfor (.one 3) (MM.opt (MM.map (fmeth splitM (mvar 0) (mcons (mc (.str "\n")) (mnil))) .lst) seqD) b_law_cleared_2) <|
  sret (mmeth joinM (mc (.str "\n")) (mcons (mvar 2) (mnil)))
abbrev F_law_cleared : FM := fnM 7 m_law_cleared
theorem len_law_cleared : ∀ args d news, F_law_cleared args = some (d, news) → news.length = args.length := fun _ _ _ h => fnM_length h
abbrev b_law_words_1 : SM := (sif (MM.opt (mop2 inD (mvar 3) (mc (.str " \t\n"))) blD) (sseq (sdrop (mextend 1 (fop2 mulF (MM.map (MM.opt (mcons (mvar 2) (mnil)) few) .lst) (MM.opt (mcons (mop2 neD (mvar 2) (mc (.str ""))) (mnil)) intL)))) <|
  sset 2 (mc (.str ""))) (sset 2 (mop2 addD (mvar 2) (mvar 3))))
def m_law_words : SM :=
  sseq (spar [1, 2] (pcow (MM.opt (mnil) few) (pcim (mc (.str "")) (pnil)))) <|
  sseq (sfor (.one 3) (MM.opt (mop2 addD (mvar 0) (mc (.str " "))) seqD) b_law_words_1) <|
  sret (mmeth joinM (mc (.str " ")) (mcons (mvar 1) (mnil)))
abbrev F_law_words : FM := fnM 4 m_law_words
theorem len_law_words : ∀ args d news, F_law_words args = some (d, news) → news.length = args.length := fun _ _ _ h => fnM_length h
abbrev b_law_pieces_1 : SM := (sif (MM.opt (mop2 eqD (msl (mvar 0) (MM.opt (mvar 2) intD) (MM.opt (mop2 addD (mvar 2) (mc (.int 3))) intD)) (mc (.str "..."))) blD) (sseq (sdrop (mappend 1 (mc (.str "")))) <|
  sset 2 (mop2 addD (mvar 2) (mc (.int 3)))) (sseq (sdrop (mappend 1 (mop2 addD (mpop0 1) (mop2 ixD (mvar 0) (mvar 2))))) <|
  sset 2 (mop2 addD (mvar 2) (mc (.int 1)))))
def m_law_pieces : SM :=
  sseq (spar [1, 2] (pcow (MM.opt (mcons (mc (.str "")) (mnil)) few) (pcim (mc (.int 0)) (pnil)))) <|
  sseq (swhile (MM.opt (mop2 ltD (mvar 2) (MM.opt (mcons (mvar 0) (mnil)) lenL)) blD) b_law_pieces_1 100000) <|
  sret (mvar 1)
abbrev F_law_pieces : FM := fnM 3 m_law_pieces
theorem len_law_pieces : ∀ args d news, F_law_pieces args = some (d, news) → news.length = args.length := fun _ _ _ h => fnM_length h
abbrev e_law_fits_1 : MM D := mop2 addD (mvar 6) (MM.opt (mcons (mvar 4) (mnil)) lenL)
abbrev t_law_fits_2 : MM Bool := MM.opt (mop2 eqD (msl (mvar 1) (MM.opt (mvar 6) intD) (MM.opt (mop2 addD (mvar 6) (MM.opt (mcons (mvar 4) (mnil)) lenL)) intD)) (mvar 4)) blD
abbrev b_law_fits_3 : SM := (sseq (sset 5 (mif (MM.opt (mop2 gtD (mvar 3) (mc (.int 0))) blD) (MM.map (fop2 rngF (MM.opt (mcons (mvar 2) (mnil)) minL) (mop2 addD (MM.opt (mcons (mvar 1) (mnil)) lenL) (mc (.int 1)))) .lst) (mvar 2))) <|
  sseq (sset 2 (MM.map (mlc (.one 6) [6] (MM.opt (mvar 5) seqD) (t_law_fits_2) (e_law_fits_1)) .lst)) <|
  sif (MM.opt (mop2 eqD (mvar 2) (MM.map (MM.opt (mnil) few) .lst)) blD) (sret (mc (.bl false))) (snx))
def m_law_fits : SM :=
  sseq (sset 2 (MM.map (MM.opt (mcons (mc (.int 0)) (mnil)) few) .lst)) <|
  sseq (sfor (.tup [3, 4]) (MM.opt (mcons (mvar 0) (mnil)) lstD) b_law_fits_3) <|
  sret (mop2 inD (MM.opt (mcons (mvar 1) (mnil)) lenL) (mvar 2))
abbrev F_law_fits : FM := fnM 7 m_law_fits
theorem len_law_fits : ∀ args d news, F_law_fits args = some (d, news) → news.length = args.length := fun _ _ _ h => fnM_length h
def m_law_lets : SM :=
  sseq (sif (MM.opt (mop2 eqD (mvar 0) (mvar 1)) blD) (sret (mc (.bl true))) (snx)) <|
  sseq (sif (mandB (MM.opt (mop2 ninD (mc (.str "DONT_ACCEPT_TRUE_FOR_1")) (mvar 2)) blD) (MM.opt (mop2 inTD (MM.map (MM.opt (mcons (mvar 0) (mcons (mvar 1) (mnil))) few) .tup) (MM.map (MM.opt (mcons (MM.map (MM.opt (mcons (mc (.str "1\n")) (mcons (mc (.str "True\n")) (mnil))) few) .tup) (mcons (MM.map (MM.opt (mcons (mc (.str "0\n")) (mcons (mc (.str "False\n")) (mnil))) few) .tup) (mnil))) few) .tup)) blD)) (sret (mc (.bl true))) (snx)) <|
  sseq (sif (MM.opt (mop2 ninD (mc (.str "DONT_ACCEPT_BLANKLINE")) (mvar 2)) blD) (spar [0, 1] (pcim (mcall F_law_cleared [] (acim (mvar 0) (acim (mc (.bl true)) (anil)))) (pcim (mcall F_law_cleared [] (acim (mvar 1) (acim (mc (.bl false)) (anil)))) (pnil)))) (snx)) <|
  sseq (sif (MM.opt (mop2 inD (mc (.str "NORMALIZE_WHITESPACE")) (mvar 2)) blD) (spar [0, 1] (pcim (mcall F_law_words [] (acim (mvar 0) (anil))) (pcim (mcall F_law_words [] (acim (mvar 1) (anil))) (pnil)))) (snx)) <|
  sseq (sset 3 (mif (MM.opt (mop2 inD (mc (.str "ELLIPSIS")) (mvar 2)) blD) (mcall F_law_pieces [] (acim (mvar 0) (anil))) (MM.map (MM.opt (mcons (mvar 0) (mnil)) few) .lst))) <|
  sret (morV (mop2 eqD (mvar 0) (mvar 1)) (mandV (mop2 gtD (MM.opt (mcons (mvar 3) (mnil)) lenL) (mc (.int 1))) (mcall F_law_fits [] (acim (mvar 3) (acim (mvar 1) (anil))))))
abbrev F_law_lets : FM := fnM 4 m_law_lets
theorem len_law_lets : ∀ args d news, F_law_lets args = some (d, news) → news.length = args.length := fun _ _ _ h => fnM_length h
abbrev t_law_rules_1 : MM Bool := MM.opt (mop2 eqD (mcall F_law_take [] (acsl 0 (acim (mc (.int 2)) (anil)))) (mc (.int 0))) blD
def m_law_rules : SM :=
  sseq (sset 1 (MM.map (MM.opt (mcons (mc (.str "DONT_ACCEPT_TRUE_FOR_1")) (mcons (mc (.str "DONT_ACCEPT_BLANKLINE")) (mcons (mc (.str "NORMALIZE_WHITESPACE")) (mcons (mc (.str "ELLIPSIS")) (mnil))))) few) .lst)) <|
  sret (MM.map (mlc (.one 2) [2] (MM.opt (mvar 1) seqD) (t_law_rules_1) (mvar 2)) .lst)
abbrev F_law_rules : FM := fnM 3 m_law_rules
theorem len_law_rules : ∀ args d news, F_law_rules args = some (d, news) → news.length = args.length := fun _ _ _ h => fnM_length h
abbrev b_law_handed_1 : SM := (sdrop (mappend 3 (mpopAt 2 (mcall F_law_take [] (acsl 0 (acim (mlenO 2) (anil)))))))
def m_law_handed : SM :=
  sseq (spar [2, 3] (pcow (MM.opt (mcons (mvar 1) (mnil)) listL) (pcow (MM.opt (mnil) few) (pnil)))) <|
  sseq (swhile (mnilO true 2) b_law_handed_1 100000) <|
  sseq (sset 3 (mop2 addD (mvar 3) (msl (mvar 3) (fun env => some (none, env)) (MM.opt (mcall F_law_take [] (acsl 0 (acim (mc (.int 2)) (anil)))) intD)))) <|
  sret (mop2 ixD (MM.map (MM.opt (mcons (mvar 3) (mcons (MM.opt (mcons (mvar 3) (mnil)) tupleL) (mnil))) few) .lst) (mcall F_law_take [] (acsl 0 (acim (mc (.int 2)) (anil)))))
abbrev F_law_handed : FM := fnM 4 m_law_handed
theorem len_law_handed : ∀ args d news, F_law_handed args = some (d, news) → news.length = args.length := fun _ _ _ h => fnM_length h
abbrev e_law_want_1 : MM D := mcall F_law_pick [] (acsl 0 (acim (mvar 3) (anil)))
def m_law_want : SM :=
  sseq (sset 3 (MM.map (MM.opt (mcons (mc (.str "a")) (mcons (mc (.str "b")) (mcons (mc (.str "a")) (mcons (mc (.str " ")) (mcons (mc (.str "\n")) (mcons (mc (.str "...")) (mcons (mc (.str "...")) (mcons (mc (.str "<BLANKLINE>")) (mcons (mc (.str "\n<BLANKLINE>\n")) (mcons (mc (.str "\t")) (mcons (mc (.str " \n")) (mcons (mc (.str ".")) (mnil))))))))))))) few) .lst)) <|
  sseq (sset 3 (mif (MM.opt (mvar 2) truD) (msl (mvar 3) (fun env => some (none, env)) (MM.opt (mc (.int 6)) intD)) (mvar 3))) <|
  sseq (sset 4 (mmeth joinM (mc (.str "")) (mcons (MM.map (mlc (.one 5) [5] (MM.opt (mcons (mcall F_law_take [] (acsl 0 (acim (mop2 addD (mvar 1) (mc (.int 1))) (anil)))) (mnil)) rng1D) (mtrue) (e_law_want_1)) .lst) (mnil)))) <|
  sret (mop2 addD (mvar 4) (mop2 ixD (MM.map (MM.opt (mcons (mc (.str "\n")) (mcons (mc (.str "\n")) (mcons (mc (.str "\n")) (mcons (mc (.str "")) (mnil))))) few) .lst) (mcall F_law_take [] (acsl 0 (acim (mc (.int 4)) (anil))))))
abbrev F_law_want : FM := fnM 6 m_law_want
theorem len_law_want : ∀ args d news, F_law_want args = some (d, news) → news.length = args.length := fun _ _ _ h => fnM_length h
abbrev b_law_near_1 : SM := (sseq (sset 5 (mop2 ixD (MM.map (MM.opt (mcons (mc (.str "")) (mcons (mc (.str "...")) (mcons (mc (.str "a")) (mcons (mc (.str " b ")) (mcons (mc (.str "\n")) (mcons (mc (.str "ab\nb")) (mnil))))))) few) .lst) (mcall F_law_take [] (acsl 0 (acim (mc (.int 6)) (anil)))))) <|
  sset 2 (mop2 addD (mop2 addD (mvar 2) (mop2 ixD (MM.map (MM.opt (mcons (mvar 5) (mcons (mc (.str "")) (mnil))) few) .lst) (MM.opt (mcons (mop2 eqD (mvar 3) (mc (.int 0))) (mnil)) intL))) (mvar 4)))
abbrev b_law_near_2 : SM := (sseq (sset 7 (mreplI (mvar 7) (mcall F_law_take [] (acsl 0 (acim (mc (.int 3)) (anil)))) "<BLANKLINE>" ["", " ", "<BLANKLINE>"])) <|
  sseq (sset 8 (mcall F_law_take [] (acsl 0 (acim (mc (.int 8)) (anil))))) <|
  sseq (sset 7 (mif (MM.opt (mop2 ltD (mvar 8) (mc (.int 4))) blD) (mreplI (mvar 7) (mvar 8) " " ["  ", "\t", "", "\n"]) (mvar 7))) <|
  sdrop (mappend 6 (mop2 addD (mvar 7) (mop2 ixD (MM.map (MM.opt (mcons (mc (.str "")) (mcons (mc (.str "")) (mcons (mc (.str " ")) (mnil)))) few) .lst) (mcall F_law_take [] (acsl 0 (acim (mc (.int 3)) (anil))))))))
def m_law_near : SM :=
  sseq (sset 2 (mc (.str ""))) <|
  sseq (sfor (.tup [3, 4]) (MM.opt (mcons (mcall F_law_pieces [] (acim (mvar 1) (anil))) (mnil)) lstD) b_law_near_1) <|
  sseq (sown 6 (MM.opt (mnil) few)) <|
  sseq (sfor (.one 7) (MM.opt (MM.map (fmeth splitM (mvar 2) (mcons (mc (.str "\n")) (mnil))) .lst) seqD) b_law_near_2) <|
  sseq (sset 2 (mmeth joinM (mc (.str "\n")) (mcons (mvar 6) (mnil)))) <|
  sseq (sset 9 (mcall F_law_take [] (acsl 0 (acim (mop2 addD (MM.opt (mcons (mvar 2) (mnil)) lenL) (mc (.int 1))) (anil))))) <|
  sseq (sset 8 (mcall F_law_take [] (acsl 0 (acim (mc (.int 6)) (anil))))) <|
  sseq (sif (MM.opt (mop2 ltD (mvar 8) (mc (.int 3))) blD) (sset 2 (mop2 addD (mop2 addD (msl (mvar 2) (fun env => some (none, env)) (MM.opt (mvar 9) intD)) (mop2 ixD (MM.map (MM.opt (mcons (mc (.str "")) (mcons (mc (.str "a")) (mcons (mc (.str " ")) (mnil)))) few) .lst) (mvar 8))) (msl (mvar 2) (MM.opt (mop2 addD (mvar 9) (mop2 ixD (MM.map (MM.opt (mcons (mc (.int 1)) (mcons (mc (.int 0)) (mcons (mc (.int 1)) (mnil)))) few) .lst) (mvar 8))) intD) (fun env => some (none, env))))) (snx)) <|
  sret (mif (morB (MM.opt (mop2 eqD (msl (mvar 2) (MM.opt (MM.opt (mc (.int 1)) negD) intD) (fun env => some (none, env))) (mc (.str "\n"))) blD) (MM.opt (mop2 eqD (mcall F_law_take [] (acsl 0 (acim (mc (.int 3)) (anil)))) (mc (.int 0))) blD)) (mvar 2) (mop2 addD (mvar 2) (mc (.str "\n"))))
abbrev F_law_near : FM := fnM 10 m_law_near
theorem len_law_near : ∀ args d news, F_law_near args = some (d, news) → news.length = args.length := fun _ _ _ h => fnM_length h
abbrev b_law_1 : SM := (sseq (spar [7, 8] (pcim (mcall F_law_lets [] (acim (mvar 3) (acim (mvar 6) (acim (mvar 4) (anil))))) (pcim (mcall F_law_handed [] (acsl 1 (acim (mop2 addD (mvar 4) (mvar 5)) (anil)))) (pnil)))) <|
  sif (morB (mnotB (MM.opt (mcall F_law_same [] (acim (mcall F_check [] (acim (mvar 3) (acim (mvar 6) (acim (mvar 8) (anil))))) (acim (mvar 7) (anil)))) truD)) (mnotB (MM.opt (mcall F_law_same [] (acim (mcall F_check [] (acim (mvar 3) (acim (mvar 6) (acim (MM.opt (mcons (mvar 8) (mnil)) tupleL) (anil))))) (acim (mvar 7) (anil)))) truD))) (sret (mc (.bl false))) (snx))
abbrev b_law_2 : SM := (sseq (spar [3, 4] (pcim (mcall F_law_want [] (acsl 1 (acim (mc (.int 7)) (acim (mc (.bl false)) (anil))))) (pcim (mcall F_law_rules [] (acsl 1 (anil))) (pnil)))) <|
  sseq (sset 5 (msl (MM.map (MM.opt (mcons (mc (.str "SKIP")) (mcons (mc (.str "IGNORE_EXCEPTION_DETAIL")) (mcons (mc (.str "REPORT_ONLY_FIRST_FAILURE")) (mcons (mc (.str "FAIL_FAST")) (mnil))))) few) .lst) (fun env => some (none, env)) (MM.opt (mcall F_law_take [] (acsl 1 (acim (mc (.int 5)) (anil)))) intD))) <|
  sfor (.one 6) (MM.opt (MM.map (MM.opt (mcons (mcall F_law_near [] (acsl 1 (acim (mvar 3) (anil)))) (mcons (mcall F_law_near [] (acsl 1 (acim (mvar 3) (anil)))) (mcons (mvar 3) (mnil)))) few) .tup) seqD) b_law_1)
def m_law : SM :=
  sseq (sdraws fA fB 1 0) <|
  sseq (sfor (.one 2) (MM.opt (mcons (mc (.int 14)) (mnil)) rng1D) b_law_2) <|
  sseq (sset 4 (MM.map (MM.opt (mcons (mc (.str "ELLIPSIS")) (mcons (mc (.str "NORMALIZE_WHITESPACE")) (mnil))) few) .lst)) <|
  sret (mandV (mop2 isBD (mcall F_check [] (acim (mc (.str "a ...\n")) (acim (mc (.str "a \n")) (acim (msl (mvar 4) (fun env => some (none, env)) (MM.opt (mc (.int 1)) intD)) (anil))))) (mc (.bl true))) (mop2 isBD (mcall F_check [] (acim (mc (.str "a ...\n")) (acim (mc (.str "a \n")) (acim (mvar 4) (anil))))) (mc (.bl false))))
abbrev F_law : FM := fnM 9 m_law
theorem len_law : ∀ args d news, F_law args = some (d, news) → news.length = args.length := fun _ _ _ h => fnM_length h
end Zz

set_option Elab.async false
set_option linter.all false
set_option maxRecDepth 100000
set_option maxHeartbeats 1000000
local macro_rules | `(tactic| walk_at "zs") => `(tactic| simp only [mcall, slots_nil, slots_im, slots_sl, argsE, updE, List.nodup_nil, List.nodup_cons, List.not_mem_nil, List.mem_singleton, not_false_eq_true, and_self, and_true, List.nil_append, List.append_nil, List.cons_append, sseq, sset, sret, sif, snx, sbk, sct, sdrop, sasg, spar, sown, sfor, forL, mtg, Zf.setL, setsE, mop2, mc, mvar, MM.opt, MM.map, mcons, mnil, pnil, pcim, pcow, acim, acsl, anil, mif, mandB, morB, mnotB, mandV, morV, mnotV, mmeth, fmeth, fop2, mlc, lcL, few, blD, truD, intL, seqD, negD, mdr, mdrNe, mdrLen, mdrPop, sdr, DS.at, DS.put, DS.row, mappend, mextend, mpopAt, mlenO, msl, addD_i, subD_i, eqD_i, neD_i, ltD_i, leD_i, gtD_i, geD_i, eqD_s, neD_s, Mu.out, okS_s, okW_nil, okW_cons, okM_no, okM_im, okM_mf, okM_mt, okN_no, okN_im, okN_mu, wipeE, mtrue, List.all_cons, List.all_nil, Bool.and_true, Bool.true_and, Bool.and_self, decide_true, decide_false, reduceIte, if_true, if_false, List.length_cons, List.length_nil, List.getElem?_cons_zero, List.getElem?_cons_succ, List.set_cons_zero, List.set_cons_succ, List.map_cons, List.map_nil, Bool.false_eq_true, Option.some.injEq, Bool.not_true, Bool.not_false, Nat.reduceAdd, Nat.reduceLT, Nat.reduceLeDiff])
/-! the draws -/
namespace Zz
open PySem PySem.Spec L2 Zf
theorem lc_filter {p : Int → Bool} {mt : MM Bool} {e : En} {i : Nat} (hi : okS e i = true) (hw : okW (e.set i (.im (.int 0))) [i] = true) (h : ∀ n, mt (e.set i (.im (.int n))) = some (p n, e.set i (.im (.int n)))) (hself : ∀ n : Int, wipeE (e.set i (.im (.int n))) [i] = e) :
    ∀ ns : List Int, lcL (.one i) [i] mt (mvar i) (ns.map .int) e = some ((ns.filter p).map .int, e)
  | [] => rfl
  | n :: ns => by
    have hl := (okS_of hi).1
    have hw' : okW (e.set i (.im (.int n))) [i] = true := by
      simp [okW, List.getElem?_set_self hl]
    have hv : mvar i (e.set i (.im (.int n))) = some (.int n, e.set i (.im (.int n))) := by
      unfold mvar
      rw [List.getElem?_set_self hl]
    simp only [List.map_cons, lcL, mtg, if_pos hi, h]
    cases q : p n with
    | true => simp only [hv, if_pos hw', hself, lc_filter hi hw h hself ns, List.filter_cons, q]; rfl
    | false => simp only [if_pos hw', hself, lc_filter hi hw h hself ns, List.filter_cons, q]; rfl
theorem mir_law_draws : ∀ ns : List Int, ns.length ≤ 63 → ∃ env', m_law_draws (.im (.scr ns) :: List.replicate (2 - 1) .no) = some ([.ow ((fA ns).map .int), .im (.int 0), .ow ((fB ns).map .int), .im (.int 0)], env') := fun ns hl => by
  refine ⟨[.im (.scr ns), .no], ?_⟩
  have e0 : (Sl.im (.scr ns) :: List.replicate (2 - 1) .no) = [Sl.im (.scr ns), .no] := rfl
  have hlen : (ns.map D.int).length ≤ 100000 ∧ okW [Sl.im (.scr ns), .no] [1] = true := ⟨by simp; omega, rfl⟩
  have h1 := lc_filter (e := [.im (.scr ns), .no]) (i := 1) (p := fun n => decide (10 ^ 18 ≤ n)) (mt := MM.opt (mop2 geD (mvar 1) (mop2 powD (mc (.int 10)) (mc (.int 18)))) blD) rfl rfl (fun n => rfl) (fun n => rfl) ns
  have h2 := lc_filter (e := [.im (.scr ns), .no]) (i := 1) (p := fun n => decide (n < 10 ^ 18)) (mt := MM.opt (mop2 ltD (mvar 1) (mop2 powD (mc (.int 10)) (mc (.int 18)))) blD) rfl rfl (fun n => rfl) (fun n => rfl) ns
  have m0 : MM.opt (mvar 0) seqD [Sl.im (.scr ns), .no] = some (ns.map .int, [Sl.im (.scr ns), .no]) := rfl
  have w0 : wipeE [Sl.im (.scr ns), Sl.no] [1] = [Sl.im (.scr ns), .no] := rfl
  unfold m_law_draws
  rw [e0]
  simp only [pcow, pcim, pnil, mc, mlc, m0, if_pos hlen, w0, h1, h2]
  rfl
/-! take -/
def DOk (s : DS) (c : Int) : Prop := 0 ≤ s.cnt ∧ s.cnt ≤ c ∧ s.A.length ≤ 63
end Zz
namespace Zz
open PySem PySem.Spec L2 Zf
theorem mixed_ok (seed k : Int) (h0 : 0 ≤ k) (h1 : k ≤ 4000000) : ∃ r, F_law_mixed [.im (.int seed), .im (.int k)] = some (.int r, [.im (.int seed), .im (.int k)]) ∧ 0 ≤ r ∧ r < 1000000007 := by
  have a1 : 0 ≤ seed % 2147483647 := Int.emod_nonneg _ (by decide)
  have a2 : seed % 2147483647 < 2147483647 := Int.emod_lt_of_pos _ (by decide)
  obtain ⟨x, hx⟩ : ∃ x, x = seed % 2147483647 + 7919 * k + 104729 := ⟨_, rfl⟩
  have b1 : 0 ≤ x ^ 5 % 2147483629 := Int.emod_nonneg _ (by decide)
  have b2 : x ^ 5 % 2147483629 < 2147483629 := Int.emod_lt_of_pos _ (by decide)
  obtain ⟨f, hf⟩ : ∃ f, f = x ^ 5 % 2147483629 := ⟨_, rfl⟩
  rw [← hf] at b1 b2
  have kk : k * k ≤ 4000000 * 4000000 := Int.mul_le_mul h1 h1 h0 (by decide)
  have kk0 : 0 ≤ k * k := Int.mul_nonneg h0 h0
  obtain ⟨y, hy⟩ : ∃ y, y = f * 48271 + 40503 * k * k + 13 := ⟨_, rfl⟩
  have ha : 40503 * k * k = 40503 * (k * k) := Int.mul_assoc _ _ _
  refine ⟨y ^ 3 % 1000000007, ?_, Int.emod_nonneg _ (by decide), Int.emod_lt_of_pos _ (by decide)⟩
  have px : powD (.int x) (.int 5) = some (.int (x ^ 5)) := powD_p ⟨by decide, by decide, by omega⟩
  have py : powD (.int y) (.int 3) = some (.int (y ^ 3)) := powD_p ⟨by decide, by decide, by omega⟩
  have e1 : modD (.int seed) (.int 2147483647) = some (.int (seed % 2147483647)) := modD_p (by decide)
  have e2 : mulD (.int 7919) (.int k) = some (.int (7919 * k)) := mulD_l (by decide)
  have e3 : modD (.int (x ^ 5)) (.int 2147483629) = some (.int f) := by rw [hf]; exact modD_p (by decide)
  have e4 : mulD (.int f) (.int 48271) = some (.int (f * 48271)) := mulD_r (by decide)
  have e5 : mulD (.int 40503) (.int k) = some (.int (40503 * k)) := mulD_l (by decide)
  have e6 : mulD (.int (40503 * k)) (.int k) = some (.int (40503 * k * k)) := mulD_l (by omega)
  have e7 : modD (.int (y ^ 3)) (.int 1000000007) = some (.int (y ^ 3 % 1000000007)) := modD_p (by decide)
  have body : m_law_mixed [.im (.int seed), .im (.int k), .no] = some (.rt (.int (y ^ 3 % 1000000007)) [.im (.int seed), .im (.int k), .im (.int f)]) := by
    unfold m_law_mixed
    simp only [mcall, slots_nil, slots_im, slots_sl, argsE, updE, List.nodup_nil, List.nodup_cons, List.not_mem_nil, List.mem_singleton, not_false_eq_true, and_self, and_true, List.nil_append, List.append_nil, List.cons_append, sseq, sset, sret, sif, snx, sbk, sct, sdrop, sasg, spar, sown, sfor, forL, mtg, Zf.setL, setsE, mop2, mc, mvar, MM.opt, MM.map, mcons, mnil, pnil, pcim, pcow, acim, acsl, anil, mif, mandB, morB, mnotB, mandV, morV, mnotV, mmeth, fmeth, fop2, mlc, lcL, few, blD, truD, intL, seqD, negD, mdr, mdrNe, mdrLen, mdrPop, sdr, DS.at, DS.put, DS.row, mappend, mextend, mpopAt, mlenO, msl, addD_i, subD_i, eqD_i, neD_i, ltD_i, leD_i, gtD_i, geD_i, eqD_s, neD_s, Mu.out, okS_s, okW_nil, okW_cons, okM_no, okM_im, okM_mf, okM_mt, okN_no, okN_im, okN_mu, wipeE, mtrue, List.all_cons, List.all_nil, Bool.and_true, Bool.true_and, Bool.and_self, decide_true, decide_false, reduceIte, if_true, if_false, List.length_cons, List.length_nil, List.getElem?_cons_zero, List.getElem?_cons_succ, List.set_cons_zero, List.set_cons_succ, List.map_cons, List.map_nil, Bool.false_eq_true, Option.some.injEq, Bool.not_true, Bool.not_false, Nat.reduceAdd, Nat.reduceLT, Nat.reduceLeDiff, e1, e2, ← hx, px, e3, e4, e5, e6, ← hy, py, e7]
  exact fnM_rt (n := 3) (args := [.im (.int seed), .im (.int k)]) (m := m_law_mixed) body
/-- the second statement: a new row's number -/
theorem take2 (A B : List Int) (cur cnt n : Int) (hA : A.length ≤ 63) : ∃ A' cur', A'.length ≤ 63 ∧
    sif (mandB (MM.opt (mop2 eqD (mdr 0 1) (mc (.int 0))) blD) (mdrNe 0 0)) (sdr 0 1 (mdrPop 0)) (snx) [.mu true (.dr ⟨A, cur, B, cnt⟩), .im (.int n), .no, .no, .no] = some (.nx [.mu true (.dr ⟨A', cur', B, cnt⟩), .im (.int n), .no, .no, .no]) := by
  by_cases h : cur = 0
  · cases A with
    | nil => exact ⟨[], cur, hA, by simp only [mcall, slots_nil, slots_im, slots_sl, argsE, updE, List.nodup_nil, List.nodup_cons, List.not_mem_nil, List.mem_singleton, not_false_eq_true, and_self, and_true, List.nil_append, List.append_nil, List.cons_append, sseq, sset, sret, sif, snx, sbk, sct, sdrop, sasg, spar, sown, sfor, forL, mtg, Zf.setL, setsE, mop2, mc, mvar, MM.opt, MM.map, mcons, mnil, pnil, pcim, pcow, acim, acsl, anil, mif, mandB, morB, mnotB, mandV, morV, mnotV, mmeth, fmeth, fop2, mlc, lcL, few, blD, truD, intL, seqD, negD, mdr, mdrNe, mdrLen, mdrPop, sdr, DS.at, DS.put, DS.row, mappend, mextend, mpopAt, mlenO, msl, addD_i, subD_i, eqD_i, neD_i, ltD_i, leD_i, gtD_i, geD_i, eqD_s, neD_s, Mu.out, okS_s, okW_nil, okW_cons, okM_no, okM_im, okM_mf, okM_mt, okN_no, okN_im, okN_mu, wipeE, mtrue, List.all_cons, List.all_nil, Bool.and_true, Bool.true_and, Bool.and_self, decide_true, decide_false, reduceIte, if_true, if_false, List.length_cons, List.length_nil, List.getElem?_cons_zero, List.getElem?_cons_succ, List.set_cons_zero, List.set_cons_succ, List.map_cons, List.map_nil, Bool.false_eq_true, Option.some.injEq, Bool.not_true, Bool.not_false, Nat.reduceAdd, Nat.reduceLT, Nat.reduceLeDiff, h, List.isEmpty_nil]⟩
    | cons a A =>
      have hl : A.length ≤ 1000000 := by simp at hA; omega
      exact ⟨A, a, by simp at hA; omega, by simp only [mcall, slots_nil, slots_im, slots_sl, argsE, updE, List.nodup_nil, List.nodup_cons, List.not_mem_nil, List.mem_singleton, not_false_eq_true, and_self, and_true, List.nil_append, List.append_nil, List.cons_append, sseq, sset, sret, sif, snx, sbk, sct, sdrop, sasg, spar, sown, sfor, forL, mtg, Zf.setL, setsE, mop2, mc, mvar, MM.opt, MM.map, mcons, mnil, pnil, pcim, pcow, acim, acsl, anil, mif, mandB, morB, mnotB, mandV, morV, mnotV, mmeth, fmeth, fop2, mlc, lcL, few, blD, truD, intL, seqD, negD, mdr, mdrNe, mdrLen, mdrPop, sdr, DS.at, DS.put, DS.row, mappend, mextend, mpopAt, mlenO, msl, addD_i, subD_i, eqD_i, neD_i, ltD_i, leD_i, gtD_i, geD_i, eqD_s, neD_s, Mu.out, okS_s, okW_nil, okW_cons, okM_no, okM_im, okM_mf, okM_mt, okN_no, okN_im, okN_mu, wipeE, mtrue, List.all_cons, List.all_nil, Bool.and_true, Bool.true_and, Bool.and_self, decide_true, decide_false, reduceIte, if_true, if_false, List.length_cons, List.length_nil, List.getElem?_cons_zero, List.getElem?_cons_succ, List.set_cons_zero, List.set_cons_succ, List.map_cons, List.map_nil, Bool.false_eq_true, Option.some.injEq, Bool.not_true, Bool.not_false, Nat.reduceAdd, Nat.reduceLT, Nat.reduceLeDiff, h, hl, List.isEmpty_cons]⟩
  · exact ⟨A, cur, hA, by simp only [mcall, slots_nil, slots_im, slots_sl, argsE, updE, List.nodup_nil, List.nodup_cons, List.not_mem_nil, List.mem_singleton, not_false_eq_true, and_self, and_true, List.nil_append, List.append_nil, List.cons_append, sseq, sset, sret, sif, snx, sbk, sct, sdrop, sasg, spar, sown, sfor, forL, mtg, Zf.setL, setsE, mop2, mc, mvar, MM.opt, MM.map, mcons, mnil, pnil, pcim, pcow, acim, acsl, anil, mif, mandB, morB, mnotB, mandV, morV, mnotV, mmeth, fmeth, fop2, mlc, lcL, few, blD, truD, intL, seqD, negD, mdr, mdrNe, mdrLen, mdrPop, sdr, DS.at, DS.put, DS.row, mappend, mextend, mpopAt, mlenO, msl, addD_i, subD_i, eqD_i, neD_i, ltD_i, leD_i, gtD_i, geD_i, eqD_s, neD_s, Mu.out, okS_s, okW_nil, okW_cons, okM_no, okM_im, okM_mf, okM_mt, okN_no, okN_im, okN_mu, wipeE, mtrue, List.all_cons, List.all_nil, Bool.and_true, Bool.true_and, Bool.and_self, decide_true, decide_false, reduceIte, if_true, if_false, List.length_cons, List.length_nil, List.getElem?_cons_zero, List.getElem?_cons_succ, List.set_cons_zero, List.set_cons_succ, List.map_cons, List.map_nil, Bool.false_eq_true, Option.some.injEq, Bool.not_true, Bool.not_false, Nat.reduceAdd, Nat.reduceLT, Nat.reduceLeDiff, h]⟩
/-- the seed -/
theorem take5 (A B : List Int) (cur cnt n : Int) : ∃ seed, sif (mdrNe 0 2) (sset 3 (mdrSeed 0)) (snx) [.mu true (.dr ⟨A, cur, B, cnt⟩), .im (.int n), .no, .im (.int 17), .no] = some (.nx [.mu true (.dr ⟨A, cur, B, cnt⟩), .im (.int n), .no, .im (.int seed), .no]) := by
  cases B with
  | nil => exact ⟨17, by simp only [mcall, slots_nil, slots_im, slots_sl, argsE, updE, List.nodup_nil, List.nodup_cons, List.not_mem_nil, List.mem_singleton, not_false_eq_true, and_self, and_true, List.nil_append, List.append_nil, List.cons_append, sseq, sset, sret, sif, snx, sbk, sct, sdrop, sasg, spar, sown, sfor, forL, mtg, Zf.setL, setsE, mop2, mc, mvar, MM.opt, MM.map, mcons, mnil, pnil, pcim, pcow, acim, acsl, anil, mif, mandB, morB, mnotB, mandV, morV, mnotV, mmeth, fmeth, fop2, mlc, lcL, few, blD, truD, intL, seqD, negD, mdr, mdrNe, mdrLen, mdrPop, sdr, DS.at, DS.put, DS.row, mappend, mextend, mpopAt, mlenO, msl, addD_i, subD_i, eqD_i, neD_i, ltD_i, leD_i, gtD_i, geD_i, eqD_s, neD_s, Mu.out, okS_s, okW_nil, okW_cons, okM_no, okM_im, okM_mf, okM_mt, okN_no, okN_im, okN_mu, wipeE, mtrue, List.all_cons, List.all_nil, Bool.and_true, Bool.true_and, Bool.and_self, decide_true, decide_false, reduceIte, if_true, if_false, List.length_cons, List.length_nil, List.getElem?_cons_zero, List.getElem?_cons_succ, List.set_cons_zero, List.set_cons_succ, List.map_cons, List.map_nil, Bool.false_eq_true, Option.some.injEq, Bool.not_true, Bool.not_false, Nat.reduceAdd, Nat.reduceLT, Nat.reduceLeDiff, List.isEmpty_nil]⟩
  | cons b B =>
    have hp : 0 < (b :: B).length := Nat.succ_pos _
    have h1 : 0 ≤ cnt % ((b :: B).length : Int) := Int.emod_nonneg _ (by omega)
    have h2 : cnt % ((b :: B).length : Int) < ((b :: B).length : Int) := Int.emod_lt_of_pos _ (by omega)
    have h3 : (cnt % ((b :: B).length : Int)).toNat < (b :: B).length := by omega
    have h4 : mdrSeed 0 [.mu true (.dr ⟨A, cur, b :: B, cnt⟩), .im (.int n), .no, .im (.int 17), .no] = some (.int ((b :: B)[(cnt % ((b :: B).length : Int)).toNat]), [.mu true (.dr ⟨A, cur, b :: B, cnt⟩), .im (.int n), .no, .im (.int 17), .no]) := by
      simp only [mdrSeed, List.getElem?_cons_zero, List.getElem?_eq_getElem h3, if_pos hp]
    exact ⟨_, by simp only [mcall, slots_nil, slots_im, slots_sl, argsE, updE, List.nodup_nil, List.nodup_cons, List.not_mem_nil, List.mem_singleton, not_false_eq_true, and_self, and_true, List.nil_append, List.append_nil, List.cons_append, sseq, sset, sret, sif, snx, sbk, sct, sdrop, sasg, spar, sown, sfor, forL, mtg, Zf.setL, setsE, mop2, mc, mvar, MM.opt, MM.map, mcons, mnil, pnil, pcim, pcow, acim, acsl, anil, mif, mandB, morB, mnotB, mandV, morV, mnotV, mmeth, fmeth, fop2, mlc, lcL, few, blD, truD, intL, seqD, negD, mdr, mdrNe, mdrLen, mdrPop, sdr, DS.at, DS.put, DS.row, mappend, mextend, mpopAt, mlenO, msl, addD_i, subD_i, eqD_i, neD_i, ltD_i, leD_i, gtD_i, geD_i, eqD_s, neD_s, Mu.out, okS_s, okW_nil, okW_cons, okM_no, okM_im, okM_mf, okM_mt, okN_no, okN_im, okN_mu, wipeE, mtrue, List.all_cons, List.all_nil, Bool.and_true, Bool.true_and, Bool.and_self, decide_true, decide_false, reduceIte, if_true, if_false, List.length_cons, List.length_nil, List.getElem?_cons_zero, List.getElem?_cons_succ, List.set_cons_zero, List.set_cons_succ, List.map_cons, List.map_nil, Bool.false_eq_true, Option.some.injEq, Bool.not_true, Bool.not_false, Nat.reduceAdd, Nat.reduceLT, Nat.reduceLeDiff, List.isEmpty_cons, h4]; rfl⟩
theorem take_ok (s : DS) (n c : Int) (hs : DOk s c) (hn : 1 ≤ n) (hn2 : n ≤ 1000000007) (hc : c ≤ 1000000) : ∃ r s', F_law_take [.mu true (.dr s), .im (.int n)] = some (.int r, [.mu true (.dr s'), .im (.int n)]) ∧ 0 ≤ r ∧ r < n ∧ DOk s' (c + 1) := by
  obtain ⟨A, cur, B, cnt⟩ := s
  obtain ⟨h0, h1, h2⟩ := hs
  simp only at h0 h1 h2
  obtain ⟨A', cur', h3, h4⟩ := take2 A B cur (cnt + 1) n h2
  have np : 0 < n := by omega
  have hk : 0 ≤ cnt + 1 ∧ cnt + 1 ≤ c + 1 := by omega
  by_cases hc1 : 0 < cur'
  · refine ⟨cur' % n, ⟨A', cur' / n, B, cnt + 1⟩, ?_, Int.emod_nonneg _ (by omega), Int.emod_lt_of_pos _ np, hk.1, hk.2, h3⟩
    have e1 : modD (.int cur') (.int n) = some (.int (cur' % n)) := modD_p np
    have e2 : fdivD (.int cur') (.int n) = some (.int (cur' / n)) := fdivD_p ⟨np, by omega⟩
    have body : m_law_take [.mu true (.dr ⟨A, cur, B, cnt⟩), .im (.int n), .no, .no, .no] = some (.rt (.int (cur' % n)) [.mu true (.dr ⟨A', cur' / n, B, cnt + 1⟩), .im (.int n), .im (.int (cur' % n)), .no, .no]) := by
      unfold m_law_take
      rw [show ∀ a b : SM, sseq a b = fun env => match a env with | some (.nx e1) => b e1 | o => o from fun _ _ => rfl]
      simp only [mcall, slots_nil, slots_im, slots_sl, argsE, updE, List.nodup_nil, List.nodup_cons, List.not_mem_nil, List.mem_singleton, not_false_eq_true, and_self, and_true, List.nil_append, List.append_nil, List.cons_append, sseq, sset, sret, sif, snx, sbk, sct, sdrop, sasg, spar, sown, sfor, forL, mtg, Zf.setL, setsE, mop2, mc, mvar, MM.opt, MM.map, mcons, mnil, pnil, pcim, pcow, acim, acsl, anil, mif, mandB, morB, mnotB, mandV, morV, mnotV, mmeth, fmeth, fop2, mlc, lcL, few, blD, truD, intL, seqD, negD, mdr, mdrNe, mdrLen, mdrPop, sdr, DS.at, DS.put, DS.row, mappend, mextend, mpopAt, mlenO, msl, addD_i, subD_i, eqD_i, neD_i, ltD_i, leD_i, gtD_i, geD_i, eqD_s, neD_s, Mu.out, okS_s, okW_nil, okW_cons, okM_no, okM_im, okM_mf, okM_mt, okN_no, okN_im, okN_mu, wipeE, mtrue, List.all_cons, List.all_nil, Bool.and_true, Bool.true_and, Bool.and_self, decide_true, decide_false, reduceIte, if_true, if_false, List.length_cons, List.length_nil, List.getElem?_cons_zero, List.getElem?_cons_succ, List.set_cons_zero, List.set_cons_succ, List.map_cons, List.map_nil, Bool.false_eq_true, Option.some.injEq, Bool.not_true, Bool.not_false, Nat.reduceAdd, Nat.reduceLT, Nat.reduceLeDiff] at h4
      simp only [mcall, slots_nil, slots_im, slots_sl, argsE, updE, List.nodup_nil, List.nodup_cons, List.not_mem_nil, List.mem_singleton, not_false_eq_true, and_self, and_true, List.nil_append, List.append_nil, List.cons_append, sseq, sset, sret, sif, snx, sbk, sct, sdrop, sasg, spar, sown, sfor, forL, mtg, Zf.setL, setsE, mop2, mc, mvar, MM.opt, MM.map, mcons, mnil, pnil, pcim, pcow, acim, acsl, anil, mif, mandB, morB, mnotB, mandV, morV, mnotV, mmeth, fmeth, fop2, mlc, lcL, few, blD, truD, intL, seqD, negD, mdr, mdrNe, mdrLen, mdrPop, sdr, DS.at, DS.put, DS.row, mappend, mextend, mpopAt, mlenO, msl, addD_i, subD_i, eqD_i, neD_i, ltD_i, leD_i, gtD_i, geD_i, eqD_s, neD_s, Mu.out, okS_s, okW_nil, okW_cons, okM_no, okM_im, okM_mf, okM_mt, okN_no, okN_im, okN_mu, wipeE, mtrue, List.all_cons, List.all_nil, Bool.and_true, Bool.true_and, Bool.and_self, decide_true, decide_false, reduceIte, if_true, if_false, List.length_cons, List.length_nil, List.getElem?_cons_zero, List.getElem?_cons_succ, List.set_cons_zero, List.set_cons_succ, List.map_cons, List.map_nil, Bool.false_eq_true, Option.some.injEq, Bool.not_true, Bool.not_false, Nat.reduceAdd, Nat.reduceLT, Nat.reduceLeDiff, h4, hc1, e1, e2]
    exact fnM_rt (n := 5) (args := [.mu true (.dr ⟨A, cur, B, cnt⟩), .im (.int n)]) (m := m_law_take) body
  · obtain ⟨seed, h5⟩ := take5 A' B cur' (cnt + 1) n
    by_cases hn1 : n = 1
    · refine ⟨0, ⟨A', cur', B, cnt + 1⟩, ?_, by decide, by omega, hk.1, hk.2, h3⟩
      subst hn1
      have e1 : modD (.int 0) (.int 1) = some (.int (0 % 1)) := modD_p (by decide)
      have body : m_law_take [.mu true (.dr ⟨A, cur, B, cnt⟩), .im (.int 1), .no, .no, .no] = some (.rt (.int (0 % 1)) [.mu true (.dr ⟨A', cur', B, cnt + 1⟩), .im (.int 1), .im (.int 0), .im (.int seed), .im (.int 1)]) := by
        unfold m_law_take
        simp only [mcall, slots_nil, slots_im, slots_sl, argsE, updE, List.nodup_nil, List.nodup_cons, List.not_mem_nil, List.mem_singleton, not_false_eq_true, and_self, and_true, List.nil_append, List.append_nil, List.cons_append, sseq, sset, sret, sif, snx, sbk, sct, sdrop, sasg, spar, sown, sfor, forL, mtg, Zf.setL, setsE, mop2, mc, mvar, MM.opt, MM.map, mcons, mnil, pnil, pcim, pcow, acim, acsl, anil, mif, mandB, morB, mnotB, mandV, morV, mnotV, mmeth, fmeth, fop2, mlc, lcL, few, blD, truD, intL, seqD, negD, mdr, mdrNe, mdrLen, mdrPop, sdr, DS.at, DS.put, DS.row, mappend, mextend, mpopAt, mlenO, msl, addD_i, subD_i, eqD_i, neD_i, ltD_i, leD_i, gtD_i, geD_i, eqD_s, neD_s, Mu.out, okS_s, okW_nil, okW_cons, okM_no, okM_im, okM_mf, okM_mt, okN_no, okN_im, okN_mu, wipeE, mtrue, List.all_cons, List.all_nil, Bool.and_true, Bool.true_and, Bool.and_self, decide_true, decide_false, reduceIte, if_true, if_false, List.length_cons, List.length_nil, List.getElem?_cons_zero, List.getElem?_cons_succ, List.set_cons_zero, List.set_cons_succ, List.map_cons, List.map_nil, Bool.false_eq_true, Option.some.injEq, Bool.not_true, Bool.not_false, Nat.reduceAdd, Nat.reduceLT, Nat.reduceLeDiff] at h4 h5
        simp only [mcall, slots_nil, slots_im, slots_sl, argsE, updE, List.nodup_nil, List.nodup_cons, List.not_mem_nil, List.mem_singleton, not_false_eq_true, and_self, and_true, List.nil_append, List.append_nil, List.cons_append, sseq, sset, sret, sif, snx, sbk, sct, sdrop, sasg, spar, sown, sfor, forL, mtg, Zf.setL, setsE, mop2, mc, mvar, MM.opt, MM.map, mcons, mnil, pnil, pcim, pcow, acim, acsl, anil, mif, mandB, morB, mnotB, mandV, morV, mnotV, mmeth, fmeth, fop2, mlc, lcL, few, blD, truD, intL, seqD, negD, mdr, mdrNe, mdrLen, mdrPop, sdr, DS.at, DS.put, DS.row, mappend, mextend, mpopAt, mlenO, msl, addD_i, subD_i, eqD_i, neD_i, ltD_i, leD_i, gtD_i, geD_i, eqD_s, neD_s, Mu.out, okS_s, okW_nil, okW_cons, okM_no, okM_im, okM_mf, okM_mt, okN_no, okN_im, okN_mu, wipeE, mtrue, List.all_cons, List.all_nil, Bool.and_true, Bool.true_and, Bool.and_self, decide_true, decide_false, reduceIte, if_true, if_false, List.length_cons, List.length_nil, List.getElem?_cons_zero, List.getElem?_cons_succ, List.set_cons_zero, List.set_cons_succ, List.map_cons, List.map_nil, Bool.false_eq_true, Option.some.injEq, Bool.not_true, Bool.not_false, Nat.reduceAdd, Nat.reduceLT, Nat.reduceLeDiff, swhile, h4, h5, hc1, e1, Int.lt_irrefl]
      exact fnM_rt (n := 5) (args := [.mu true (.dr ⟨A, cur, B, cnt⟩), .im (.int 1)]) (m := m_law_take) body
    · obtain ⟨r, hr, hr0, hr1⟩ := mixed_ok seed (cnt + 1 + 1009 * (0 % 97)) (by omega) (by omega)
      refine ⟨(0 * 1000000007 + r) % n, ⟨A', cur', B, cnt + 1⟩, ?_, Int.emod_nonneg _ (by omega), Int.emod_lt_of_pos _ np, hk.1, hk.2, h3⟩
      have e1 : modD (.int 0) (.int 97) = some (.int (0 % 97)) := modD_p (by decide)
      have e2 : mulD (.int 1009) (.int (0 % 97)) = some (.int (1009 * (0 % 97))) := mulD_l (by decide)
      have e3 : mulD (.int 0) (.int 1000000007) = some (.int (0 * 1000000007)) := mulD_r (by decide)
      have e4 : mulD (.int 1) (.int 1000000007) = some (.int (1 * 1000000007)) := mulD_r (by decide)
      have e5 : modD (.int (0 * 1000000007 + r)) (.int n) = some (.int ((0 * 1000000007 + r) % n)) := modD_p np
      have c1 : (1 : Int) < n := by omega
      have c2 : ¬ (1 * 1000000007 : Int) < n := by omega
      have body : m_law_take [.mu true (.dr ⟨A, cur, B, cnt⟩), .im (.int n), .no, .no, .no] = some (.rt (.int ((0 * 1000000007 + r) % n)) [.mu true (.dr ⟨A', cur', B, cnt + 1⟩), .im (.int n), .im (.int (0 * 1000000007 + r)), .im (.int seed), .im (.int (1 * 1000000007))]) := by
        unfold m_law_take
        simp only [mcall, slots_nil, slots_im, slots_sl, argsE, updE, List.nodup_nil, List.nodup_cons, List.not_mem_nil, List.mem_singleton, not_false_eq_true, and_self, and_true, List.nil_append, List.append_nil, List.cons_append, sseq, sset, sret, sif, snx, sbk, sct, sdrop, sasg, spar, sown, sfor, forL, mtg, Zf.setL, setsE, mop2, mc, mvar, MM.opt, MM.map, mcons, mnil, pnil, pcim, pcow, acim, acsl, anil, mif, mandB, morB, mnotB, mandV, morV, mnotV, mmeth, fmeth, fop2, mlc, lcL, few, blD, truD, intL, seqD, negD, mdr, mdrNe, mdrLen, mdrPop, sdr, DS.at, DS.put, DS.row, mappend, mextend, mpopAt, mlenO, msl, addD_i, subD_i, eqD_i, neD_i, ltD_i, leD_i, gtD_i, geD_i, eqD_s, neD_s, Mu.out, okS_s, okW_nil, okW_cons, okM_no, okM_im, okM_mf, okM_mt, okN_no, okN_im, okN_mu, wipeE, mtrue, List.all_cons, List.all_nil, Bool.and_true, Bool.true_and, Bool.and_self, decide_true, decide_false, reduceIte, if_true, if_false, List.length_cons, List.length_nil, List.getElem?_cons_zero, List.getElem?_cons_succ, List.set_cons_zero, List.set_cons_succ, List.map_cons, List.map_nil, Bool.false_eq_true, Option.some.injEq, Bool.not_true, Bool.not_false, Nat.reduceAdd, Nat.reduceLT, Nat.reduceLeDiff] at h4 h5
        simp only [mcall, slots_nil, slots_im, slots_sl, argsE, updE, List.nodup_nil, List.nodup_cons, List.not_mem_nil, List.mem_singleton, not_false_eq_true, and_self, and_true, List.nil_append, List.append_nil, List.cons_append, sseq, sset, sret, sif, snx, sbk, sct, sdrop, sasg, spar, sown, sfor, forL, mtg, Zf.setL, setsE, mop2, mc, mvar, MM.opt, MM.map, mcons, mnil, pnil, pcim, pcow, acim, acsl, anil, mif, mandB, morB, mnotB, mandV, morV, mnotV, mmeth, fmeth, fop2, mlc, lcL, few, blD, truD, intL, seqD, negD, mdr, mdrNe, mdrLen, mdrPop, sdr, DS.at, DS.put, DS.row, mappend, mextend, mpopAt, mlenO, msl, addD_i, subD_i, eqD_i, neD_i, ltD_i, leD_i, gtD_i, geD_i, eqD_s, neD_s, Mu.out, okS_s, okW_nil, okW_cons, okM_no, okM_im, okM_mf, okM_mt, okN_no, okN_im, okN_mu, wipeE, mtrue, List.all_cons, List.all_nil, Bool.and_true, Bool.true_and, Bool.and_self, decide_true, decide_false, reduceIte, if_true, if_false, List.length_cons, List.length_nil, List.getElem?_cons_zero, List.getElem?_cons_succ, List.set_cons_zero, List.set_cons_succ, List.map_cons, List.map_nil, Bool.false_eq_true, Option.some.injEq, Bool.not_true, Bool.not_false, Nat.reduceAdd, Nat.reduceLT, Nat.reduceLeDiff, swhile, h4, h5, hc1, c1, c2, e1, e2, e3, e4, hr, e5]
      exact fnM_rt (n := 5) (args := [.mu true (.dr ⟨A, cur, B, cnt⟩), .im (.int n)]) (m := m_law_take) body
theorem pick_ok (s : DS) (xs : List D) (c : Int) (hs : DOk s c) (h1 : 1 ≤ xs.length) (h2 : xs.length ≤ 1000000007) (hc : c ≤ 1000000) : ∃ d s', F_law_pick [.mu true (.dr s), .im (.lst xs)] = some (d, [.mu true (.dr s'), .im (.lst xs)]) ∧ d ∈ xs ∧ DOk s' (c + 1) := by
  obtain ⟨r, s', e, r0, r1, hs'⟩ := take_ok s xs.length c hs (by omega) (by omega) hc
  obtain ⟨d, hd, hm, _⟩ := at_nat (xs := xs) r0 r1
  have e1 : lenL [.lst xs] = some (.int xs.length) := rfl
  have e2 : ixD (.lst xs) (.int r) = some d := hd
  refine ⟨d, s', ?_, hm, hs'⟩
  have body : m_law_pick [.mu true (.dr s), .im (.lst xs)] = some (.rt d [.mu true (.dr s'), .im (.lst xs)]) := by
    unfold m_law_pick
    simp only [mcall, slots_nil, slots_im, slots_sl, argsE, updE, List.nodup_nil, List.nodup_cons, List.not_mem_nil, List.mem_singleton, not_false_eq_true, and_self, and_true, List.nil_append, List.append_nil, List.cons_append, sseq, sset, sret, sif, snx, sbk, sct, sdrop, sasg, spar, sown, sfor, forL, mtg, Zf.setL, setsE, mop2, mc, mvar, MM.opt, MM.map, mcons, mnil, pnil, pcim, pcow, acim, acsl, anil, mif, mandB, morB, mnotB, mandV, morV, mnotV, mmeth, fmeth, fop2, mlc, lcL, few, blD, truD, intL, seqD, negD, mdr, mdrNe, mdrLen, mdrPop, sdr, DS.at, DS.put, DS.row, mappend, mextend, mpopAt, mlenO, msl, addD_i, subD_i, eqD_i, neD_i, ltD_i, leD_i, gtD_i, geD_i, eqD_s, neD_s, Mu.out, okS_s, okW_nil, okW_cons, okM_no, okM_im, okM_mf, okM_mt, okN_no, okN_im, okN_mu, wipeE, mtrue, List.all_cons, List.all_nil, Bool.and_true, Bool.true_and, Bool.and_self, decide_true, decide_false, reduceIte, if_true, if_false, List.length_cons, List.length_nil, List.getElem?_cons_zero, List.getElem?_cons_succ, List.set_cons_zero, List.set_cons_succ, List.map_cons, List.map_nil, Bool.false_eq_true, Option.some.injEq, Bool.not_true, Bool.not_false, Nat.reduceAdd, Nat.reduceLT, Nat.reduceLeDiff, e, e1, e2]
  exact fnM_rt (n := 2) (args := [.mu true (.dr s), .im (.lst xs)]) (m := m_law_pick) body
end Zz

set_option Elab.async false
set_option linter.all false
set_option maxRecDepth 100000
set_option maxHeartbeats 1000000
/-! flags: checked_flags, and the law's way of handing them -/
namespace Zz
open PySem PySem.Spec L2 Zf
def flagsL : List Str := ["DONT_ACCEPT_TRUE_FOR_1", "DONT_ACCEPT_BLANKLINE", "NORMALIZE_WHITESPACE", "ELLIPSIS", "SKIP", "IGNORE_EXCEPTION_DETAIL", "REPORT_ONLY_FIRST_FAILURE", "FAIL_FAST"]
/-- a list or a tuple of these texts -/
def LT (d : D) (fs : List Str) : Prop := d = .lst (fs.map .str) ∨ d = .tup (fs.map .str)
theorem inB_strs {d : D} {fs : List Str} (x : Str) (h : LT d fs) : inB (.str x) d = some (decide (x ∈ fs)) := by
  rcases h with rfl | rfl
  · show (match toV (.str x), toVs (fs.map .str) with
      | some v, some vs => some (inV v vs)
      | _, _ => none) = _
    rw [toVs_strs]
    show some (inV (.str x) (fs.map V.str)) = _
    rw [inV_strs]
  · show (match toV (.str x), toVs (fs.map .str) with
      | some v, some vs => some (inV v vs)
      | _, _ => none) = _
    rw [toVs_strs]
    show some (inV (.str x) (fs.map V.str)) = _
    rw [inV_strs]
theorem inD_strs {d : D} {fs : List Str} (x : Str) (h : LT d fs) : inD (.str x) d = some (.bl (decide (x ∈ fs))) := by unfold inD; rw [inB_strs x h]
theorem ninD_strs {d : D} {fs : List Str} (x : Str) (h : LT d fs) : ninD (.str x) d = some (.bl (!decide (x ∈ fs))) := by unfold ninD; rw [inB_strs x h]
theorem seqD_LT {d : D} {fs : List Str} (h : LT d fs) : seqD d = some (fs.map .str) := by rcases h with rfl | rfl <;> rfl
theorem checked_ok (d : D) (fs : List Str) (h : LT d fs) (hv : ∀ f ∈ fs, f ∈ flagsL) (hl : fs.length ≤ 1000) : F_checked_flags [.im d] = some (.tup (fs.map .str), [.im d]) := by
  obtain ⟨e', h1, t, ht, rfl⟩ := forL_inv (t := .one 1) (mb := b_checked_flags_1) (fun k e => ∃ t, okM t = true ∧ e = [.im d, t]) (fs.map .str) 0 [.im d, .no] ⟨.no, rfl, rfl⟩ (by
    intro i x e hi hp
    obtain ⟨t, ht, rfl⟩ := hp
    rw [List.getElem?_map] at hi
    obtain ⟨f, hf, rfl⟩ := Option.map_eq_some_iff.mp hi
    have hm := hv f (List.mem_of_getElem? hf)
    have e1 : isiD "str" (.str f) = some (.bl true) := rfl
    have e2 := ninD_strs (d := .tup (flagsL.map .str)) (fs := flagsL) f (.inr rfl)
    rw [decide_eq_true hm] at e2
    have e2 : ninD (.str f) (.tup [.str "DONT_ACCEPT_TRUE_FOR_1", .str "DONT_ACCEPT_BLANKLINE", .str "NORMALIZE_WHITESPACE", .str "ELLIPSIS", .str "SKIP", .str "IGNORE_EXCEPTION_DETAIL", .str "REPORT_ONLY_FIRST_FAILURE", .str "FAIL_FAST"]) = some (.bl (!true)) := e2
    unfold b_checked_flags_1
    exact ⟨_, _, (by simp only [z_sseq, z_sset, z_sret, z_sif, z_snx, z_sbk, z_sct, z_sdrop, z_sasg, z_spar, z_sown, z_sfor, z_mop2, z_mc, z_mvar, z_MM_opt, z_MM_map, z_mcons, z_mnil, z_pnil, z_pcim, z_pcow, z_acim, z_acsl, z_anil, z_mif, z_mandB, z_morB, z_mnotB, z_mandV, z_morV, z_mnotV, z_mmeth, z_fmeth, z_fop2, z_mdr, z_mdrNe, z_mdrLen, z_mdrPop, z_sdr, z_mappend, z_mextend, z_mpopAt, z_mlenO, z_mnilO, z_msl, z_mcall, z_saug, z_mmethL, z_sdraws, z_mtrue, slots_nil, slots_im, slots_sl, argsE, updE, List.nodup_nil, List.nodup_cons, List.not_mem_nil, List.mem_singleton, not_false_eq_true, and_self, and_true, List.nil_append, List.append_nil, List.cons_append, mtg, Zf.setL, setsE, few, blD_b, truD_b, truD_i, truD_l, truD_t, intL_i, intL_b, seqD_l, seqD_t, seqD_s, seqD_c, negD_i, DS.at, DS.put, DS.row, addD_i, subD_i, eqD_i, neD_i, ltD_i, leD_i, gtD_i, geD_i, eqD_s, neD_s, out_l, out_d, okS_s, okW_nil, okW_cons, okM_no, okM_im, okM_mf, okM_mt, okN_no, okN_im, okN_mu, wipeE, List.all_cons, List.all_nil, Bool.and_true, Bool.true_and, Bool.and_self, decide_true, decide_false, reduceIte, if_true, if_false, List.length_cons, List.length_nil, List.getElem?_cons_zero, List.getElem?_cons_succ, List.set_cons_zero, List.set_cons_succ, List.map_cons, List.map_nil, Bool.false_eq_true, Option.some.injEq, Bool.not_true, Bool.not_false, Nat.reduceAdd, Nat.reduceLT, Nat.reduceLeDiff, z_mpop0, intD_i, ht] <;> rfl), .inl (by simp only [z_sseq, z_sset, z_sret, z_sif, z_snx, z_sbk, z_sct, z_sdrop, z_sasg, z_spar, z_sown, z_sfor, z_mop2, z_mc, z_mvar, z_MM_opt, z_MM_map, z_mcons, z_mnil, z_pnil, z_pcim, z_pcow, z_acim, z_acsl, z_anil, z_mif, z_mandB, z_morB, z_mnotB, z_mandV, z_morV, z_mnotV, z_mmeth, z_fmeth, z_fop2, z_mdr, z_mdrNe, z_mdrLen, z_mdrPop, z_sdr, z_mappend, z_mextend, z_mpopAt, z_mlenO, z_mnilO, z_msl, z_mcall, z_saug, z_mmethL, z_sdraws, z_mtrue, slots_nil, slots_im, slots_sl, argsE, updE, List.nodup_nil, List.nodup_cons, List.not_mem_nil, List.mem_singleton, not_false_eq_true, and_self, and_true, List.nil_append, List.append_nil, List.cons_append, mtg, Zf.setL, setsE, few, blD_b, truD_b, truD_i, truD_l, truD_t, intL_i, intL_b, seqD_l, seqD_t, seqD_s, seqD_c, negD_i, DS.at, DS.put, DS.row, addD_i, subD_i, eqD_i, neD_i, ltD_i, leD_i, gtD_i, geD_i, eqD_s, neD_s, out_l, out_d, okS_s, okW_nil, okW_cons, okM_no, okM_im, okM_mf, okM_mt, okN_no, okN_im, okN_mu, wipeE, List.all_cons, List.all_nil, Bool.and_true, Bool.true_and, Bool.and_self, decide_true, decide_false, reduceIte, if_true, if_false, List.length_cons, List.length_nil, List.getElem?_cons_zero, List.getElem?_cons_succ, List.set_cons_zero, List.set_cons_succ, List.map_cons, List.map_nil, Bool.false_eq_true, Option.some.injEq, Bool.not_true, Bool.not_false, Nat.reduceAdd, Nat.reduceLT, Nat.reduceLeDiff, z_mpop0, intD_i, e1, e2] <;> rfl), .im (.str f), rfl, rfl⟩)
  have e3 : tupleL [d] = some (.tup (fs.map .str)) := by
    rcases h with rfl | rfl <;> rfl
  have e4 := seqD_LT h
  have body : m_checked_flags [.im d, .no] = some (.rt (.tup (fs.map .str)) [.im d, t]) := by
    unfold m_checked_flags
    simp only [z_sseq, z_sset, z_sret, z_sif, z_snx, z_sbk, z_sct, z_sdrop, z_sasg, z_spar, z_sown, z_sfor, z_mop2, z_mc, z_mvar, z_MM_opt, z_MM_map, z_mcons, z_mnil, z_pnil, z_pcim, z_pcow, z_acim, z_acsl, z_anil, z_mif, z_mandB, z_morB, z_mnotB, z_mandV, z_morV, z_mnotV, z_mmeth, z_fmeth, z_fop2, z_mdr, z_mdrNe, z_mdrLen, z_mdrPop, z_sdr, z_mappend, z_mextend, z_mpopAt, z_mlenO, z_mnilO, z_msl, z_mcall, z_saug, z_mmethL, z_sdraws, z_mtrue, slots_nil, slots_im, slots_sl, argsE, updE, List.nodup_nil, List.nodup_cons, List.not_mem_nil, List.mem_singleton, not_false_eq_true, and_self, and_true, List.nil_append, List.append_nil, List.cons_append, mtg, Zf.setL, setsE, few, blD_b, truD_b, truD_i, truD_l, truD_t, intL_i, intL_b, seqD_l, seqD_t, seqD_s, seqD_c, negD_i, DS.at, DS.put, DS.row, addD_i, subD_i, eqD_i, neD_i, ltD_i, leD_i, gtD_i, geD_i, eqD_s, neD_s, out_l, out_d, okS_s, okW_nil, okW_cons, okM_no, okM_im, okM_mf, okM_mt, okN_no, okN_im, okN_mu, wipeE, List.all_cons, List.all_nil, Bool.and_true, Bool.true_and, Bool.and_self, decide_true, decide_false, reduceIte, if_true, if_false, List.length_cons, List.length_nil, List.getElem?_cons_zero, List.getElem?_cons_succ, List.set_cons_zero, List.set_cons_succ, List.map_cons, List.map_nil, Bool.false_eq_true, Option.some.injEq, Bool.not_true, Bool.not_false, Nat.reduceAdd, Nat.reduceLT, Nat.reduceLeDiff, z_mpop0, intD_i, e4, h1, e3]
  exact fnM_rt (n := 2) (args := [.im d]) (m := m_checked_flags) body
end Zz

set_option Elab.async false
set_option linter.all false
set_option maxRecDepth 100000
set_option maxHeartbeats 1000000
/-! the law's way of handing flags -/
namespace Zz
open PySem PySem.Spec L2 Zf
theorem erase_map {α β : Type} (f : α → β) : ∀ (l : List α) (n : Nat), (l.map f).eraseIdx n = (l.eraseIdx n).map f
  | [], _ => rfl
  | a :: l, 0 => rfl
  | a :: l, n + 1 => by
    show f a :: (l.map f).eraseIdx n = f a :: (l.eraseIdx n).map f
    rw [erase_map f l n]
theorem handed_loop (d : D) : ∀ (m fuel : Nat) (left found : List Str) (s : DS) (c : Int), left.length = m → OkS left → m < fuel → left.length + found.length ≤ 1000 → DOk s c → c + m ≤ 900000 →
    ∃ (fs : List Str) (s' : DS), swhile (mnilO true 2) b_law_handed_1 fuel [.mu true (.dr s), .im d, .mu false (.ml (left.map .str)), .mu false (.ml (found.map .str))] = some (.nx [.mu true (.dr s'), .im d, .mu false (.ml []), .mu false (.ml (fs.map .str))]) ∧ (∀ x, x ∈ fs ↔ x ∈ left ∨ x ∈ found) ∧ fs.length = left.length + found.length ∧ DOk s' (c + m) := by
  intro m
  induction m with
  | zero =>
    intro fuel left found s c hm ho hf hl hs hc
    obtain ⟨fuel, rfl⟩ : ∃ f, fuel = f + 1 := ⟨fuel - 1, by omega⟩
    have : left = [] := List.eq_nil_of_length_eq_zero hm
    subst this
    refine ⟨found, s, swhile_f (nilO_strs (i := 2) (p := false) (xs := []) true (fun _ h => nomatch h) rfl), by simp, by simp, by simpa using hs⟩
  | succ m ih =>
    intro fuel left found s c hm ho hf hl hs hc
    obtain ⟨fuel, rfl⟩ : ∃ f, fuel = f + 1 := ⟨fuel - 1, by omega⟩
    obtain ⟨r, s1, e1, r0, r1, hs1⟩ := take_ok s left.length c hs (by omega) (by omega) (by omega)
    have hr : r.toNat < left.length := by omega
    obtain ⟨x, hx⟩ : ∃ x, left[r.toNat]? = some x := ⟨_, List.getElem?_eq_getElem hr⟩
    have h1 := nilO_strs (e := [.mu true (.dr s), .im d, .mu false (.ml (left.map .str)), .mu false (.ml (found.map .str))]) (i := 2) (xs := left) (p := false) true ho rfl
    have hne : (true != left.isEmpty) = true := by
      cases left with
      | nil => simp at hm
      | cons => rfl
    rw [hne] at h1
    have e2 : (left.map D.str)[r.toNat]? = some (.str x) := by rw [List.getElem?_map, hx]; rfl
    have e3 : (left.map D.str).eraseIdx r.toNat = (left.eraseIdx r.toNat).map D.str := erase_map _ _ _
    have e4 : (left.map D.str).length ≤ 1000000 := by rw [List.length_map]; omega
    have e5 : (found.map D.str).length < 1000000 := by rw [List.length_map]; omega
    have e6 : ((left.map D.str).length : Int) = left.length := by rw [List.length_map]
    have e7 : found.map D.str ++ [D.str x] = (found ++ [x]).map D.str := by rw [List.map_append]; rfl
    have hb : b_law_handed_1 [.mu true (.dr s), .im d, .mu false (.ml (left.map .str)), .mu false (.ml (found.map .str))] = some (.nx [.mu true (.dr s1), .im d, .mu false (.ml ((left.eraseIdx r.toNat).map .str)), .mu false (.ml ((found ++ [x]).map .str))]) := by
      unfold b_law_handed_1
      simp only [z_sseq, z_sset, z_sret, z_sif, z_snx, z_sbk, z_sct, z_sdrop, z_sasg, z_spar, z_sown, z_sfor, z_mop2, z_mc, z_mvar, z_MM_opt, z_MM_map, z_mcons, z_mnil, z_pnil, z_pcim, z_pcow, z_acim, z_acsl, z_anil, z_mif, z_mandB, z_morB, z_mnotB, z_mandV, z_morV, z_mnotV, z_mmeth, z_fmeth, z_fop2, z_mdr, z_mdrNe, z_mdrLen, z_mdrPop, z_sdr, z_mappend, z_mextend, z_mpopAt, z_mlenO, z_mnilO, z_msl, z_mcall, z_saug, z_mmethL, z_sdraws, z_mtrue, slots_nil, slots_im, slots_sl, argsE, updE, List.nodup_nil, List.nodup_cons, List.not_mem_nil, List.mem_singleton, not_false_eq_true, and_self, and_true, List.nil_append, List.append_nil, List.cons_append, mtg, Zf.setL, setsE, few, blD_b, truD_b, truD_i, truD_l, truD_t, intL_i, intL_b, seqD_l, seqD_t, seqD_s, seqD_c, negD_i, DS.at, DS.put, DS.row, addD_i, subD_i, eqD_i, neD_i, ltD_i, leD_i, gtD_i, geD_i, eqD_s, neD_s, out_l, out_d, okS_s, okW_nil, okW_cons, okM_no, okM_im, okM_mf, okM_mt, okN_no, okN_im, okN_mu, wipeE, List.all_cons, List.all_nil, Bool.and_true, Bool.true_and, Bool.and_self, decide_true, decide_false, reduceIte, if_true, if_false, List.length_cons, List.length_nil, List.getElem?_cons_zero, List.getElem?_cons_succ, List.set_cons_zero, List.set_cons_succ, List.map_cons, List.map_nil, Bool.false_eq_true, Option.some.injEq, Bool.not_true, Bool.not_false, Nat.reduceAdd, Nat.reduceLT, Nat.reduceLeDiff, z_mpop0, intD_i, e6, e1, r0, e2, e4, e3, e5, e7]
    have hel : (left.eraseIdx r.toNat).length = m := by rw [List.length_eraseIdx_of_lt hr]; omega
    obtain ⟨fs, s2, e8, hm2, hl2, hs2⟩ := ih fuel (left.eraseIdx r.toNat) (found ++ [x]) s1 (c + 1) hel (fun z hz => ho z (List.mem_of_mem_eraseIdx hz)) (by omega) (by simp; omega) hs1 (by omega)
    refine ⟨fs, s2, (swhile_t h1 hb).trans e8, fun y => ?_, ?_, ?_⟩
    · rw [hm2, List.mem_append, List.mem_singleton]
      have hx2 : left[r.toNat] = x := by
        have := List.getElem?_eq_getElem hr
        rw [hx] at this
        exact (Option.some.inj this).symm
      constructor
      · rintro (h | h | rfl)
        · exact .inl (List.mem_of_mem_eraseIdx h)
        · exact .inr h
        · exact .inl (List.mem_of_getElem? hx)
      · rintro (h | h)
        · obtain ⟨j, hj, rfl⟩ := List.getElem_of_mem h
          by_cases q : j = r.toNat
          · subst q
            exact .inr (.inr hx2)
          · left
            refine List.mem_eraseIdx_iff_getElem.mpr ⟨j, hj, q, rfl⟩
        · exact .inr (.inl h)
    · rw [hl2, hel]; simp; omega
    · have : c + 1 + (m : Int) = c + ((m + 1 : Nat) : Int) := by omega
      rw [← this]
      exact hs2
theorem cut2 (xs : List D) (n : Int) (h0 : 0 ≤ n) : cutD xs none (some n) = xs.take n.toNat := by
  unfold cutD
  rw [HT.sIx_none, List.drop_zero, Nat.sub_zero]
  unfold HT.sIx
  simp only
  rw [if_neg (by omega)]
  by_cases q : n.toNat ≤ xs.length
  · rw [Nat.min_eq_left q]
  · rw [Nat.min_eq_right (by omega), List.take_of_length_le (Nat.le_refl _), List.take_of_length_le (by omega)]
theorem handed_ok (d : D) (rs : List Str) (s : DS) (c : Int) (hd : LT d rs) (hl : rs.length ≤ 400) (ho : OkS rs) (hs : DOk s c) (hc : c ≤ 800000) : ∃ (f : D) (fs : List Str) (s' : DS), F_law_handed [.mu true (.dr s), .im d] = some (f, [.mu true (.dr s'), .im d]) ∧ LT f fs ∧ (∀ x, x ∈ fs ↔ x ∈ rs) ∧ fs.length ≤ 1000 ∧ DOk s' (c + rs.length + 2) := by
  obtain ⟨fs, s1, e1, hm, hl1, hs1⟩ := handed_loop d rs.length 100000 rs [] s c rfl ho (by omega) (by simp; omega) hs (by omega)
  obtain ⟨n, s2, e2, n0, n1, hs2⟩ := take_ok s1 2 (c + rs.length) hs1 (by decide) (by decide) (by omega)
  obtain ⟨w, s3, e3, w0, w1, hs3⟩ := take_ok s2 2 (c + rs.length + 1) hs2 (by decide) (by decide) (by omega)
  obtain ⟨gs, hgs⟩ : ∃ gs, gs = fs ++ fs.take n.toNat := ⟨_, rfl⟩
  have e4 : listL [d] = some (rs.map .str) := by rcases hd with rfl | rfl <;> rfl
  have e5 : few [] = some [] := rfl
  have e6 : slD (.lst (fs.map .str)) none (some n) = some (.lst ((fs.take n.toNat).map .str)) := by
    show some (D.lst (cutD _ _ _)) = _
    rw [cut2 _ _ n0, List.map_take]
  have e7 : addD (.lst (fs.map .str)) (.lst ((fs.take n.toNat).map .str)) = some (.lst (gs.map .str)) := by
    have : (fs.map D.str).length + ((fs.take n.toNat).map D.str).length ≤ 1000000 := by
      rw [List.length_map, List.length_map, List.length_take]; simp at hl1; omega
    simp only [addD, if_pos this]
    rw [hgs, List.map_append]
  have hgl : gs.length ≤ 1000 := by rw [hgs, List.length_append, List.length_take]; simp at hl1; omega
  have hgm : ∀ x, x ∈ gs ↔ x ∈ rs := fun x => by
    rw [hgs, List.mem_append]
    constructor
    · rintro (h | h)
      · simpa using (hm x).mp h
      · simpa using (hm x).mp (List.mem_of_mem_take h)
    · intro h
      exact .inl ((hm x).mpr (.inl h))
  have e8 : tupleL [.lst (gs.map .str)] = some (.tup (gs.map .str)) := rfl
  have e9 : few [.lst (gs.map .str), .tup (gs.map .str)] = some [.lst (gs.map .str), .tup (gs.map .str)] := rfl
  have hw : ∃ f, ixD (.lst [.lst (gs.map .str), .tup (gs.map .str)]) (.int w) = some f ∧ LT f gs := by
    have : w = 0 ∨ w = 1 := by omega
    rcases this with rfl | rfl
    · exact ⟨_, rfl, .inl rfl⟩
    · exact ⟨_, rfl, .inr rfl⟩
  obtain ⟨f, e10, hf⟩ := hw
  refine ⟨f, gs, s3, ?_, hf, hgm, hgl, ⟨hs3.1, by have := hs3.2.1; omega, hs3.2.2⟩⟩
  have body : m_law_handed [.mu true (.dr s), .im d, .no, .no] = some (.rt f [.mu true (.dr s3), .im d, .mu false (.ml []), .im (.lst (gs.map .str))]) := by
    unfold m_law_handed
    refine sseq_nx (e1 := [.mu true (.dr s), .im d, .mu false (.ml (rs.map .str)), .mu false (.ml (([] : List Str).map .str))]) ?_ (sseq_nx e1 (sseq_nx (e1 := [.mu true (.dr s2), .im d, .mu false (.ml []), .im (.lst (gs.map .str))]) ?_ ?_))
    · simp only [z_sseq, z_sset, z_sret, z_sif, z_snx, z_sbk, z_sct, z_sdrop, z_sasg, z_spar, z_sown, z_sfor, z_mop2, z_mc, z_mvar, z_MM_opt, z_MM_map, z_mcons, z_mnil, z_pnil, z_pcim, z_pcow, z_acim, z_acsl, z_anil, z_mif, z_mandB, z_morB, z_mnotB, z_mandV, z_morV, z_mnotV, z_mmeth, z_fmeth, z_fop2, z_mdr, z_mdrNe, z_mdrLen, z_mdrPop, z_sdr, z_mappend, z_mextend, z_mpopAt, z_mlenO, z_mnilO, z_msl, z_mcall, z_saug, z_mmethL, z_sdraws, z_mtrue, slots_nil, slots_im, slots_sl, argsE, updE, List.nodup_nil, List.nodup_cons, List.not_mem_nil, List.mem_singleton, not_false_eq_true, and_self, and_true, List.nil_append, List.append_nil, List.cons_append, mtg, Zf.setL, setsE, few, blD_b, truD_b, truD_i, truD_l, truD_t, intL_i, intL_b, seqD_l, seqD_t, seqD_s, seqD_c, negD_i, DS.at, DS.put, DS.row, addD_i, subD_i, eqD_i, neD_i, ltD_i, leD_i, gtD_i, geD_i, eqD_s, neD_s, out_l, out_d, okS_s, okW_nil, okW_cons, okM_no, okM_im, okM_mf, okM_mt, okN_no, okN_im, okN_mu, wipeE, List.all_cons, List.all_nil, Bool.and_true, Bool.true_and, Bool.and_self, decide_true, decide_false, reduceIte, if_true, if_false, List.length_cons, List.length_nil, List.getElem?_cons_zero, List.getElem?_cons_succ, List.set_cons_zero, List.set_cons_succ, List.map_cons, List.map_nil, Bool.false_eq_true, Option.some.injEq, Bool.not_true, Bool.not_false, Nat.reduceAdd, Nat.reduceLT, Nat.reduceLeDiff, z_mpop0, intD_i, e4, e5]
    · simp only [z_sseq, z_sset, z_sret, z_sif, z_snx, z_sbk, z_sct, z_sdrop, z_sasg, z_spar, z_sown, z_sfor, z_mop2, z_mc, z_mvar, z_MM_opt, z_MM_map, z_mcons, z_mnil, z_pnil, z_pcim, z_pcow, z_acim, z_acsl, z_anil, z_mif, z_mandB, z_morB, z_mnotB, z_mandV, z_morV, z_mnotV, z_mmeth, z_fmeth, z_fop2, z_mdr, z_mdrNe, z_mdrLen, z_mdrPop, z_sdr, z_mappend, z_mextend, z_mpopAt, z_mlenO, z_mnilO, z_msl, z_mcall, z_saug, z_mmethL, z_sdraws, z_mtrue, slots_nil, slots_im, slots_sl, argsE, updE, List.nodup_nil, List.nodup_cons, List.not_mem_nil, List.mem_singleton, not_false_eq_true, and_self, and_true, List.nil_append, List.append_nil, List.cons_append, mtg, Zf.setL, setsE, few, blD_b, truD_b, truD_i, truD_l, truD_t, intL_i, intL_b, seqD_l, seqD_t, seqD_s, seqD_c, negD_i, DS.at, DS.put, DS.row, addD_i, subD_i, eqD_i, neD_i, ltD_i, leD_i, gtD_i, geD_i, eqD_s, neD_s, out_l, out_d, okS_s, okW_nil, okW_cons, okM_no, okM_im, okM_mf, okM_mt, okN_no, okN_im, okN_mu, wipeE, List.all_cons, List.all_nil, Bool.and_true, Bool.true_and, Bool.and_self, decide_true, decide_false, reduceIte, if_true, if_false, List.length_cons, List.length_nil, List.getElem?_cons_zero, List.getElem?_cons_succ, List.set_cons_zero, List.set_cons_succ, List.map_cons, List.map_nil, Bool.false_eq_true, Option.some.injEq, Bool.not_true, Bool.not_false, Nat.reduceAdd, Nat.reduceLT, Nat.reduceLeDiff, z_mpop0, intD_i, e2, e6, e7]
    · simp only [z_sseq, z_sset, z_sret, z_sif, z_snx, z_sbk, z_sct, z_sdrop, z_sasg, z_spar, z_sown, z_sfor, z_mop2, z_mc, z_mvar, z_MM_opt, z_MM_map, z_mcons, z_mnil, z_pnil, z_pcim, z_pcow, z_acim, z_acsl, z_anil, z_mif, z_mandB, z_morB, z_mnotB, z_mandV, z_morV, z_mnotV, z_mmeth, z_fmeth, z_fop2, z_mdr, z_mdrNe, z_mdrLen, z_mdrPop, z_sdr, z_mappend, z_mextend, z_mpopAt, z_mlenO, z_mnilO, z_msl, z_mcall, z_saug, z_mmethL, z_sdraws, z_mtrue, slots_nil, slots_im, slots_sl, argsE, updE, List.nodup_nil, List.nodup_cons, List.not_mem_nil, List.mem_singleton, not_false_eq_true, and_self, and_true, List.nil_append, List.append_nil, List.cons_append, mtg, Zf.setL, setsE, few, blD_b, truD_b, truD_i, truD_l, truD_t, intL_i, intL_b, seqD_l, seqD_t, seqD_s, seqD_c, negD_i, DS.at, DS.put, DS.row, addD_i, subD_i, eqD_i, neD_i, ltD_i, leD_i, gtD_i, geD_i, eqD_s, neD_s, out_l, out_d, okS_s, okW_nil, okW_cons, okM_no, okM_im, okM_mf, okM_mt, okN_no, okN_im, okN_mu, wipeE, List.all_cons, List.all_nil, Bool.and_true, Bool.true_and, Bool.and_self, decide_true, decide_false, reduceIte, if_true, if_false, List.length_cons, List.length_nil, List.getElem?_cons_zero, List.getElem?_cons_succ, List.set_cons_zero, List.set_cons_succ, List.map_cons, List.map_nil, Bool.false_eq_true, Option.some.injEq, Bool.not_true, Bool.not_false, Nat.reduceAdd, Nat.reduceLT, Nat.reduceLeDiff, z_mpop0, intD_i, e8, e9, e3, e10]
  exact fnM_rt (n := 4) (args := [.mu true (.dr s), .im d]) (m := m_law_handed) body
end Zz

set_option Elab.async false
set_option linter.all false
set_option maxRecDepth 100000
set_option maxHeartbeats 1000000
/-! check: the checker's stages and the law's own -/
namespace Zz
open PySem PySem.Spec L2 Zf
def stS : D → List Nat
  | .str z => z.cps.toList
  | _ => []
theorem stS_ml (l : List Nat) : stS (.str (ml l)) = l := rfl
def dlS (ls : List (List Nat)) : List D := ls.map fun l => .str (ml l)
theorem dlS_len (ls : List (List Nat)) : (dlS ls).length = ls.length := by unfold dlS; rw [List.length_map]
theorem dlS_strs (ls : List (List Nat)) : dlS ls = (ls.map ml).map D.str := by unfold dlS; rw [List.map_map]; rfl
theorem map_dlS (f : List Nat → List Nat) (ls : List (List Nat)) : (dlS ls).map (fun d => D.str (ml (f (stS d)))) = dlS (ls.map f) := by
  unfold dlS
  rw [List.map_map, List.map_map]; rfl
theorem ls_map_ml (ls : List (List Nat)) : (ls.map ((fun x : Str => x.cps.toList) ∘ ml)) = ls := (List.map_congr_left fun a _ => ls_ml a).trans (List.map_id' ls)
theorem len_map_ml (ls : List (List Nat)) : (ls.map ((fun x : Str => x.length) ∘ ml)) = ls.map List.length := List.map_congr_left fun a _ => ml_len a
theorem join_c (c : Nat) (ls : List (List Nat)) (h : (ls.map List.length).sum + ls.length ≤ 1000000) : joinM (⟨#[c]⟩ : Str) [.lst (dlS ls)] = some (.str (ml (jn [c] ls))) := by
  rw [dlS_strs, joinM_lst]
  · rw [List.map_map, ls_map_ml]
  · rw [List.map_map, List.length_map, show (⟨#[c]⟩ : Str).length = 1 from rfl, len_map_ml]
    omega
theorem join_nlS (ls : List (List Nat)) (h : (ls.map List.length).sum + ls.length ≤ 1000000) : joinM ("\n" : Str) [.lst (dlS ls)] = some (.str (ml (jn [10] ls))) := by
  rw [show ("\n" : Str) = ⟨#[10]⟩ by decide, join_c 10 ls h]
theorem join_spS (ls : List (List Nat)) (h : (ls.map List.length).sum + ls.length ≤ 1000000) : joinM (" " : Str) [.lst (dlS ls)] = some (.str (ml (jn [32] ls))) := by
  rw [show (" " : Str) = ⟨#[32]⟩ by decide, join_c 32 ls h]
theorem split_nl (z : Str) (h : z.length ≤ 1000000) : splitM z [.str ("\n" : Str)] = some (dlS (sp 10 z.cps.toList)) := by
  rw [show ("\n" : Str) = ⟨#[10]⟩ by decide, splitM_one h]; rfl
theorem sp_sumS (c : Nat) : ∀ l : List Nat, ((sp c l).map List.length).sum + (sp c l).length = l.length + 1
  | [] => rfl
  | d :: l => by
    have ih := sp_sumS c l
    unfold sp
    split
    · simp only [List.map_cons, List.sum_cons, List.length_cons, List.length_nil]; omega
    · split
      · rename_i p r e
        rw [e] at ih
        simp only [List.map_cons, List.sum_cons, List.length_cons] at ih ⊢
        omega
      · rename_i e
        exact absurd e (sp_ne c l)
theorem mem_le_sum {l : List Nat} : ∀ {ls : List (List Nat)}, l ∈ ls → l.length ≤ (ls.map List.length).sum
  | q :: ls, h => by
    simp only [List.map_cons, List.sum_cons]
    rcases List.mem_cons.mp h with rfl | h
    · omega
    · have := mem_le_sum h; omega
theorem nil_eq (l : List Nat) : decide (ml l = ("" : Str)) = decide (l = []) := decide_eq_decide.mpr ⟨fun h => by rw [s_empty] at h; exact h, fun h => by rw [h]; rfl⟩
def GoodL (l : List Nat) : Prop := ∀ c ∈ l, c < 0x110000
theorem strOk_ml {l : List Nat} (h : GoodL l) : PyData.strOk (ml l) = true := by
  unfold PyData.strOk ml
  rw [← Array.all_toList]
  simp only [List.all_eq_true]
  exact fun c hc => decide_eq_true (h c hc)
/-! blanks -/
def bk (c : Nat) : Bool := decide (c = 32) || decide (c = 9)
def bl (l : List Nat) : Bool := l.all bk
theorem trim_nilS (g : Nat → Bool) (l : List Nat) : trimR g (l.dropWhile g) = [] ↔ l.all g = true := by
  have h1 : ∀ l : List Nat, l.dropWhile g = [] ↔ l.all g = true := fun l => by
    induction l with
    | nil => simp
    | cons c l ih =>
      rw [List.dropWhile_cons, List.all_cons]
      cases q : g c with
      | true => simpa using ih
      | false => simp
  unfold trimR
  rw [List.reverse_eq_nil_iff, h1, List.all_reverse]
  constructor
  · intro h
    rw [← h1]
    cases q : l.dropWhile g with
    | nil => rfl
    | cons c r =>
      rw [q, List.all_cons, Bool.and_eq_true] at h
      have := List.head?_dropWhile_not g l
      rw [q] at this
      simp at this
      rw [this] at h
      cases h.1
  · intro h
    rw [(h1 l).mpr h]; rfl
theorem blankC_ok (l : List Nat) (h : l.length ≤ 100000) : F_is_blank [.im (.str (ml l))] = some (.bl (bl l), [.im (.str (ml l))]) := by
  have e2 : stripM Txt.stripChars (ml l) [.str (" \t" : Str)] = some (.str (Txt.stripChars (ml l) (" \t" : Str))) := by
    simp only [stripM]
    exact if_pos (by rw [ml_len]; omega)
  have e3 : decide (Txt.stripChars (ml l) (" \t" : Str) = ("" : Str)) = bl l := by
    have : Txt.stripChars (ml l) (" \t" : Str) = ("" : Str) ↔ bl l = true := by
      rw [s_empty]
      unfold Txt.stripChars
      rw [ls_strip]
      show trimR _ (List.dropWhile _ (ml l).cps.toList) = [] ↔ _
      rw [trim_nilS, ls_ml, show (" \t" : Str).cps = #[32, 9] by decide]
      unfold bl
      have : (#[32, 9] : Array Nat).contains = bk := by
        funext c
        unfold bk
        simp
      rw [this]
    cases q : bl l with
    | true => exact decide_eq_true (this.mpr q)
    | false => exact decide_eq_false fun z => by rw [this.mp z] at q; cases q
  have body : m_is_blank [.im (.str (ml l))] = some (.rt (.bl (bl l)) [.im (.str (ml l))]) := by
    unfold m_is_blank
    simp only [z_sseq, z_sset, z_sret, z_sif, z_snx, z_sbk, z_sct, z_sdrop, z_sasg, z_spar, z_sown, z_sfor, z_mop2, z_mc, z_mvar, z_MM_opt, z_MM_map, z_mcons, z_mnil, z_pnil, z_pcim, z_pcow, z_acim, z_acsl, z_anil, z_mif, z_mandB, z_morB, z_mnotB, z_mandV, z_morV, z_mnotV, z_mmeth, z_fmeth, z_fop2, z_mdr, z_mdrNe, z_mdrLen, z_mdrPop, z_sdr, z_mappend, z_mextend, z_mpopAt, z_mlenO, z_mnilO, z_msl, z_mcall, z_saug, z_mmethL, z_sdraws, z_mtrue, slots_nil, slots_im, slots_sl, argsE, updE, List.nodup_nil, List.nodup_cons, List.not_mem_nil, List.mem_singleton, not_false_eq_true, and_self, and_true, List.nil_append, List.append_nil, List.cons_append, mtg, Zf.setL, setsE, few, blD_b, truD_b, truD_i, truD_l, truD_t, intL_i, intL_b, seqD_l, seqD_t, seqD_s, seqD_c, negD_i, DS.at, DS.put, DS.row, addD_i, subD_i, eqD_i, neD_i, ltD_i, leD_i, gtD_i, geD_i, eqD_s, neD_s, out_l, out_d, okS_s, okW_nil, okW_cons, okM_no, okM_im, okM_mf, okM_mt, okN_no, okN_im, okN_mu, wipeE, List.all_cons, List.all_nil, Bool.and_true, Bool.true_and, Bool.and_self, decide_true, decide_false, reduceIte, if_true, if_false, List.length_cons, List.length_nil, List.getElem?_cons_zero, List.getElem?_cons_succ, List.set_cons_zero, List.set_cons_succ, List.map_cons, List.map_nil, Bool.false_eq_true, Option.some.injEq, Bool.not_true, Bool.not_false, Nat.reduceAdd, Nat.reduceLT, Nat.reduceLeDiff, z_mpop0, intD_i, e2, e3]
  exact fnM_rt (n := 1) (args := [.im (.str (ml l))]) (m := m_is_blank) body
end Zz

set_option Elab.async false
set_option linter.all false
set_option maxRecDepth 100000
set_option maxHeartbeats 1000000
/-! cleared: the program's and the law's; words -/
namespace Zz
open PySem PySem.Spec L2 Zf
def MKc : List Nat := ("<BLANKLINE>" : Str).cps.toList
theorem MKc_ml : ("<BLANKLINE>" : Str) = ml MKc := rfl
theorem MKc_len : MKc.length = 11 := by decide
def clw (p : List Nat) : List Nat := if (decide (p.take 11 = MKc) && bl (p.drop 11)) = true then [] else p
def clg (p : List Nat) : List Nat := if bl p = true then [] else p
def cld (f : List Nat → List Nat) (l : List Nat) : List Nat := jn [10] ((sp 10 l).map f)
theorem clw_len (p : List Nat) : (clw p).length ≤ p.length := by unfold clw; split <;> simp
theorem clg_len (p : List Nat) : (clg p).length ≤ p.length := by unfold clg; split <;> simp
theorem sum_map_le {f : List Nat → List Nat} (h : ∀ p, (f p).length ≤ p.length) : ∀ ls : List (List Nat), ((ls.map f).map List.length).sum ≤ (ls.map List.length).sum
  | [] => Nat.le_refl _
  | p :: ls => by
    have := sum_map_le h ls
    have := h p
    simp only [List.map_cons, List.sum_cons]
    omega
theorem jn_len (c : Nat) : ∀ ls : List (List Nat), (jn [c] ls).length ≤ (ls.map List.length).sum + (ls.length - 1)
  | [] => Nat.le_refl _
  | [p] => by simp [jn]
  | p :: q :: r => by
    have := jn_len c (q :: r)
    simp only [jn, List.length_append, List.map_cons, List.sum_cons, List.length_cons, List.length_nil] at this ⊢
    omega
theorem cld_len {f : List Nat → List Nat} (h : ∀ p, (f p).length ≤ p.length) (l : List Nat) : (cld f l).length ≤ l.length := by
  have h1 := jn_len 10 ((sp 10 l).map f)
  have h2 := sum_map_le h (sp 10 l)
  have h3 := sp_sumS 10 l
  have h4 : 1 ≤ (sp 10 l).length := by
    cases q : sp 10 l with
    | nil => exact absurd q (sp_ne 10 l)
    | cons => simp
  rw [List.length_map] at h1
  unfold cld
  omega
theorem jn_mem (c : Nat) : ∀ (ls : List (List Nat)) (d : Nat), d ∈ jn [c] ls → d = c ∨ ∃ p ∈ ls, d ∈ p
  | [], d, h => by cases h
  | [p], d, h => .inr ⟨p, List.mem_singleton.mpr rfl, h⟩
  | p :: q :: r, d, h => by
    simp only [jn, List.mem_append, List.mem_singleton] at h
    rcases h with (h | h) | h
    · exact .inr ⟨p, List.mem_cons_self, h⟩
    · exact .inl h
    · rcases jn_mem c (q :: r) d h with h | ⟨p', hp, hd⟩
      · exact .inl h
      · exact .inr ⟨p', List.mem_cons_of_mem _ hp, hd⟩
theorem sp_mem (c : Nat) : ∀ (l p : List Nat) (d : Nat), p ∈ sp c l → d ∈ p → d ∈ l
  | [], p, d, h, hd => by rw [sp, List.mem_singleton] at h; subst h; cases hd
  | e :: l, p, d, h, hd => by
    unfold sp at h
    split at h
    · rcases List.mem_cons.mp h with rfl | h
      · cases hd
      · exact List.mem_cons_of_mem _ (sp_mem c l p d h hd)
    · split at h
      · rename_i p0 r q
        rcases List.mem_cons.mp h with rfl | h
        · rcases List.mem_cons.mp hd with rfl | hd
          · exact List.mem_cons_self
          · exact List.mem_cons_of_mem _ (sp_mem c l p0 d (q ▸ List.mem_cons_self) hd)
        · exact List.mem_cons_of_mem _ (sp_mem c l p d (q ▸ List.mem_cons_of_mem _ h) hd)
      · rename_i q
        exact absurd q (sp_ne c l)
theorem cld_mem {f : List Nat → List Nat} (h : ∀ p, f p = [] ∨ f p = p) (l : List Nat) (d : Nat) (hd : d ∈ cld f l) : d = 10 ∨ d ∈ l := by
  rcases jn_mem 10 _ d hd with h1 | ⟨p, hp, hdp⟩
  · exact .inl h1
  · obtain ⟨q, hq, rfl⟩ := List.mem_map.mp hp
    rcases h q with h2 | h2
    · rw [h2] at hdp; cases hdp
    · rw [h2] at hdp
      exact .inr (sp_mem 10 l q d hq hdp)
theorem clw_or (p : List Nat) : clw p = [] ∨ clw p = p := by unfold clw; split <;> simp
theorem clg_or (p : List Nat) : clg p = [] ∨ clg p = p := by unfold clg; split <;> simp
theorem lenL_mk : lenL [.str ("<BLANKLINE>" : Str)] = some (.int ((11 : Nat) : Int)) := rfl
theorem cleared_w (l : List Nat) (h : l.length ≤ 90000) : F_markers_cleared [.im (.str (ml l))] = some (.str (ml (cld clw l)), [.im (.str (ml l))]) := by
  have s0 := split_nl (ml l) (by rw [ml_len]; omega)
  rw [ls_ml] at s0
  have hsum := sp_sumS 10 l
  have c1 : mlc (.one 2) [2] (MM.opt (mvar 1) seqD) (mtrue) (e_markers_cleared_1) [.im (.str (ml l)), .im (.lst (dlS (sp 10 l))), .no] = some (dlS ((sp 10 l).map clw), [.im (.str (ml l)), .im (.lst (dlS (sp 10 l))), .no]) := by
    rw [mlc_m (ds := dlS (sp 10 l)) (fun d => .str (ml (clw (stS d)))) (by simp only [z_sseq, z_sset, z_sret, z_sif, z_snx, z_sbk, z_sct, z_sdrop, z_sasg, z_spar, z_sown, z_sfor, z_mop2, z_mc, z_mvar, z_MM_opt, z_MM_map, z_mcons, z_mnil, z_pnil, z_pcim, z_pcow, z_acim, z_acsl, z_anil, z_mif, z_mandB, z_morB, z_mnotB, z_mandV, z_morV, z_mnotV, z_mmeth, z_fmeth, z_fop2, z_mdr, z_mdrNe, z_mdrLen, z_mdrPop, z_sdr, z_mappend, z_mextend, z_mpopAt, z_mlenO, z_mnilO, z_msl, z_mcall, z_saug, z_mmethL, z_sdraws, z_mtrue, slots_nil, slots_im, slots_sl, argsE, updE, List.nodup_nil, List.nodup_cons, List.not_mem_nil, List.mem_singleton, not_false_eq_true, and_self, and_true, List.nil_append, List.append_nil, List.cons_append, mtg, Zf.setL, setsE, few, blD_b, truD_b, truD_i, truD_l, truD_t, intL_i, intL_b, seqD_l, seqD_t, seqD_s, seqD_c, negD_i, DS.at, DS.put, DS.row, addD_i, subD_i, eqD_i, neD_i, ltD_i, leD_i, gtD_i, geD_i, eqD_s, neD_s, out_l, out_d, okS_s, okW_nil, okW_cons, okM_no, okM_im, okM_mf, okM_mt, okN_no, okN_im, okN_mu, wipeE, List.all_cons, List.all_nil, Bool.and_true, Bool.true_and, Bool.and_self, decide_true, decide_false, reduceIte, if_true, if_false, List.length_cons, List.length_nil, List.getElem?_cons_zero, List.getElem?_cons_succ, List.set_cons_zero, List.set_cons_succ, List.map_cons, List.map_nil, Bool.false_eq_true, Option.some.injEq, Bool.not_true, Bool.not_false, Nat.reduceAdd, Nat.reduceLT, Nat.reduceLeDiff, z_mpop0, intD_i]) (by rw [dlS_len]; omega) rfl (fun d hd => by
      obtain ⟨p, hp, rfl⟩ := List.mem_map.mp hd
      have hll := mem_le_sum hp
      have e1 : startsM (ml p) [.str ("<BLANKLINE>" : Str)] = some (.bl (decide (p.take 11 = MKc))) := by
        show some (D.bl (Txt.startswith (ml p) (ml MKc))) = _
        rw [starts_ml, MKc_len]
      have e2 : slD (.str (ml p)) (some ((11 : Nat) : Int)) none = some (.str (ml (p.drop 11))) := by
        have : (ml p).length ≤ 100000 := by rw [ml_len]; omega
        simp only [slD, if_pos this, cutS_from]
      have e3 := blankC_ok (p.drop 11) (by rw [List.length_drop]; omega)
      rw [stS_ml]
      unfold e_markers_cleared_1 clw
      cases q : decide (p.take 11 = MKc) with
      | false =>
        rw [q] at e1
        simp only [z_sseq, z_sset, z_sret, z_sif, z_snx, z_sbk, z_sct, z_sdrop, z_sasg, z_spar, z_sown, z_sfor, z_mop2, z_mc, z_mvar, z_MM_opt, z_MM_map, z_mcons, z_mnil, z_pnil, z_pcim, z_pcow, z_acim, z_acsl, z_anil, z_mif, z_mandB, z_morB, z_mnotB, z_mandV, z_morV, z_mnotV, z_mmeth, z_fmeth, z_fop2, z_mdr, z_mdrNe, z_mdrLen, z_mdrPop, z_sdr, z_mappend, z_mextend, z_mpopAt, z_mlenO, z_mnilO, z_msl, z_mcall, z_saug, z_mmethL, z_sdraws, z_mtrue, slots_nil, slots_im, slots_sl, argsE, updE, List.nodup_nil, List.nodup_cons, List.not_mem_nil, List.mem_singleton, not_false_eq_true, and_self, and_true, List.nil_append, List.append_nil, List.cons_append, mtg, Zf.setL, setsE, few, blD_b, truD_b, truD_i, truD_l, truD_t, intL_i, intL_b, seqD_l, seqD_t, seqD_s, seqD_c, negD_i, DS.at, DS.put, DS.row, addD_i, subD_i, eqD_i, neD_i, ltD_i, leD_i, gtD_i, geD_i, eqD_s, neD_s, out_l, out_d, okS_s, okW_nil, okW_cons, okM_no, okM_im, okM_mf, okM_mt, okN_no, okN_im, okN_mu, wipeE, List.all_cons, List.all_nil, Bool.and_true, Bool.true_and, Bool.and_self, decide_true, decide_false, reduceIte, if_true, if_false, List.length_cons, List.length_nil, List.getElem?_cons_zero, List.getElem?_cons_succ, List.set_cons_zero, List.set_cons_succ, List.map_cons, List.map_nil, Bool.false_eq_true, Option.some.injEq, Bool.not_true, Bool.not_false, Nat.reduceAdd, Nat.reduceLT, Nat.reduceLeDiff, z_mpop0, intD_i, e1, Bool.false_and]
      | true =>
        rw [q] at e1
        cases q2 : bl (p.drop 11) with
        | false =>
          rw [q2] at e3
          simp only [z_sseq, z_sset, z_sret, z_sif, z_snx, z_sbk, z_sct, z_sdrop, z_sasg, z_spar, z_sown, z_sfor, z_mop2, z_mc, z_mvar, z_MM_opt, z_MM_map, z_mcons, z_mnil, z_pnil, z_pcim, z_pcow, z_acim, z_acsl, z_anil, z_mif, z_mandB, z_morB, z_mnotB, z_mandV, z_morV, z_mnotV, z_mmeth, z_fmeth, z_fop2, z_mdr, z_mdrNe, z_mdrLen, z_mdrPop, z_sdr, z_mappend, z_mextend, z_mpopAt, z_mlenO, z_mnilO, z_msl, z_mcall, z_saug, z_mmethL, z_sdraws, z_mtrue, slots_nil, slots_im, slots_sl, argsE, updE, List.nodup_nil, List.nodup_cons, List.not_mem_nil, List.mem_singleton, not_false_eq_true, and_self, and_true, List.nil_append, List.append_nil, List.cons_append, mtg, Zf.setL, setsE, few, blD_b, truD_b, truD_i, truD_l, truD_t, intL_i, intL_b, seqD_l, seqD_t, seqD_s, seqD_c, negD_i, DS.at, DS.put, DS.row, addD_i, subD_i, eqD_i, neD_i, ltD_i, leD_i, gtD_i, geD_i, eqD_s, neD_s, out_l, out_d, okS_s, okW_nil, okW_cons, okM_no, okM_im, okM_mf, okM_mt, okN_no, okN_im, okN_mu, wipeE, List.all_cons, List.all_nil, Bool.and_true, Bool.true_and, Bool.and_self, decide_true, decide_false, reduceIte, if_true, if_false, List.length_cons, List.length_nil, List.getElem?_cons_zero, List.getElem?_cons_succ, List.set_cons_zero, List.set_cons_succ, List.map_cons, List.map_nil, Bool.false_eq_true, Option.some.injEq, Bool.not_true, Bool.not_false, Nat.reduceAdd, Nat.reduceLT, Nat.reduceLeDiff, z_mpop0, intD_i, e1, lenL_mk, e2, e3, Bool.and_false]
        | true =>
          rw [q2] at e3
          simp only [z_sseq, z_sset, z_sret, z_sif, z_snx, z_sbk, z_sct, z_sdrop, z_sasg, z_spar, z_sown, z_sfor, z_mop2, z_mc, z_mvar, z_MM_opt, z_MM_map, z_mcons, z_mnil, z_pnil, z_pcim, z_pcow, z_acim, z_acsl, z_anil, z_mif, z_mandB, z_morB, z_mnotB, z_mandV, z_morV, z_mnotV, z_mmeth, z_fmeth, z_fop2, z_mdr, z_mdrNe, z_mdrLen, z_mdrPop, z_sdr, z_mappend, z_mextend, z_mpopAt, z_mlenO, z_mnilO, z_msl, z_mcall, z_saug, z_mmethL, z_sdraws, z_mtrue, slots_nil, slots_im, slots_sl, argsE, updE, List.nodup_nil, List.nodup_cons, List.not_mem_nil, List.mem_singleton, not_false_eq_true, and_self, and_true, List.nil_append, List.append_nil, List.cons_append, mtg, Zf.setL, setsE, few, blD_b, truD_b, truD_i, truD_l, truD_t, intL_i, intL_b, seqD_l, seqD_t, seqD_s, seqD_c, negD_i, DS.at, DS.put, DS.row, addD_i, subD_i, eqD_i, neD_i, ltD_i, leD_i, gtD_i, geD_i, eqD_s, neD_s, out_l, out_d, okS_s, okW_nil, okW_cons, okM_no, okM_im, okM_mf, okM_mt, okN_no, okN_im, okN_mu, wipeE, List.all_cons, List.all_nil, Bool.and_true, Bool.true_and, Bool.and_self, decide_true, decide_false, reduceIte, if_true, if_false, List.length_cons, List.length_nil, List.getElem?_cons_zero, List.getElem?_cons_succ, List.set_cons_zero, List.set_cons_succ, List.map_cons, List.map_nil, Bool.false_eq_true, Option.some.injEq, Bool.not_true, Bool.not_false, Nat.reduceAdd, Nat.reduceLT, Nat.reduceLeDiff, z_mpop0, intD_i, e1, lenL_mk, e2, e3, Bool.and_true]
          rfl), map_dlS]
  have c2 := join_nlS ((sp 10 l).map clw) (by have := sum_map_le clw_len (sp 10 l); rw [List.length_map]; omega)
  have body : m_markers_cleared [.im (.str (ml l)), .no, .no] = some (.rt (.str (ml (cld clw l))) [.im (.str (ml l)), .im (.lst (dlS (sp 10 l))), .no]) := by
    unfold m_markers_cleared
    refine sseq_nx (e1 := [.im (.str (ml l)), .im (.lst (dlS (sp 10 l))), .no]) (by simp only [z_sseq, z_sset, z_sret, z_sif, z_snx, z_sbk, z_sct, z_sdrop, z_sasg, z_spar, z_sown, z_sfor, z_mop2, z_mc, z_mvar, z_MM_opt, z_MM_map, z_mcons, z_mnil, z_pnil, z_pcim, z_pcow, z_acim, z_acsl, z_anil, z_mif, z_mandB, z_morB, z_mnotB, z_mandV, z_morV, z_mnotV, z_mmeth, z_fmeth, z_fop2, z_mdr, z_mdrNe, z_mdrLen, z_mdrPop, z_sdr, z_mappend, z_mextend, z_mpopAt, z_mlenO, z_mnilO, z_msl, z_mcall, z_saug, z_mmethL, z_sdraws, z_mtrue, slots_nil, slots_im, slots_sl, argsE, updE, List.nodup_nil, List.nodup_cons, List.not_mem_nil, List.mem_singleton, not_false_eq_true, and_self, and_true, List.nil_append, List.append_nil, List.cons_append, mtg, Zf.setL, setsE, few, blD_b, truD_b, truD_i, truD_l, truD_t, intL_i, intL_b, seqD_l, seqD_t, seqD_s, seqD_c, negD_i, DS.at, DS.put, DS.row, addD_i, subD_i, eqD_i, neD_i, ltD_i, leD_i, gtD_i, geD_i, eqD_s, neD_s, out_l, out_d, okS_s, okW_nil, okW_cons, okM_no, okM_im, okM_mf, okM_mt, okN_no, okN_im, okN_mu, wipeE, List.all_cons, List.all_nil, Bool.and_true, Bool.true_and, Bool.and_self, decide_true, decide_false, reduceIte, if_true, if_false, List.length_cons, List.length_nil, List.getElem?_cons_zero, List.getElem?_cons_succ, List.set_cons_zero, List.set_cons_succ, List.map_cons, List.map_nil, Bool.false_eq_true, Option.some.injEq, Bool.not_true, Bool.not_false, Nat.reduceAdd, Nat.reduceLT, Nat.reduceLeDiff, z_mpop0, intD_i, s0]) ?_
    simp only [z_sseq, z_sset, z_sret, z_sif, z_snx, z_sbk, z_sct, z_sdrop, z_sasg, z_spar, z_sown, z_sfor, z_mop2, z_mc, z_mvar, z_MM_opt, z_MM_map, z_mcons, z_mnil, z_pnil, z_pcim, z_pcow, z_acim, z_acsl, z_anil, z_mif, z_mandB, z_morB, z_mnotB, z_mandV, z_morV, z_mnotV, z_mmeth, z_fmeth, z_fop2, z_mdr, z_mdrNe, z_mdrLen, z_mdrPop, z_sdr, z_mappend, z_mextend, z_mpopAt, z_mlenO, z_mnilO, z_msl, z_mcall, z_saug, z_mmethL, z_sdraws, z_mtrue, slots_nil, slots_im, slots_sl, argsE, updE, List.nodup_nil, List.nodup_cons, List.not_mem_nil, List.mem_singleton, not_false_eq_true, and_self, and_true, List.nil_append, List.append_nil, List.cons_append, mtg, Zf.setL, setsE, few, blD_b, truD_b, truD_i, truD_l, truD_t, intL_i, intL_b, seqD_l, seqD_t, seqD_s, seqD_c, negD_i, DS.at, DS.put, DS.row, addD_i, subD_i, eqD_i, neD_i, ltD_i, leD_i, gtD_i, geD_i, eqD_s, neD_s, out_l, out_d, okS_s, okW_nil, okW_cons, okM_no, okM_im, okM_mf, okM_mt, okN_no, okN_im, okN_mu, wipeE, List.all_cons, List.all_nil, Bool.and_true, Bool.true_and, Bool.and_self, decide_true, decide_false, reduceIte, if_true, if_false, List.length_cons, List.length_nil, List.getElem?_cons_zero, List.getElem?_cons_succ, List.set_cons_zero, List.set_cons_succ, List.map_cons, List.map_nil, Bool.false_eq_true, Option.some.injEq, Bool.not_true, Bool.not_false, Nat.reduceAdd, Nat.reduceLT, Nat.reduceLeDiff, z_mpop0, intD_i, c1, c2]
    rfl
  exact fnM_rt (n := 3) (args := [.im (.str (ml l))]) (m := m_markers_cleared) body
theorem cleared_g (l : List Nat) (h : l.length ≤ 90000) : F_blanks_cleared [.im (.str (ml l))] = some (.str (ml (cld clg l)), [.im (.str (ml l))]) := by
  have s0 := split_nl (ml l) (by rw [ml_len]; omega)
  rw [ls_ml] at s0
  have hsum := sp_sumS 10 l
  have c1 : mlc (.one 1) [1] (MM.opt (MM.map (fmeth splitM (mvar 0) (mcons (mc (.str "\n")) (mnil))) .lst) seqD) (mtrue) (e_blanks_cleared_1) [.im (.str (ml l)), .no] = some (dlS ((sp 10 l).map clg), [.im (.str (ml l)), .no]) := by
    rw [mlc_m (ds := dlS (sp 10 l)) (fun d => .str (ml (clg (stS d)))) (by simp only [z_sseq, z_sset, z_sret, z_sif, z_snx, z_sbk, z_sct, z_sdrop, z_sasg, z_spar, z_sown, z_sfor, z_mop2, z_mc, z_mvar, z_MM_opt, z_MM_map, z_mcons, z_mnil, z_pnil, z_pcim, z_pcow, z_acim, z_acsl, z_anil, z_mif, z_mandB, z_morB, z_mnotB, z_mandV, z_morV, z_mnotV, z_mmeth, z_fmeth, z_fop2, z_mdr, z_mdrNe, z_mdrLen, z_mdrPop, z_sdr, z_mappend, z_mextend, z_mpopAt, z_mlenO, z_mnilO, z_msl, z_mcall, z_saug, z_mmethL, z_sdraws, z_mtrue, slots_nil, slots_im, slots_sl, argsE, updE, List.nodup_nil, List.nodup_cons, List.not_mem_nil, List.mem_singleton, not_false_eq_true, and_self, and_true, List.nil_append, List.append_nil, List.cons_append, mtg, Zf.setL, setsE, few, blD_b, truD_b, truD_i, truD_l, truD_t, intL_i, intL_b, seqD_l, seqD_t, seqD_s, seqD_c, negD_i, DS.at, DS.put, DS.row, addD_i, subD_i, eqD_i, neD_i, ltD_i, leD_i, gtD_i, geD_i, eqD_s, neD_s, out_l, out_d, okS_s, okW_nil, okW_cons, okM_no, okM_im, okM_mf, okM_mt, okN_no, okN_im, okN_mu, wipeE, List.all_cons, List.all_nil, Bool.and_true, Bool.true_and, Bool.and_self, decide_true, decide_false, reduceIte, if_true, if_false, List.length_cons, List.length_nil, List.getElem?_cons_zero, List.getElem?_cons_succ, List.set_cons_zero, List.set_cons_succ, List.map_cons, List.map_nil, Bool.false_eq_true, Option.some.injEq, Bool.not_true, Bool.not_false, Nat.reduceAdd, Nat.reduceLT, Nat.reduceLeDiff, z_mpop0, intD_i, s0]) (by rw [dlS_len]; omega) rfl (fun d hd => by
      obtain ⟨p, hp, rfl⟩ := List.mem_map.mp hd
      have hll := mem_le_sum hp
      have e3 := blankC_ok p (by omega)
      rw [stS_ml]
      unfold e_blanks_cleared_1 clg
      cases q2 : bl p with
      | false =>
        rw [q2] at e3
        simp only [z_sseq, z_sset, z_sret, z_sif, z_snx, z_sbk, z_sct, z_sdrop, z_sasg, z_spar, z_sown, z_sfor, z_mop2, z_mc, z_mvar, z_MM_opt, z_MM_map, z_mcons, z_mnil, z_pnil, z_pcim, z_pcow, z_acim, z_acsl, z_anil, z_mif, z_mandB, z_morB, z_mnotB, z_mandV, z_morV, z_mnotV, z_mmeth, z_fmeth, z_fop2, z_mdr, z_mdrNe, z_mdrLen, z_mdrPop, z_sdr, z_mappend, z_mextend, z_mpopAt, z_mlenO, z_mnilO, z_msl, z_mcall, z_saug, z_mmethL, z_sdraws, z_mtrue, slots_nil, slots_im, slots_sl, argsE, updE, List.nodup_nil, List.nodup_cons, List.not_mem_nil, List.mem_singleton, not_false_eq_true, and_self, and_true, List.nil_append, List.append_nil, List.cons_append, mtg, Zf.setL, setsE, few, blD_b, truD_b, truD_i, truD_l, truD_t, intL_i, intL_b, seqD_l, seqD_t, seqD_s, seqD_c, negD_i, DS.at, DS.put, DS.row, addD_i, subD_i, eqD_i, neD_i, ltD_i, leD_i, gtD_i, geD_i, eqD_s, neD_s, out_l, out_d, okS_s, okW_nil, okW_cons, okM_no, okM_im, okM_mf, okM_mt, okN_no, okN_im, okN_mu, wipeE, List.all_cons, List.all_nil, Bool.and_true, Bool.true_and, Bool.and_self, decide_true, decide_false, reduceIte, if_true, if_false, List.length_cons, List.length_nil, List.getElem?_cons_zero, List.getElem?_cons_succ, List.set_cons_zero, List.set_cons_succ, List.map_cons, List.map_nil, Bool.false_eq_true, Option.some.injEq, Bool.not_true, Bool.not_false, Nat.reduceAdd, Nat.reduceLT, Nat.reduceLeDiff, z_mpop0, intD_i, e3]
      | true =>
        rw [q2] at e3
        simp only [z_sseq, z_sset, z_sret, z_sif, z_snx, z_sbk, z_sct, z_sdrop, z_sasg, z_spar, z_sown, z_sfor, z_mop2, z_mc, z_mvar, z_MM_opt, z_MM_map, z_mcons, z_mnil, z_pnil, z_pcim, z_pcow, z_acim, z_acsl, z_anil, z_mif, z_mandB, z_morB, z_mnotB, z_mandV, z_morV, z_mnotV, z_mmeth, z_fmeth, z_fop2, z_mdr, z_mdrNe, z_mdrLen, z_mdrPop, z_sdr, z_mappend, z_mextend, z_mpopAt, z_mlenO, z_mnilO, z_msl, z_mcall, z_saug, z_mmethL, z_sdraws, z_mtrue, slots_nil, slots_im, slots_sl, argsE, updE, List.nodup_nil, List.nodup_cons, List.not_mem_nil, List.mem_singleton, not_false_eq_true, and_self, and_true, List.nil_append, List.append_nil, List.cons_append, mtg, Zf.setL, setsE, few, blD_b, truD_b, truD_i, truD_l, truD_t, intL_i, intL_b, seqD_l, seqD_t, seqD_s, seqD_c, negD_i, DS.at, DS.put, DS.row, addD_i, subD_i, eqD_i, neD_i, ltD_i, leD_i, gtD_i, geD_i, eqD_s, neD_s, out_l, out_d, okS_s, okW_nil, okW_cons, okM_no, okM_im, okM_mf, okM_mt, okN_no, okN_im, okN_mu, wipeE, List.all_cons, List.all_nil, Bool.and_true, Bool.true_and, Bool.and_self, decide_true, decide_false, reduceIte, if_true, if_false, List.length_cons, List.length_nil, List.getElem?_cons_zero, List.getElem?_cons_succ, List.set_cons_zero, List.set_cons_succ, List.map_cons, List.map_nil, Bool.false_eq_true, Option.some.injEq, Bool.not_true, Bool.not_false, Nat.reduceAdd, Nat.reduceLT, Nat.reduceLeDiff, z_mpop0, intD_i, e3]
        rfl), map_dlS]
  have c2 := join_nlS ((sp 10 l).map clg) (by have := sum_map_le clg_len (sp 10 l); rw [List.length_map]; omega)
  have body : m_blanks_cleared [.im (.str (ml l)), .no] = some (.rt (.str (ml (cld clg l))) [.im (.str (ml l)), .no]) := by
    unfold m_blanks_cleared
    simp only [z_sseq, z_sset, z_sret, z_sif, z_snx, z_sbk, z_sct, z_sdrop, z_sasg, z_spar, z_sown, z_sfor, z_mop2, z_mc, z_mvar, z_MM_opt, z_MM_map, z_mcons, z_mnil, z_pnil, z_pcim, z_pcow, z_acim, z_acsl, z_anil, z_mif, z_mandB, z_morB, z_mnotB, z_mandV, z_morV, z_mnotV, z_mmeth, z_fmeth, z_fop2, z_mdr, z_mdrNe, z_mdrLen, z_mdrPop, z_sdr, z_mappend, z_mextend, z_mpopAt, z_mlenO, z_mnilO, z_msl, z_mcall, z_saug, z_mmethL, z_sdraws, z_mtrue, slots_nil, slots_im, slots_sl, argsE, updE, List.nodup_nil, List.nodup_cons, List.not_mem_nil, List.mem_singleton, not_false_eq_true, and_self, and_true, List.nil_append, List.append_nil, List.cons_append, mtg, Zf.setL, setsE, few, blD_b, truD_b, truD_i, truD_l, truD_t, intL_i, intL_b, seqD_l, seqD_t, seqD_s, seqD_c, negD_i, DS.at, DS.put, DS.row, addD_i, subD_i, eqD_i, neD_i, ltD_i, leD_i, gtD_i, geD_i, eqD_s, neD_s, out_l, out_d, okS_s, okW_nil, okW_cons, okM_no, okM_im, okM_mf, okM_mt, okN_no, okN_im, okN_mu, wipeE, List.all_cons, List.all_nil, Bool.and_true, Bool.true_and, Bool.and_self, decide_true, decide_false, reduceIte, if_true, if_false, List.length_cons, List.length_nil, List.getElem?_cons_zero, List.getElem?_cons_succ, List.set_cons_zero, List.set_cons_succ, List.map_cons, List.map_nil, Bool.false_eq_true, Option.some.injEq, Bool.not_true, Bool.not_false, Nat.reduceAdd, Nat.reduceLT, Nat.reduceLeDiff, z_mpop0, intD_i, c1, c2]
    rfl
  exact fnM_rt (n := 2) (args := [.im (.str (ml l))]) (m := m_blanks_cleared) body
/-! the law's -/
theorem one_in (c : Nat) (y : List Nat) : inB (.str ⟨#[c]⟩) (.str (ml y)) = some (decide (c ∈ y)) := by
  show some (subS _ _) = _
  rw [subS_one]
  rw [ls_ml]
theorem ones_strsC (l : List Nat) : signsD (ml l) = (l.map fun c => (⟨#[c]⟩ : Str)).map D.str := by
  unfold signsD
  rw [List.map_map, ls_ml]; rfl
theorem bareC_ok (l : List Nat) (h : GoodL l) : eqD (.lst (((l.map fun c => (⟨#[c]⟩ : Str)).filter fun s => !decide (s.cps.toList.headD 0 ∈ [32, 9])).map D.str)) (.lst []) = some (.bl (bl l)) := by
  have ho : OkS ((l.map fun c => (⟨#[c]⟩ : Str)).filter fun s => !decide (s.cps.toList.headD 0 ∈ [32, 9])) := fun s hs => by
    obtain ⟨h1, _⟩ := List.mem_filter.mp hs
    obtain ⟨c, hc, rfl⟩ := List.mem_map.mp h1
    exact strOk_ml (l := [c]) (fun d hd => by rw [List.mem_singleton.mp hd]; exact h c hc)
  refine (eqD_strs _ [] ho (fun _ h => nomatch h)).trans ?_
  congr 2
  unfold bl
  rw [Bool.eq_iff_iff, decide_eq_true_eq, List.filter_eq_nil_iff, List.all_eq_true]
  have hb : ∀ c, bk c = decide (c ∈ [32, 9]) := fun c => by unfold bk; simp
  constructor
  · intro hh c hc
    have := hh _ (List.mem_map.mpr ⟨c, hc, rfl⟩)
    rw [hb]
    simp only [Bool.not_eq_true', decide_eq_false_iff_not, Classical.not_not, decide_eq_true_eq] at this ⊢
    exact this
  · intro hh s hs
    obtain ⟨c, hc, rfl⟩ := List.mem_map.mp hs
    have := hh c hc
    rw [hb] at this
    simp only [Bool.not_eq_true', decide_eq_false_iff_not, Classical.not_not, decide_eq_true_eq] at this ⊢
    exact this
def clx (b : Bool) : List Nat → List Nat := if b then clw else clg
theorem law_cleared_line (l p : List Nat) (b : Bool) (hp : p.length ≤ 95000) (hg : GoodL p) (fs : List D) (t4 t5 : Sl) (h4 : okM t4 = true) (h5 : okM t5 = true) (hf : fs.length < 1000000) :
    ∃ u4 u5, okM u4 = true ∧ okM u5 = true ∧ b_law_cleared_2 [.im (.str (ml l)), .im (.bl b), .mu false (.ml fs), .im (.str (ml p)), t4, t5, .no] = some (.nx [.im (.str (ml l)), .im (.bl b), .mu false (.ml (fs ++ [.str (ml (clx b p))])), .im (.str (ml p)), u4, u5, .no]) := by
  have k1 : (ml p).length ≤ 100000 := by rw [ml_len]; omega
  have e1 : slD (.str (ml p)) none (some 11) = some (.str (ml (p.take 11))) := by
    simp only [slD, if_pos k1]
    rw [show (11 : Int) = ((11 : Nat) : Int) from rfl, cutS_to]
  have e2 : slD (.str (ml p)) (some 11) none = some (.str (ml (p.drop 11))) := by
    simp only [slD, if_pos k1]
    rw [show (11 : Int) = ((11 : Nat) : Int) from rfl, cutS_from]
  have e3 : decide (ml (p.take 11) = ("<BLANKLINE>" : Str)) = decide (p.take 11 = MKc) := by
    rw [MKc_ml]
    exact decide_eq_decide.mpr ml_inj
  have hgd : GoodL (p.drop 11) := fun c hc => hg c (List.mem_of_mem_drop hc)
  have hf0 : few [] = some [] := rfl
  have key : ∀ (q : List Nat) (s5 : Sl), q.length ≤ 95000 → mlc (.one 6) [6] (MM.opt (mvar 4) seqD) (t_law_cleared_1) (mvar 6) [.im (.str (ml l)), .im (.bl b), .mu false (.ml fs), .im (.str (ml p)), .im (.str (ml q)), s5, .no] = some (((q.map fun c => (⟨#[c]⟩ : Str)).filter fun s => !decide (s.cps.toList.headD 0 ∈ [32, 9])).map D.str, [.im (.str (ml l)), .im (.bl b), .mu false (.ml fs), .im (.str (ml p)), .im (.str (ml q)), s5, .no]) := fun q s5 hq => by
    rw [mlc_fm (ds := signsD (ml q)) (fun d => !decide ((stS d).headD 0 ∈ [32, 9])) id (by simp only [z_sseq, z_sset, z_sret, z_sif, z_snx, z_sbk, z_sct, z_sdrop, z_sasg, z_spar, z_sown, z_sfor, z_mop2, z_mc, z_mvar, z_MM_opt, z_MM_map, z_mcons, z_mnil, z_pnil, z_pcim, z_pcow, z_acim, z_acsl, z_anil, z_mif, z_mandB, z_morB, z_mnotB, z_mandV, z_morV, z_mnotV, z_mmeth, z_fmeth, z_fop2, z_mdr, z_mdrNe, z_mdrLen, z_mdrPop, z_sdr, z_mappend, z_mextend, z_mpopAt, z_mlenO, z_mnilO, z_msl, z_mcall, z_saug, z_mmethL, z_sdraws, z_mtrue, slots_nil, slots_im, slots_sl, argsE, updE, List.nodup_nil, List.nodup_cons, List.not_mem_nil, List.mem_singleton, not_false_eq_true, and_self, and_true, List.nil_append, List.append_nil, List.cons_append, mtg, Zf.setL, setsE, few, blD_b, truD_b, truD_i, truD_l, truD_t, intL_i, intL_b, seqD_l, seqD_t, seqD_s, seqD_c, negD_i, DS.at, DS.put, DS.row, addD_i, subD_i, eqD_i, neD_i, ltD_i, leD_i, gtD_i, geD_i, eqD_s, neD_s, out_l, out_d, okS_s, okW_nil, okW_cons, okM_no, okM_im, okM_mf, okM_mt, okN_no, okN_im, okN_mu, wipeE, List.all_cons, List.all_nil, Bool.and_true, Bool.true_and, Bool.and_self, decide_true, decide_false, reduceIte, if_true, if_false, List.length_cons, List.length_nil, List.getElem?_cons_zero, List.getElem?_cons_succ, List.set_cons_zero, List.set_cons_succ, List.map_cons, List.map_nil, Bool.false_eq_true, Option.some.injEq, Bool.not_true, Bool.not_false, Nat.reduceAdd, Nat.reduceLT, Nat.reduceLeDiff, z_mpop0, intD_i]) (by unfold signsD; rw [List.length_map, ls_ml]; omega) rfl (fun d hd => by
      obtain ⟨ch, _, rfl⟩ := List.mem_map.mp hd
      refine ⟨?_, fun _ => ?_⟩
      · unfold t_law_cleared_1
        have : ninD (.str ⟨#[ch]⟩) (.str (" \t" : Str)) = some (.bl (!decide (ch ∈ [32, 9]))) := by
          unfold ninD
          rw [show (" \t" : Str) = ml [32, 9] by decide, one_in]
        simp only [z_sseq, z_sset, z_sret, z_sif, z_snx, z_sbk, z_sct, z_sdrop, z_sasg, z_spar, z_sown, z_sfor, z_mop2, z_mc, z_mvar, z_MM_opt, z_MM_map, z_mcons, z_mnil, z_pnil, z_pcim, z_pcow, z_acim, z_acsl, z_anil, z_mif, z_mandB, z_morB, z_mnotB, z_mandV, z_morV, z_mnotV, z_mmeth, z_fmeth, z_fop2, z_mdr, z_mdrNe, z_mdrLen, z_mdrPop, z_sdr, z_mappend, z_mextend, z_mpopAt, z_mlenO, z_mnilO, z_msl, z_mcall, z_saug, z_mmethL, z_sdraws, z_mtrue, slots_nil, slots_im, slots_sl, argsE, updE, List.nodup_nil, List.nodup_cons, List.not_mem_nil, List.mem_singleton, not_false_eq_true, and_self, and_true, List.nil_append, List.append_nil, List.cons_append, mtg, Zf.setL, setsE, few, blD_b, truD_b, truD_i, truD_l, truD_t, intL_i, intL_b, seqD_l, seqD_t, seqD_s, seqD_c, negD_i, DS.at, DS.put, DS.row, addD_i, subD_i, eqD_i, neD_i, ltD_i, leD_i, gtD_i, geD_i, eqD_s, neD_s, out_l, out_d, okS_s, okW_nil, okW_cons, okM_no, okM_im, okM_mf, okM_mt, okN_no, okN_im, okN_mu, wipeE, List.all_cons, List.all_nil, Bool.and_true, Bool.true_and, Bool.and_self, decide_true, decide_false, reduceIte, if_true, if_false, List.length_cons, List.length_nil, List.getElem?_cons_zero, List.getElem?_cons_succ, List.set_cons_zero, List.set_cons_succ, List.map_cons, List.map_nil, Bool.false_eq_true, Option.some.injEq, Bool.not_true, Bool.not_false, Nat.reduceAdd, Nat.reduceLT, Nat.reduceLeDiff, z_mpop0, intD_i, this]
        rfl
      · simp only [z_sseq, z_sset, z_sret, z_sif, z_snx, z_sbk, z_sct, z_sdrop, z_sasg, z_spar, z_sown, z_sfor, z_mop2, z_mc, z_mvar, z_MM_opt, z_MM_map, z_mcons, z_mnil, z_pnil, z_pcim, z_pcow, z_acim, z_acsl, z_anil, z_mif, z_mandB, z_morB, z_mnotB, z_mandV, z_morV, z_mnotV, z_mmeth, z_fmeth, z_fop2, z_mdr, z_mdrNe, z_mdrLen, z_mdrPop, z_sdr, z_mappend, z_mextend, z_mpopAt, z_mlenO, z_mnilO, z_msl, z_mcall, z_saug, z_mmethL, z_sdraws, z_mtrue, slots_nil, slots_im, slots_sl, argsE, updE, List.nodup_nil, List.nodup_cons, List.not_mem_nil, List.mem_singleton, not_false_eq_true, and_self, and_true, List.nil_append, List.append_nil, List.cons_append, mtg, Zf.setL, setsE, few, blD_b, truD_b, truD_i, truD_l, truD_t, intL_i, intL_b, seqD_l, seqD_t, seqD_s, seqD_c, negD_i, DS.at, DS.put, DS.row, addD_i, subD_i, eqD_i, neD_i, ltD_i, leD_i, gtD_i, geD_i, eqD_s, neD_s, out_l, out_d, okS_s, okW_nil, okW_cons, okM_no, okM_im, okM_mf, okM_mt, okN_no, okN_im, okN_mu, wipeE, List.all_cons, List.all_nil, Bool.and_true, Bool.true_and, Bool.and_self, decide_true, decide_false, reduceIte, if_true, if_false, List.length_cons, List.length_nil, List.getElem?_cons_zero, List.getElem?_cons_succ, List.set_cons_zero, List.set_cons_succ, List.map_cons, List.map_nil, Bool.false_eq_true, Option.some.injEq, Bool.not_true, Bool.not_false, Nat.reduceAdd, Nat.reduceLT, Nat.reduceLeDiff, z_mpop0, intD_i]; rfl)]
    rw [List.map_id, ones_strsC, List.filter_map]
    congr 3
  unfold b_law_cleared_2
  cases b with
  | false =>
    have g2 := bareC_ok p hg
    refine ⟨.im (.str (ml p)), .im (.bl (bl p)), rfl, rfl, ?_⟩
    show _ = some (Out.nx [_, _, .mu false (.ml (fs ++ [.str (ml (clg p))])), _, _, _, _])
    unfold clg
    refine sseq_nx (e1 := [.im (.str (ml l)), .im (.bl false), .mu false (.ml fs), .im (.str (ml p)), .im (.str (ml p)), t5, .no]) (by simp only [z_sseq, z_sset, z_sret, z_sif, z_snx, z_sbk, z_sct, z_sdrop, z_sasg, z_spar, z_sown, z_sfor, z_mop2, z_mc, z_mvar, z_MM_opt, z_MM_map, z_mcons, z_mnil, z_pnil, z_pcim, z_pcow, z_acim, z_acsl, z_anil, z_mif, z_mandB, z_morB, z_mnotB, z_mandV, z_morV, z_mnotV, z_mmeth, z_fmeth, z_fop2, z_mdr, z_mdrNe, z_mdrLen, z_mdrPop, z_sdr, z_mappend, z_mextend, z_mpopAt, z_mlenO, z_mnilO, z_msl, z_mcall, z_saug, z_mmethL, z_sdraws, z_mtrue, slots_nil, slots_im, slots_sl, argsE, updE, List.nodup_nil, List.nodup_cons, List.not_mem_nil, List.mem_singleton, not_false_eq_true, and_self, and_true, List.nil_append, List.append_nil, List.cons_append, mtg, Zf.setL, setsE, few, blD_b, truD_b, truD_i, truD_l, truD_t, intL_i, intL_b, seqD_l, seqD_t, seqD_s, seqD_c, negD_i, DS.at, DS.put, DS.row, addD_i, subD_i, eqD_i, neD_i, ltD_i, leD_i, gtD_i, geD_i, eqD_s, neD_s, out_l, out_d, okS_s, okW_nil, okW_cons, okM_no, okM_im, okM_mf, okM_mt, okN_no, okN_im, okN_mu, wipeE, List.all_cons, List.all_nil, Bool.and_true, Bool.true_and, Bool.and_self, decide_true, decide_false, reduceIte, if_true, if_false, List.length_cons, List.length_nil, List.getElem?_cons_zero, List.getElem?_cons_succ, List.set_cons_zero, List.set_cons_succ, List.map_cons, List.map_nil, Bool.false_eq_true, Option.some.injEq, Bool.not_true, Bool.not_false, Nat.reduceAdd, Nat.reduceLT, Nat.reduceLeDiff, z_mpop0, intD_i, h4]) ?_
    refine sseq_nx (e1 := [.im (.str (ml l)), .im (.bl false), .mu false (.ml fs), .im (.str (ml p)), .im (.str (ml p)), .im (.bl (bl p)), .no]) (by simp only [z_sseq, z_sset, z_sret, z_sif, z_snx, z_sbk, z_sct, z_sdrop, z_sasg, z_spar, z_sown, z_sfor, z_mop2, z_mc, z_mvar, z_MM_opt, z_MM_map, z_mcons, z_mnil, z_pnil, z_pcim, z_pcow, z_acim, z_acsl, z_anil, z_mif, z_mandB, z_morB, z_mnotB, z_mandV, z_morV, z_mnotV, z_mmeth, z_fmeth, z_fop2, z_mdr, z_mdrNe, z_mdrLen, z_mdrPop, z_sdr, z_mappend, z_mextend, z_mpopAt, z_mlenO, z_mnilO, z_msl, z_mcall, z_saug, z_mmethL, z_sdraws, z_mtrue, slots_nil, slots_im, slots_sl, argsE, updE, List.nodup_nil, List.nodup_cons, List.not_mem_nil, List.mem_singleton, not_false_eq_true, and_self, and_true, List.nil_append, List.append_nil, List.cons_append, mtg, Zf.setL, setsE, few, blD_b, truD_b, truD_i, truD_l, truD_t, intL_i, intL_b, seqD_l, seqD_t, seqD_s, seqD_c, negD_i, DS.at, DS.put, DS.row, addD_i, subD_i, eqD_i, neD_i, ltD_i, leD_i, gtD_i, geD_i, eqD_s, neD_s, out_l, out_d, okS_s, okW_nil, okW_cons, okM_no, okM_im, okM_mf, okM_mt, okN_no, okN_im, okN_mu, wipeE, List.all_cons, List.all_nil, Bool.and_true, Bool.true_and, Bool.and_self, decide_true, decide_false, reduceIte, if_true, if_false, List.length_cons, List.length_nil, List.getElem?_cons_zero, List.getElem?_cons_succ, List.set_cons_zero, List.set_cons_succ, List.map_cons, List.map_nil, Bool.false_eq_true, Option.some.injEq, Bool.not_true, Bool.not_false, Nat.reduceAdd, Nat.reduceLT, Nat.reduceLeDiff, z_mpop0, intD_i, key p t5 hp, hf0, g2, h5]) ?_
    cases q2 : bl p with
    | false => simp only [z_sseq, z_sset, z_sret, z_sif, z_snx, z_sbk, z_sct, z_sdrop, z_sasg, z_spar, z_sown, z_sfor, z_mop2, z_mc, z_mvar, z_MM_opt, z_MM_map, z_mcons, z_mnil, z_pnil, z_pcim, z_pcow, z_acim, z_acsl, z_anil, z_mif, z_mandB, z_morB, z_mnotB, z_mandV, z_morV, z_mnotV, z_mmeth, z_fmeth, z_fop2, z_mdr, z_mdrNe, z_mdrLen, z_mdrPop, z_sdr, z_mappend, z_mextend, z_mpopAt, z_mlenO, z_mnilO, z_msl, z_mcall, z_saug, z_mmethL, z_sdraws, z_mtrue, slots_nil, slots_im, slots_sl, argsE, updE, List.nodup_nil, List.nodup_cons, List.not_mem_nil, List.mem_singleton, not_false_eq_true, and_self, and_true, List.nil_append, List.append_nil, List.cons_append, mtg, Zf.setL, setsE, few, blD_b, truD_b, truD_i, truD_l, truD_t, intL_i, intL_b, seqD_l, seqD_t, seqD_s, seqD_c, negD_i, DS.at, DS.put, DS.row, addD_i, subD_i, eqD_i, neD_i, ltD_i, leD_i, gtD_i, geD_i, eqD_s, neD_s, out_l, out_d, okS_s, okW_nil, okW_cons, okM_no, okM_im, okM_mf, okM_mt, okN_no, okN_im, okN_mu, wipeE, List.all_cons, List.all_nil, Bool.and_true, Bool.true_and, Bool.and_self, decide_true, decide_false, reduceIte, if_true, if_false, List.length_cons, List.length_nil, List.getElem?_cons_zero, List.getElem?_cons_succ, List.set_cons_zero, List.set_cons_succ, List.map_cons, List.map_nil, Bool.false_eq_true, Option.some.injEq, Bool.not_true, Bool.not_false, Nat.reduceAdd, Nat.reduceLT, Nat.reduceLeDiff, z_mpop0, intD_i, hf]
    | true =>
      simp only [z_sseq, z_sset, z_sret, z_sif, z_snx, z_sbk, z_sct, z_sdrop, z_sasg, z_spar, z_sown, z_sfor, z_mop2, z_mc, z_mvar, z_MM_opt, z_MM_map, z_mcons, z_mnil, z_pnil, z_pcim, z_pcow, z_acim, z_acsl, z_anil, z_mif, z_mandB, z_morB, z_mnotB, z_mandV, z_morV, z_mnotV, z_mmeth, z_fmeth, z_fop2, z_mdr, z_mdrNe, z_mdrLen, z_mdrPop, z_sdr, z_mappend, z_mextend, z_mpopAt, z_mlenO, z_mnilO, z_msl, z_mcall, z_saug, z_mmethL, z_sdraws, z_mtrue, slots_nil, slots_im, slots_sl, argsE, updE, List.nodup_nil, List.nodup_cons, List.not_mem_nil, List.mem_singleton, not_false_eq_true, and_self, and_true, List.nil_append, List.append_nil, List.cons_append, mtg, Zf.setL, setsE, few, blD_b, truD_b, truD_i, truD_l, truD_t, intL_i, intL_b, seqD_l, seqD_t, seqD_s, seqD_c, negD_i, DS.at, DS.put, DS.row, addD_i, subD_i, eqD_i, neD_i, ltD_i, leD_i, gtD_i, geD_i, eqD_s, neD_s, out_l, out_d, okS_s, okW_nil, okW_cons, okM_no, okM_im, okM_mf, okM_mt, okN_no, okN_im, okN_mu, wipeE, List.all_cons, List.all_nil, Bool.and_true, Bool.true_and, Bool.and_self, decide_true, decide_false, reduceIte, if_true, if_false, List.length_cons, List.length_nil, List.getElem?_cons_zero, List.getElem?_cons_succ, List.set_cons_zero, List.set_cons_succ, List.map_cons, List.map_nil, Bool.false_eq_true, Option.some.injEq, Bool.not_true, Bool.not_false, Nat.reduceAdd, Nat.reduceLT, Nat.reduceLeDiff, z_mpop0, intD_i, hf]
      rfl
  | true =>
    show ∃ u4 u5, okM u4 = true ∧ okM u5 = true ∧ _ = some (Out.nx [_, _, .mu false (.ml (fs ++ [.str (ml (clw p))])), _, _, _, _])
    unfold clw
    cases q : decide (p.take 11 = MKc) with
    | false =>
      rw [q] at e3
      have g2 := bareC_ok p hg
      refine ⟨.im (.str (ml p)), .im (.bl (bl p)), rfl, rfl, ?_⟩
      refine sseq_nx (e1 := [.im (.str (ml l)), .im (.bl true), .mu false (.ml fs), .im (.str (ml p)), .im (.str (ml p)), t5, .no]) (by simp only [z_sseq, z_sset, z_sret, z_sif, z_snx, z_sbk, z_sct, z_sdrop, z_sasg, z_spar, z_sown, z_sfor, z_mop2, z_mc, z_mvar, z_MM_opt, z_MM_map, z_mcons, z_mnil, z_pnil, z_pcim, z_pcow, z_acim, z_acsl, z_anil, z_mif, z_mandB, z_morB, z_mnotB, z_mandV, z_morV, z_mnotV, z_mmeth, z_fmeth, z_fop2, z_mdr, z_mdrNe, z_mdrLen, z_mdrPop, z_sdr, z_mappend, z_mextend, z_mpopAt, z_mlenO, z_mnilO, z_msl, z_mcall, z_saug, z_mmethL, z_sdraws, z_mtrue, slots_nil, slots_im, slots_sl, argsE, updE, List.nodup_nil, List.nodup_cons, List.not_mem_nil, List.mem_singleton, not_false_eq_true, and_self, and_true, List.nil_append, List.append_nil, List.cons_append, mtg, Zf.setL, setsE, few, blD_b, truD_b, truD_i, truD_l, truD_t, intL_i, intL_b, seqD_l, seqD_t, seqD_s, seqD_c, negD_i, DS.at, DS.put, DS.row, addD_i, subD_i, eqD_i, neD_i, ltD_i, leD_i, gtD_i, geD_i, eqD_s, neD_s, out_l, out_d, okS_s, okW_nil, okW_cons, okM_no, okM_im, okM_mf, okM_mt, okN_no, okN_im, okN_mu, wipeE, List.all_cons, List.all_nil, Bool.and_true, Bool.true_and, Bool.and_self, decide_true, decide_false, reduceIte, if_true, if_false, List.length_cons, List.length_nil, List.getElem?_cons_zero, List.getElem?_cons_succ, List.set_cons_zero, List.set_cons_succ, List.map_cons, List.map_nil, Bool.false_eq_true, Option.some.injEq, Bool.not_true, Bool.not_false, Nat.reduceAdd, Nat.reduceLT, Nat.reduceLeDiff, z_mpop0, intD_i, h4, e1, e3]) ?_
      refine sseq_nx (e1 := [.im (.str (ml l)), .im (.bl true), .mu false (.ml fs), .im (.str (ml p)), .im (.str (ml p)), .im (.bl (bl p)), .no]) (by simp only [z_sseq, z_sset, z_sret, z_sif, z_snx, z_sbk, z_sct, z_sdrop, z_sasg, z_spar, z_sown, z_sfor, z_mop2, z_mc, z_mvar, z_MM_opt, z_MM_map, z_mcons, z_mnil, z_pnil, z_pcim, z_pcow, z_acim, z_acsl, z_anil, z_mif, z_mandB, z_morB, z_mnotB, z_mandV, z_morV, z_mnotV, z_mmeth, z_fmeth, z_fop2, z_mdr, z_mdrNe, z_mdrLen, z_mdrPop, z_sdr, z_mappend, z_mextend, z_mpopAt, z_mlenO, z_mnilO, z_msl, z_mcall, z_saug, z_mmethL, z_sdraws, z_mtrue, slots_nil, slots_im, slots_sl, argsE, updE, List.nodup_nil, List.nodup_cons, List.not_mem_nil, List.mem_singleton, not_false_eq_true, and_self, and_true, List.nil_append, List.append_nil, List.cons_append, mtg, Zf.setL, setsE, few, blD_b, truD_b, truD_i, truD_l, truD_t, intL_i, intL_b, seqD_l, seqD_t, seqD_s, seqD_c, negD_i, DS.at, DS.put, DS.row, addD_i, subD_i, eqD_i, neD_i, ltD_i, leD_i, gtD_i, geD_i, eqD_s, neD_s, out_l, out_d, okS_s, okW_nil, okW_cons, okM_no, okM_im, okM_mf, okM_mt, okN_no, okN_im, okN_mu, wipeE, List.all_cons, List.all_nil, Bool.and_true, Bool.true_and, Bool.and_self, decide_true, decide_false, reduceIte, if_true, if_false, List.length_cons, List.length_nil, List.getElem?_cons_zero, List.getElem?_cons_succ, List.set_cons_zero, List.set_cons_succ, List.map_cons, List.map_nil, Bool.false_eq_true, Option.some.injEq, Bool.not_true, Bool.not_false, Nat.reduceAdd, Nat.reduceLT, Nat.reduceLeDiff, z_mpop0, intD_i, key p t5 hp, hf0, g2, h5]) ?_
      cases q2 : bl p with
      | false => simp only [z_sseq, z_sset, z_sret, z_sif, z_snx, z_sbk, z_sct, z_sdrop, z_sasg, z_spar, z_sown, z_sfor, z_mop2, z_mc, z_mvar, z_MM_opt, z_MM_map, z_mcons, z_mnil, z_pnil, z_pcim, z_pcow, z_acim, z_acsl, z_anil, z_mif, z_mandB, z_morB, z_mnotB, z_mandV, z_morV, z_mnotV, z_mmeth, z_fmeth, z_fop2, z_mdr, z_mdrNe, z_mdrLen, z_mdrPop, z_sdr, z_mappend, z_mextend, z_mpopAt, z_mlenO, z_mnilO, z_msl, z_mcall, z_saug, z_mmethL, z_sdraws, z_mtrue, slots_nil, slots_im, slots_sl, argsE, updE, List.nodup_nil, List.nodup_cons, List.not_mem_nil, List.mem_singleton, not_false_eq_true, and_self, and_true, List.nil_append, List.append_nil, List.cons_append, mtg, Zf.setL, setsE, few, blD_b, truD_b, truD_i, truD_l, truD_t, intL_i, intL_b, seqD_l, seqD_t, seqD_s, seqD_c, negD_i, DS.at, DS.put, DS.row, addD_i, subD_i, eqD_i, neD_i, ltD_i, leD_i, gtD_i, geD_i, eqD_s, neD_s, out_l, out_d, okS_s, okW_nil, okW_cons, okM_no, okM_im, okM_mf, okM_mt, okN_no, okN_im, okN_mu, wipeE, List.all_cons, List.all_nil, Bool.and_true, Bool.true_and, Bool.and_self, decide_true, decide_false, reduceIte, if_true, if_false, List.length_cons, List.length_nil, List.getElem?_cons_zero, List.getElem?_cons_succ, List.set_cons_zero, List.set_cons_succ, List.map_cons, List.map_nil, Bool.false_eq_true, Option.some.injEq, Bool.not_true, Bool.not_false, Nat.reduceAdd, Nat.reduceLT, Nat.reduceLeDiff, z_mpop0, intD_i, hf, Bool.false_and]
      | true => simp only [z_sseq, z_sset, z_sret, z_sif, z_snx, z_sbk, z_sct, z_sdrop, z_sasg, z_spar, z_sown, z_sfor, z_mop2, z_mc, z_mvar, z_MM_opt, z_MM_map, z_mcons, z_mnil, z_pnil, z_pcim, z_pcow, z_acim, z_acsl, z_anil, z_mif, z_mandB, z_morB, z_mnotB, z_mandV, z_morV, z_mnotV, z_mmeth, z_fmeth, z_fop2, z_mdr, z_mdrNe, z_mdrLen, z_mdrPop, z_sdr, z_mappend, z_mextend, z_mpopAt, z_mlenO, z_mnilO, z_msl, z_mcall, z_saug, z_mmethL, z_sdraws, z_mtrue, slots_nil, slots_im, slots_sl, argsE, updE, List.nodup_nil, List.nodup_cons, List.not_mem_nil, List.mem_singleton, not_false_eq_true, and_self, and_true, List.nil_append, List.append_nil, List.cons_append, mtg, Zf.setL, setsE, few, blD_b, truD_b, truD_i, truD_l, truD_t, intL_i, intL_b, seqD_l, seqD_t, seqD_s, seqD_c, negD_i, DS.at, DS.put, DS.row, addD_i, subD_i, eqD_i, neD_i, ltD_i, leD_i, gtD_i, geD_i, eqD_s, neD_s, out_l, out_d, okS_s, okW_nil, okW_cons, okM_no, okM_im, okM_mf, okM_mt, okN_no, okN_im, okN_mu, wipeE, List.all_cons, List.all_nil, Bool.and_true, Bool.true_and, Bool.and_self, decide_true, decide_false, reduceIte, if_true, if_false, List.length_cons, List.length_nil, List.getElem?_cons_zero, List.getElem?_cons_succ, List.set_cons_zero, List.set_cons_succ, List.map_cons, List.map_nil, Bool.false_eq_true, Option.some.injEq, Bool.not_true, Bool.not_false, Nat.reduceAdd, Nat.reduceLT, Nat.reduceLeDiff, z_mpop0, intD_i, hf, e1, e3, Bool.false_and]
    | true =>
      rw [q] at e3
      have g2 := bareC_ok (p.drop 11) hgd
      refine ⟨.im (.str (ml (p.drop 11))), .im (.bl (bl (p.drop 11))), rfl, rfl, ?_⟩
      refine sseq_nx (e1 := [.im (.str (ml l)), .im (.bl true), .mu false (.ml fs), .im (.str (ml p)), .im (.str (ml (p.drop 11))), t5, .no]) (by simp only [z_sseq, z_sset, z_sret, z_sif, z_snx, z_sbk, z_sct, z_sdrop, z_sasg, z_spar, z_sown, z_sfor, z_mop2, z_mc, z_mvar, z_MM_opt, z_MM_map, z_mcons, z_mnil, z_pnil, z_pcim, z_pcow, z_acim, z_acsl, z_anil, z_mif, z_mandB, z_morB, z_mnotB, z_mandV, z_morV, z_mnotV, z_mmeth, z_fmeth, z_fop2, z_mdr, z_mdrNe, z_mdrLen, z_mdrPop, z_sdr, z_mappend, z_mextend, z_mpopAt, z_mlenO, z_mnilO, z_msl, z_mcall, z_saug, z_mmethL, z_sdraws, z_mtrue, slots_nil, slots_im, slots_sl, argsE, updE, List.nodup_nil, List.nodup_cons, List.not_mem_nil, List.mem_singleton, not_false_eq_true, and_self, and_true, List.nil_append, List.append_nil, List.cons_append, mtg, Zf.setL, setsE, few, blD_b, truD_b, truD_i, truD_l, truD_t, intL_i, intL_b, seqD_l, seqD_t, seqD_s, seqD_c, negD_i, DS.at, DS.put, DS.row, addD_i, subD_i, eqD_i, neD_i, ltD_i, leD_i, gtD_i, geD_i, eqD_s, neD_s, out_l, out_d, okS_s, okW_nil, okW_cons, okM_no, okM_im, okM_mf, okM_mt, okN_no, okN_im, okN_mu, wipeE, List.all_cons, List.all_nil, Bool.and_true, Bool.true_and, Bool.and_self, decide_true, decide_false, reduceIte, if_true, if_false, List.length_cons, List.length_nil, List.getElem?_cons_zero, List.getElem?_cons_succ, List.set_cons_zero, List.set_cons_succ, List.map_cons, List.map_nil, Bool.false_eq_true, Option.some.injEq, Bool.not_true, Bool.not_false, Nat.reduceAdd, Nat.reduceLT, Nat.reduceLeDiff, z_mpop0, intD_i, h4, e1, e2, e3]) ?_
      refine sseq_nx (e1 := [.im (.str (ml l)), .im (.bl true), .mu false (.ml fs), .im (.str (ml p)), .im (.str (ml (p.drop 11))), .im (.bl (bl (p.drop 11))), .no]) (by simp only [z_sseq, z_sset, z_sret, z_sif, z_snx, z_sbk, z_sct, z_sdrop, z_sasg, z_spar, z_sown, z_sfor, z_mop2, z_mc, z_mvar, z_MM_opt, z_MM_map, z_mcons, z_mnil, z_pnil, z_pcim, z_pcow, z_acim, z_acsl, z_anil, z_mif, z_mandB, z_morB, z_mnotB, z_mandV, z_morV, z_mnotV, z_mmeth, z_fmeth, z_fop2, z_mdr, z_mdrNe, z_mdrLen, z_mdrPop, z_sdr, z_mappend, z_mextend, z_mpopAt, z_mlenO, z_mnilO, z_msl, z_mcall, z_saug, z_mmethL, z_sdraws, z_mtrue, slots_nil, slots_im, slots_sl, argsE, updE, List.nodup_nil, List.nodup_cons, List.not_mem_nil, List.mem_singleton, not_false_eq_true, and_self, and_true, List.nil_append, List.append_nil, List.cons_append, mtg, Zf.setL, setsE, few, blD_b, truD_b, truD_i, truD_l, truD_t, intL_i, intL_b, seqD_l, seqD_t, seqD_s, seqD_c, negD_i, DS.at, DS.put, DS.row, addD_i, subD_i, eqD_i, neD_i, ltD_i, leD_i, gtD_i, geD_i, eqD_s, neD_s, out_l, out_d, okS_s, okW_nil, okW_cons, okM_no, okM_im, okM_mf, okM_mt, okN_no, okN_im, okN_mu, wipeE, List.all_cons, List.all_nil, Bool.and_true, Bool.true_and, Bool.and_self, decide_true, decide_false, reduceIte, if_true, if_false, List.length_cons, List.length_nil, List.getElem?_cons_zero, List.getElem?_cons_succ, List.set_cons_zero, List.set_cons_succ, List.map_cons, List.map_nil, Bool.false_eq_true, Option.some.injEq, Bool.not_true, Bool.not_false, Nat.reduceAdd, Nat.reduceLT, Nat.reduceLeDiff, z_mpop0, intD_i, key (p.drop 11) t5 (by rw [List.length_drop]; omega), hf0, g2, h5]) ?_
      cases q2 : bl (p.drop 11) with
      | false => simp only [z_sseq, z_sset, z_sret, z_sif, z_snx, z_sbk, z_sct, z_sdrop, z_sasg, z_spar, z_sown, z_sfor, z_mop2, z_mc, z_mvar, z_MM_opt, z_MM_map, z_mcons, z_mnil, z_pnil, z_pcim, z_pcow, z_acim, z_acsl, z_anil, z_mif, z_mandB, z_morB, z_mnotB, z_mandV, z_morV, z_mnotV, z_mmeth, z_fmeth, z_fop2, z_mdr, z_mdrNe, z_mdrLen, z_mdrPop, z_sdr, z_mappend, z_mextend, z_mpopAt, z_mlenO, z_mnilO, z_msl, z_mcall, z_saug, z_mmethL, z_sdraws, z_mtrue, slots_nil, slots_im, slots_sl, argsE, updE, List.nodup_nil, List.nodup_cons, List.not_mem_nil, List.mem_singleton, not_false_eq_true, and_self, and_true, List.nil_append, List.append_nil, List.cons_append, mtg, Zf.setL, setsE, few, blD_b, truD_b, truD_i, truD_l, truD_t, intL_i, intL_b, seqD_l, seqD_t, seqD_s, seqD_c, negD_i, DS.at, DS.put, DS.row, addD_i, subD_i, eqD_i, neD_i, ltD_i, leD_i, gtD_i, geD_i, eqD_s, neD_s, out_l, out_d, okS_s, okW_nil, okW_cons, okM_no, okM_im, okM_mf, okM_mt, okN_no, okN_im, okN_mu, wipeE, List.all_cons, List.all_nil, Bool.and_true, Bool.true_and, Bool.and_self, decide_true, decide_false, reduceIte, if_true, if_false, List.length_cons, List.length_nil, List.getElem?_cons_zero, List.getElem?_cons_succ, List.set_cons_zero, List.set_cons_succ, List.map_cons, List.map_nil, Bool.false_eq_true, Option.some.injEq, Bool.not_true, Bool.not_false, Nat.reduceAdd, Nat.reduceLT, Nat.reduceLeDiff, z_mpop0, intD_i, hf, e1, e3, Bool.and_false]
      | true =>
        simp only [z_sseq, z_sset, z_sret, z_sif, z_snx, z_sbk, z_sct, z_sdrop, z_sasg, z_spar, z_sown, z_sfor, z_mop2, z_mc, z_mvar, z_MM_opt, z_MM_map, z_mcons, z_mnil, z_pnil, z_pcim, z_pcow, z_acim, z_acsl, z_anil, z_mif, z_mandB, z_morB, z_mnotB, z_mandV, z_morV, z_mnotV, z_mmeth, z_fmeth, z_fop2, z_mdr, z_mdrNe, z_mdrLen, z_mdrPop, z_sdr, z_mappend, z_mextend, z_mpopAt, z_mlenO, z_mnilO, z_msl, z_mcall, z_saug, z_mmethL, z_sdraws, z_mtrue, slots_nil, slots_im, slots_sl, argsE, updE, List.nodup_nil, List.nodup_cons, List.not_mem_nil, List.mem_singleton, not_false_eq_true, and_self, and_true, List.nil_append, List.append_nil, List.cons_append, mtg, Zf.setL, setsE, few, blD_b, truD_b, truD_i, truD_l, truD_t, intL_i, intL_b, seqD_l, seqD_t, seqD_s, seqD_c, negD_i, DS.at, DS.put, DS.row, addD_i, subD_i, eqD_i, neD_i, ltD_i, leD_i, gtD_i, geD_i, eqD_s, neD_s, out_l, out_d, okS_s, okW_nil, okW_cons, okM_no, okM_im, okM_mf, okM_mt, okN_no, okN_im, okN_mu, wipeE, List.all_cons, List.all_nil, Bool.and_true, Bool.true_and, Bool.and_self, decide_true, decide_false, reduceIte, if_true, if_false, List.length_cons, List.length_nil, List.getElem?_cons_zero, List.getElem?_cons_succ, List.set_cons_zero, List.set_cons_succ, List.map_cons, List.map_nil, Bool.false_eq_true, Option.some.injEq, Bool.not_true, Bool.not_false, Nat.reduceAdd, Nat.reduceLT, Nat.reduceLeDiff, z_mpop0, intD_i, hf, e1, e3]
        rfl
theorem law_cleared_ok (l : List Nat) (b : Bool) (h : l.length ≤ 90000) (hg : GoodL l) : F_law_cleared [.im (.str (ml l)), .im (.bl b)] = some (.str (ml (cld (clx b) l)), [.im (.str (ml l)), .im (.bl b)]) := by
  have s0 := split_nl (ml l) (by rw [ml_len]; omega)
  rw [ls_ml] at s0
  have hsum := sp_sumS 10 l
  obtain ⟨e', h1, t3, t4, t5, h3, h4, h5, rfl⟩ := forL_inv (t := .one 3) (mb := b_law_cleared_2) (fun k e => ∃ t3 t4 t5, okM t3 = true ∧ okM t4 = true ∧ okM t5 = true ∧ e = [.im (.str (ml l)), .im (.bl b), .mu false (.ml (dlS (((sp 10 l).take k).map (clx b)))), t3, t4, t5, .no]) (dlS (sp 10 l)) 0 [.im (.str (ml l)), .im (.bl b), .mu false (.ml []), .no, .no, .no, .no] ⟨.no, .no, .no, rfl, rfl, rfl, rfl⟩ (by
    intro i x e hi hp
    obtain ⟨t3, t4, t5, h3, h4, h5, rfl⟩ := hp
    rw [Nat.zero_add]
    unfold dlS at hi
    rw [List.getElem?_map] at hi
    obtain ⟨p, hp, rfl⟩ := Option.map_eq_some_iff.mp hi
    have hpm := List.mem_of_getElem? hp
    have hll := mem_le_sum hpm
    obtain ⟨u4, u5, k4, k5, hb⟩ := law_cleared_line l p b (by omega) (fun c hc => hg c (sp_mem 10 l p c hpm hc)) (dlS (((sp 10 l).take i).map (clx b))) t4 t5 h4 h5 (by rw [dlS_len, List.length_map, List.length_take]; omega)
    have e2 : dlS (((sp 10 l).take i).map (clx b)) ++ [.str (ml (clx b p))] = dlS (((sp 10 l).take (i + 1)).map (clx b)) := by
      rw [List.take_add_one, hp]
      unfold dlS
      simp
    rw [e2] at hb
    exact ⟨_, _, (by simp only [z_sseq, z_sset, z_sret, z_sif, z_snx, z_sbk, z_sct, z_sdrop, z_sasg, z_spar, z_sown, z_sfor, z_mop2, z_mc, z_mvar, z_MM_opt, z_MM_map, z_mcons, z_mnil, z_pnil, z_pcim, z_pcow, z_acim, z_acsl, z_anil, z_mif, z_mandB, z_morB, z_mnotB, z_mandV, z_morV, z_mnotV, z_mmeth, z_fmeth, z_fop2, z_mdr, z_mdrNe, z_mdrLen, z_mdrPop, z_sdr, z_mappend, z_mextend, z_mpopAt, z_mlenO, z_mnilO, z_msl, z_mcall, z_saug, z_mmethL, z_sdraws, z_mtrue, slots_nil, slots_im, slots_sl, argsE, updE, List.nodup_nil, List.nodup_cons, List.not_mem_nil, List.mem_singleton, not_false_eq_true, and_self, and_true, List.nil_append, List.append_nil, List.cons_append, mtg, Zf.setL, setsE, few, blD_b, truD_b, truD_i, truD_l, truD_t, intL_i, intL_b, seqD_l, seqD_t, seqD_s, seqD_c, negD_i, DS.at, DS.put, DS.row, addD_i, subD_i, eqD_i, neD_i, ltD_i, leD_i, gtD_i, geD_i, eqD_s, neD_s, out_l, out_d, okS_s, okW_nil, okW_cons, okM_no, okM_im, okM_mf, okM_mt, okN_no, okN_im, okN_mu, wipeE, List.all_cons, List.all_nil, Bool.and_true, Bool.true_and, Bool.and_self, decide_true, decide_false, reduceIte, if_true, if_false, List.length_cons, List.length_nil, List.getElem?_cons_zero, List.getElem?_cons_succ, List.set_cons_zero, List.set_cons_succ, List.map_cons, List.map_nil, Bool.false_eq_true, Option.some.injEq, Bool.not_true, Bool.not_false, Nat.reduceAdd, Nat.reduceLT, Nat.reduceLeDiff, z_mpop0, intD_i, h3] <;> rfl), .inl hb, _, u4, u5, rfl, k4, k5, rfl⟩)
  rw [Nat.zero_add, dlS_len, List.take_length] at h1
  have hcx : ∀ p, (clx b p).length ≤ p.length := by cases b; exact clg_len; exact clw_len
  have c2 := join_nlS ((sp 10 l).map (clx b)) (by have := sum_map_le hcx (sp 10 l); rw [List.length_map]; omega)
  have body : m_law_cleared [.im (.str (ml l)), .im (.bl b), .no, .no, .no, .no, .no] = some (.rt (.str (ml (cld (clx b) l))) [.im (.str (ml l)), .im (.bl b), .im (.lst (dlS ((sp 10 l).map (clx b)))), t3, t4, t5, .no]) := by
    unfold m_law_cleared
    have hf0 : few [] = some [] := rfl
    refine sseq_nx (e1 := [.im (.str (ml l)), .im (.bl b), .mu false (.ml []), .no, .no, .no, .no]) (by simp only [z_sseq, z_sset, z_sret, z_sif, z_snx, z_sbk, z_sct, z_sdrop, z_sasg, z_spar, z_sown, z_sfor, z_mop2, z_mc, z_mvar, z_MM_opt, z_MM_map, z_mcons, z_mnil, z_pnil, z_pcim, z_pcow, z_acim, z_acsl, z_anil, z_mif, z_mandB, z_morB, z_mnotB, z_mandV, z_morV, z_mnotV, z_mmeth, z_fmeth, z_fop2, z_mdr, z_mdrNe, z_mdrLen, z_mdrPop, z_sdr, z_mappend, z_mextend, z_mpopAt, z_mlenO, z_mnilO, z_msl, z_mcall, z_saug, z_mmethL, z_sdraws, z_mtrue, slots_nil, slots_im, slots_sl, argsE, updE, List.nodup_nil, List.nodup_cons, List.not_mem_nil, List.mem_singleton, not_false_eq_true, and_self, and_true, List.nil_append, List.append_nil, List.cons_append, mtg, Zf.setL, setsE, few, blD_b, truD_b, truD_i, truD_l, truD_t, intL_i, intL_b, seqD_l, seqD_t, seqD_s, seqD_c, negD_i, DS.at, DS.put, DS.row, addD_i, subD_i, eqD_i, neD_i, ltD_i, leD_i, gtD_i, geD_i, eqD_s, neD_s, out_l, out_d, okS_s, okW_nil, okW_cons, okM_no, okM_im, okM_mf, okM_mt, okN_no, okN_im, okN_mu, wipeE, List.all_cons, List.all_nil, Bool.and_true, Bool.true_and, Bool.and_self, decide_true, decide_false, reduceIte, if_true, if_false, List.length_cons, List.length_nil, List.getElem?_cons_zero, List.getElem?_cons_succ, List.set_cons_zero, List.set_cons_succ, List.map_cons, List.map_nil, Bool.false_eq_true, Option.some.injEq, Bool.not_true, Bool.not_false, Nat.reduceAdd, Nat.reduceLT, Nat.reduceLeDiff, z_mpop0, intD_i, hf0]) ?_
    refine sseq_nx (e1 := [.im (.str (ml l)), .im (.bl b), .mu false (.ml (dlS ((sp 10 l).map (clx b)))), t3, t4, t5, .no]) (by simp only [z_sseq, z_sset, z_sret, z_sif, z_snx, z_sbk, z_sct, z_sdrop, z_sasg, z_spar, z_sown, z_sfor, z_mop2, z_mc, z_mvar, z_MM_opt, z_MM_map, z_mcons, z_mnil, z_pnil, z_pcim, z_pcow, z_acim, z_acsl, z_anil, z_mif, z_mandB, z_morB, z_mnotB, z_mandV, z_morV, z_mnotV, z_mmeth, z_fmeth, z_fop2, z_mdr, z_mdrNe, z_mdrLen, z_mdrPop, z_sdr, z_mappend, z_mextend, z_mpopAt, z_mlenO, z_mnilO, z_msl, z_mcall, z_saug, z_mmethL, z_sdraws, z_mtrue, slots_nil, slots_im, slots_sl, argsE, updE, List.nodup_nil, List.nodup_cons, List.not_mem_nil, List.mem_singleton, not_false_eq_true, and_self, and_true, List.nil_append, List.append_nil, List.cons_append, mtg, Zf.setL, setsE, few, blD_b, truD_b, truD_i, truD_l, truD_t, intL_i, intL_b, seqD_l, seqD_t, seqD_s, seqD_c, negD_i, DS.at, DS.put, DS.row, addD_i, subD_i, eqD_i, neD_i, ltD_i, leD_i, gtD_i, geD_i, eqD_s, neD_s, out_l, out_d, okS_s, okW_nil, okW_cons, okM_no, okM_im, okM_mf, okM_mt, okN_no, okN_im, okN_mu, wipeE, List.all_cons, List.all_nil, Bool.and_true, Bool.true_and, Bool.and_self, decide_true, decide_false, reduceIte, if_true, if_false, List.length_cons, List.length_nil, List.getElem?_cons_zero, List.getElem?_cons_succ, List.set_cons_zero, List.set_cons_succ, List.map_cons, List.map_nil, Bool.false_eq_true, Option.some.injEq, Bool.not_true, Bool.not_false, Nat.reduceAdd, Nat.reduceLT, Nat.reduceLeDiff, z_mpop0, intD_i, s0, h1]) ?_
    simp only [z_sseq, z_sset, z_sret, z_sif, z_snx, z_sbk, z_sct, z_sdrop, z_sasg, z_spar, z_sown, z_sfor, z_mop2, z_mc, z_mvar, z_MM_opt, z_MM_map, z_mcons, z_mnil, z_pnil, z_pcim, z_pcow, z_acim, z_acsl, z_anil, z_mif, z_mandB, z_morB, z_mnotB, z_mandV, z_morV, z_mnotV, z_mmeth, z_fmeth, z_fop2, z_mdr, z_mdrNe, z_mdrLen, z_mdrPop, z_sdr, z_mappend, z_mextend, z_mpopAt, z_mlenO, z_mnilO, z_msl, z_mcall, z_saug, z_mmethL, z_sdraws, z_mtrue, slots_nil, slots_im, slots_sl, argsE, updE, List.nodup_nil, List.nodup_cons, List.not_mem_nil, List.mem_singleton, not_false_eq_true, and_self, and_true, List.nil_append, List.append_nil, List.cons_append, mtg, Zf.setL, setsE, few, blD_b, truD_b, truD_i, truD_l, truD_t, intL_i, intL_b, seqD_l, seqD_t, seqD_s, seqD_c, negD_i, DS.at, DS.put, DS.row, addD_i, subD_i, eqD_i, neD_i, ltD_i, leD_i, gtD_i, geD_i, eqD_s, neD_s, out_l, out_d, okS_s, okW_nil, okW_cons, okM_no, okM_im, okM_mf, okM_mt, okN_no, okN_im, okN_mu, wipeE, List.all_cons, List.all_nil, Bool.and_true, Bool.true_and, Bool.and_self, decide_true, decide_false, reduceIte, if_true, if_false, List.length_cons, List.length_nil, List.getElem?_cons_zero, List.getElem?_cons_succ, List.set_cons_zero, List.set_cons_succ, List.map_cons, List.map_nil, Bool.false_eq_true, Option.some.injEq, Bool.not_true, Bool.not_false, Nat.reduceAdd, Nat.reduceLT, Nat.reduceLeDiff, z_mpop0, intD_i, c2]
    rfl
  exact fnM_rt (n := 7) (args := [.im (.str (ml l)), .im (.bl b)]) (m := m_law_cleared) body
end Zz

set_option Elab.async false
set_option linter.all false
set_option maxRecDepth 100000
set_option maxHeartbeats 1000000
/-! words joined: the program's and the law's -/
namespace Zz
open PySem PySem.Spec L2 Zf
def wb (c : Nat) : Bool := decide (c ∈ [32, 9, 10])
def wst (s : List (List Nat) × List Nat) (c : Nat) : List (List Nat) × List Nat := if wb c = true then (if s.2 = [] then s else (s.1 ++ [s.2], [])) else (s.1, s.2 ++ [c])
def wfin (s : List (List Nat) × List Nat) : List (List Nat) := if s.2 = [] then s.1 else s.1 ++ [s.2]
def wl (l : List Nat) : List (List Nat) := wfin (l.foldl wst ([], []))
/-- no blanks but spaces, tabs and line feeds -/
def OkB (l : List Nat) : Prop := ∀ c ∈ l, Unicode.isSpace c = wb c
theorem len_nil (l : List Nat) : ((ml l).length = 0) = (l = []) := by
  rw [ml_len]
  exact propext List.length_eq_zero_iff
theorem step_wst (s : List (List Nat) × List Nat) (c : Nat) (h : Unicode.isSpace c = wb c) : KWd.step (s.1.map ml, ml s.2) c = ((wst s c).1.map ml, ml (wst s c).2) := by
  unfold KWd.step wst
  simp only [h, len_nil]
  cases q : wb c with
  | true =>
    simp only [if_true]
    by_cases q2 : s.2 = []
    · rw [if_pos q2, if_pos q2]
    · rw [if_neg q2, if_neg q2]
      simp only [List.map_append, List.map_cons, List.map_nil]
      rfl
  | false =>
    simp only [Bool.false_eq_true, if_false]
    congr 1
    exact ml_app s.2 [c]
theorem scan_wst : ∀ (l : List Nat) (s : List (List Nat) × List Nat), OkB l → l.foldl KWd.step (s.1.map ml, ml s.2) = ((l.foldl wst s).1.map ml, ml (l.foldl wst s).2)
  | [], s, _ => rfl
  | c :: l, s, h => by
    rw [List.foldl_cons, List.foldl_cons, step_wst s c (h c List.mem_cons_self)]
    exact scan_wst l (wst s c) (fun d hd => h d (List.mem_cons_of_mem _ hd))
theorem words_ml (l : List Nat) (h : OkB l) : Txt.words (ml l) = (wl l).map ml := by
  rw [KWd.words_scan]
  have : KWd.scan (ml l) = ((l.foldl wst ([], [])).1.map ml, ml (l.foldl wst ([], [])).2) := scan_wst l ([], []) h
  rw [this]
  unfold KWd.fin wl wfin
  simp only [len_nil]
  split
  · rfl
  · simp
theorem wst_sum (s : List (List Nat) × List Nat) (c : Nat) : ((wst s c).1.map List.length).sum + (wst s c).1.length + (wst s c).2.length ≤ (s.1.map List.length).sum + s.1.length + s.2.length + 1 := by
  unfold wst
  split
  · split
    · omega
    · simp; omega
  · simp; omega
theorem wfold_sum : ∀ (l : List Nat) (s : List (List Nat) × List Nat), ((l.foldl wst s).1.map List.length).sum + (l.foldl wst s).1.length + (l.foldl wst s).2.length ≤ (s.1.map List.length).sum + s.1.length + s.2.length + l.length
  | [], s => Nat.le_refl _
  | c :: l, s => by
    have h1 := wfold_sum l (wst s c)
    have h2 := wst_sum s c
    rw [List.foldl_cons, List.length_cons]
    omega
theorem wl_sum (l : List Nat) : ((wl l).map List.length).sum + (wl l).length ≤ l.length + 1 := by
  have h := wfold_sum l ([], [])
  unfold wl wfin
  split
  · simp at h ⊢; omega
  · simp at h ⊢; omega
/-- its words, with a space between -/
def wj (l : List Nat) : List Nat := jn [32] (wl l)
theorem wj_len (l : List Nat) : (wj l).length ≤ l.length := by
  have h1 := jn_len 32 (wl l)
  have h2 := wl_sum l
  unfold wj
  cases q : wl l with
  | nil => simp [jn]
  | cons a r =>
    rw [q] at h1 h2
    simp only [List.length_cons] at h1 h2
    omega
theorem wst_mem (s : List (List Nat) × List Nat) (c d : Nat) (h : (∃ p ∈ (wst s c).1, d ∈ p) ∨ d ∈ (wst s c).2) : (∃ p ∈ s.1, d ∈ p) ∨ d ∈ s.2 ∨ d = c := by
  unfold wst at h
  split at h
  · split at h
    · rcases h with h | h
      · exact .inl h
      · exact .inr (.inl h)
    · rcases h with ⟨p, hp, hd⟩ | h
      · rcases List.mem_append.mp hp with hp | hp
        · exact .inl ⟨p, hp, hd⟩
        · rw [List.mem_singleton] at hp
          subst hp
          exact .inr (.inl hd)
      · cases h
  · rcases h with h | h
    · exact .inl h
    · rcases List.mem_append.mp h with h | h
      · exact .inr (.inl h)
      · exact .inr (.inr (List.mem_singleton.mp h))
theorem wfold_mem : ∀ (l : List Nat) (s : List (List Nat) × List Nat) (d : Nat), ((∃ p ∈ (l.foldl wst s).1, d ∈ p) ∨ d ∈ (l.foldl wst s).2) → (∃ p ∈ s.1, d ∈ p) ∨ d ∈ s.2 ∨ d ∈ l
  | [], s, d, h => by
    rcases h with h | h
    · exact .inl h
    · exact .inr (.inl h)
  | c :: l, s, d, h => by
    rcases wfold_mem l (wst s c) d h with h | h | h
    · rcases wst_mem s c d (.inl h) with h | h | h
      · exact .inl h
      · exact .inr (.inl h)
      · exact .inr (.inr (h ▸ List.mem_cons_self))
    · rcases wst_mem s c d (.inr h) with h | h | h
      · exact .inl h
      · exact .inr (.inl h)
      · exact .inr (.inr (h ▸ List.mem_cons_self))
    · exact .inr (.inr (List.mem_cons_of_mem _ h))
theorem wj_mem (l : List Nat) (d : Nat) (h : d ∈ wj l) : d = 32 ∨ d ∈ l := by
  rcases jn_mem 32 (wl l) d h with h | ⟨p, hp, hd⟩
  · exact .inl h
  · right
    have : (∃ p ∈ (l.foldl wst ([], [])).1, d ∈ p) ∨ d ∈ (l.foldl wst ([], [])).2 := by
      unfold wl wfin at hp
      split at hp
      · exact .inl ⟨p, hp, hd⟩
      · rcases List.mem_append.mp hp with hp | hp
        · exact .inl ⟨p, hp, hd⟩
        · rw [List.mem_singleton] at hp
          subst hp
          exact .inr hd
    rcases wfold_mem l ([], []) d this with ⟨p, hp, _⟩ | h | h
    · cases hp
    · cases h
    · exact h
theorem words_joined_ok (l : List Nat) (h : l.length ≤ 90000) (hb : OkB l) : F_words_joined [.im (.str (ml l))] = some (.str (ml (wj l)), [.im (.str (ml l))]) := by
  have e1 : wordsM (ml l) [] = some (dlS (wl l)) := by
    have : (ml l).length ≤ 1000000 := by rw [ml_len]; omega
    simp only [wordsM, if_pos this, words_ml l hb, dlS_strs]
  have c2 := join_spS (wl l) (by have := wl_sum l; omega)
  have body : m_words_joined [.im (.str (ml l))] = some (.rt (.str (ml (wj l))) [.im (.str (ml l))]) := by
    unfold m_words_joined
    simp only [z_sseq, z_sset, z_sret, z_sif, z_snx, z_sbk, z_sct, z_sdrop, z_sasg, z_spar, z_sown, z_sfor, z_mop2, z_mc, z_mvar, z_MM_opt, z_MM_map, z_mcons, z_mnil, z_pnil, z_pcim, z_pcow, z_acim, z_acsl, z_anil, z_mif, z_mandB, z_morB, z_mnotB, z_mandV, z_morV, z_mnotV, z_mmeth, z_fmeth, z_fop2, z_mdr, z_mdrNe, z_mdrLen, z_mdrPop, z_sdr, z_mappend, z_mextend, z_mpopAt, z_mlenO, z_mnilO, z_msl, z_mcall, z_saug, z_mmethL, z_sdraws, z_mtrue, slots_nil, slots_im, slots_sl, argsE, updE, List.nodup_nil, List.nodup_cons, List.not_mem_nil, List.mem_singleton, not_false_eq_true, and_self, and_true, List.nil_append, List.append_nil, List.cons_append, mtg, Zf.setL, setsE, few, blD_b, truD_b, truD_i, truD_l, truD_t, intL_i, intL_b, seqD_l, seqD_t, seqD_s, seqD_c, negD_i, DS.at, DS.put, DS.row, addD_i, subD_i, eqD_i, neD_i, ltD_i, leD_i, gtD_i, geD_i, eqD_s, neD_s, out_l, out_d, okS_s, okW_nil, okW_cons, okM_no, okM_im, okM_mf, okM_mt, okN_no, okN_im, okN_mu, wipeE, List.all_cons, List.all_nil, Bool.and_true, Bool.true_and, Bool.and_self, decide_true, decide_false, reduceIte, if_true, if_false, List.length_cons, List.length_nil, List.getElem?_cons_zero, List.getElem?_cons_succ, List.set_cons_zero, List.set_cons_succ, List.map_cons, List.map_nil, Bool.false_eq_true, Option.some.injEq, Bool.not_true, Bool.not_false, Nat.reduceAdd, Nat.reduceLT, Nat.reduceLeDiff, z_mpop0, intD_i, e1, c2]
    rfl
  exact fnM_rt (n := 1) (args := [.im (.str (ml l))]) (m := m_words_joined) body
theorem law_words_ok (l : List Nat) (h : l.length ≤ 90000) : F_law_words [.im (.str (ml l))] = some (.str (ml (wj l)), [.im (.str (ml l))]) := by
  have e0 : addD (.str (ml l)) (.str (" " : Str)) = some (.str (ml (l ++ [32]))) := by
    have : (" " : Str).length = 1 := rfl
    rw [addD_s (by rw [ml_len]; omega), show (" " : Str) = ml [32] by decide, ml_app]
  obtain ⟨e', h1, t, ht, rfl⟩ := forL_inv (t := .one 3) (mb := b_law_words_1) (fun k e => ∃ t, okM t = true ∧ e = [.im (.str (ml l)), .mu false (.ml (dlS (((l ++ [32]).take k).foldl wst ([], [])).1)), .im (.str (ml (((l ++ [32]).take k).foldl wst ([], [])).2)), t]) (signsD (ml (l ++ [32]))) 0 [.im (.str (ml l)), .mu false (.ml []), .im (.str ("" : Str)), .no] ⟨.no, rfl, rfl⟩ (by
    intro i x e hi hp
    obtain ⟨t, ht, rfl⟩ := hp
    rw [Nat.zero_add]
    obtain ⟨c, hc, rfl, hil⟩ := signs_at hi
    rw [ls_ml] at hc
    have hst : ((l ++ [32]).take (i + 1)).foldl wst ([], []) = wst (((l ++ [32]).take i).foldl wst ([], [])) c := by
      rw [List.take_add_one, hc, List.foldl_append]; rfl
    have hsum := wfold_sum ((l ++ [32]).take i) ([], [])
    rw [hst]
    obtain ⟨s, hs⟩ : ∃ s, s = ((l ++ [32]).take i).foldl wst ([], []) := ⟨_, rfl⟩
    rw [← hs] at hsum ⊢
    have hsum : (s.1.map List.length).sum + s.1.length + s.2.length ≤ 90001 := by
      rw [List.length_take, List.length_append] at hsum
      simp at hsum
      omega
    have e1 : inD (.str ⟨#[c]⟩) (.str (" \t\n" : Str)) = some (.bl (wb c)) := by
      unfold inD
      rw [show (" \t\n" : Str) = ml [32, 9, 10] by decide, one_in]; rfl
    have e2 : neD (.str (ml s.2)) (.str ("" : Str)) = some (.bl (!decide (s.2 = []))) := by
      rw [neD_s, nil_eq]
    have e3 : few [.str (ml s.2)] = some [.str (ml s.2)] := rfl
    unfold b_law_words_1
    refine ⟨[.im (.str (ml l)), .mu false (.ml (dlS s.1)), .im (.str (ml s.2)), .im (.str ⟨#[c]⟩)], _, (by simp only [z_sseq, z_sset, z_sret, z_sif, z_snx, z_sbk, z_sct, z_sdrop, z_sasg, z_spar, z_sown, z_sfor, z_mop2, z_mc, z_mvar, z_MM_opt, z_MM_map, z_mcons, z_mnil, z_pnil, z_pcim, z_pcow, z_acim, z_acsl, z_anil, z_mif, z_mandB, z_morB, z_mnotB, z_mandV, z_morV, z_mnotV, z_mmeth, z_fmeth, z_fop2, z_mdr, z_mdrNe, z_mdrLen, z_mdrPop, z_sdr, z_mappend, z_mextend, z_mpopAt, z_mlenO, z_mnilO, z_msl, z_mcall, z_saug, z_mmethL, z_sdraws, z_mtrue, slots_nil, slots_im, slots_sl, argsE, updE, List.nodup_nil, List.nodup_cons, List.not_mem_nil, List.mem_singleton, not_false_eq_true, and_self, and_true, List.nil_append, List.append_nil, List.cons_append, mtg, Zf.setL, setsE, few, blD_b, truD_b, truD_i, truD_l, truD_t, intL_i, intL_b, seqD_l, seqD_t, seqD_s, seqD_c, negD_i, DS.at, DS.put, DS.row, addD_i, subD_i, eqD_i, neD_i, ltD_i, leD_i, gtD_i, geD_i, eqD_s, neD_s, out_l, out_d, okS_s, okW_nil, okW_cons, okM_no, okM_im, okM_mf, okM_mt, okN_no, okN_im, okN_mu, wipeE, List.all_cons, List.all_nil, Bool.and_true, Bool.true_and, Bool.and_self, decide_true, decide_false, reduceIte, if_true, if_false, List.length_cons, List.length_nil, List.getElem?_cons_zero, List.getElem?_cons_succ, List.set_cons_zero, List.set_cons_succ, List.map_cons, List.map_nil, Bool.false_eq_true, Option.some.injEq, Bool.not_true, Bool.not_false, Nat.reduceAdd, Nat.reduceLT, Nat.reduceLeDiff, z_mpop0, intD_i, ht] <;> rfl), .inl ?_, .im (.str ⟨#[c]⟩), rfl, rfl⟩
    unfold wst
    cases q : wb c with
    | false =>
      rw [q] at e1
      have e4 : addD (.str (ml s.2)) (.str ⟨#[c]⟩) = some (.str (ml (s.2 ++ [c]))) := by
        have : (⟨#[c]⟩ : Str).length = 1 := rfl
        rw [addD_s (by rw [ml_len]; omega), show (⟨#[c]⟩ : Str) = ml [c] from rfl, ml_app]
      simp only [z_sseq, z_sset, z_sret, z_sif, z_snx, z_sbk, z_sct, z_sdrop, z_sasg, z_spar, z_sown, z_sfor, z_mop2, z_mc, z_mvar, z_MM_opt, z_MM_map, z_mcons, z_mnil, z_pnil, z_pcim, z_pcow, z_acim, z_acsl, z_anil, z_mif, z_mandB, z_morB, z_mnotB, z_mandV, z_morV, z_mnotV, z_mmeth, z_fmeth, z_fop2, z_mdr, z_mdrNe, z_mdrLen, z_mdrPop, z_sdr, z_mappend, z_mextend, z_mpopAt, z_mlenO, z_mnilO, z_msl, z_mcall, z_saug, z_mmethL, z_sdraws, z_mtrue, slots_nil, slots_im, slots_sl, argsE, updE, List.nodup_nil, List.nodup_cons, List.not_mem_nil, List.mem_singleton, not_false_eq_true, and_self, and_true, List.nil_append, List.append_nil, List.cons_append, mtg, Zf.setL, setsE, few, blD_b, truD_b, truD_i, truD_l, truD_t, intL_i, intL_b, seqD_l, seqD_t, seqD_s, seqD_c, negD_i, DS.at, DS.put, DS.row, addD_i, subD_i, eqD_i, neD_i, ltD_i, leD_i, gtD_i, geD_i, eqD_s, neD_s, out_l, out_d, okS_s, okW_nil, okW_cons, okM_no, okM_im, okM_mf, okM_mt, okN_no, okN_im, okN_mu, wipeE, List.all_cons, List.all_nil, Bool.and_true, Bool.true_and, Bool.and_self, decide_true, decide_false, reduceIte, if_true, if_false, List.length_cons, List.length_nil, List.getElem?_cons_zero, List.getElem?_cons_succ, List.set_cons_zero, List.set_cons_succ, List.map_cons, List.map_nil, Bool.false_eq_true, Option.some.injEq, Bool.not_true, Bool.not_false, Nat.reduceAdd, Nat.reduceLT, Nat.reduceLeDiff, z_mpop0, intD_i, e1, e4]
    | true =>
      rw [q] at e1
      by_cases q2 : s.2 = []
      · rw [decide_eq_true q2] at e2
        have e5 : mulF (.lst [.str (ml s.2)]) (.int 0) = some [] := rfl
        have e6 : (dlS s.1).length + ([] : List D).length ≤ 1000000 := by rw [dlS_len]; simp; omega
        have e6' : (dlS s.1).length ≤ 1000000 := by rw [dlS_len]; omega
        simp only [z_sseq, z_sset, z_sret, z_sif, z_snx, z_sbk, z_sct, z_sdrop, z_sasg, z_spar, z_sown, z_sfor, z_mop2, z_mc, z_mvar, z_MM_opt, z_MM_map, z_mcons, z_mnil, z_pnil, z_pcim, z_pcow, z_acim, z_acsl, z_anil, z_mif, z_mandB, z_morB, z_mnotB, z_mandV, z_morV, z_mnotV, z_mmeth, z_fmeth, z_fop2, z_mdr, z_mdrNe, z_mdrLen, z_mdrPop, z_sdr, z_mappend, z_mextend, z_mpopAt, z_mlenO, z_mnilO, z_msl, z_mcall, z_saug, z_mmethL, z_sdraws, z_mtrue, slots_nil, slots_im, slots_sl, argsE, updE, List.nodup_nil, List.nodup_cons, List.not_mem_nil, List.mem_singleton, not_false_eq_true, and_self, and_true, List.nil_append, List.append_nil, List.cons_append, mtg, Zf.setL, setsE, few, blD_b, truD_b, truD_i, truD_l, truD_t, intL_i, intL_b, seqD_l, seqD_t, seqD_s, seqD_c, negD_i, DS.at, DS.put, DS.row, addD_i, subD_i, eqD_i, neD_i, ltD_i, leD_i, gtD_i, geD_i, eqD_s, neD_s, out_l, out_d, okS_s, okW_nil, okW_cons, okM_no, okM_im, okM_mf, okM_mt, okN_no, okN_im, okN_mu, wipeE, List.all_cons, List.all_nil, Bool.and_true, Bool.true_and, Bool.and_self, decide_true, decide_false, reduceIte, if_true, if_false, List.length_cons, List.length_nil, List.getElem?_cons_zero, List.getElem?_cons_succ, List.set_cons_zero, List.set_cons_succ, List.map_cons, List.map_nil, Bool.false_eq_true, Option.some.injEq, Bool.not_true, Bool.not_false, Nat.reduceAdd, Nat.reduceLT, Nat.reduceLeDiff, z_mpop0, intD_i, e1, e2, e3, e5, e6, e6', if_pos q2, Bool.toNat_false, Nat.add_zero]
        rw [q2]; rfl
      · rw [decide_eq_false q2] at e2
        have e5 : mulF (.lst [.str (ml s.2)]) (.int 1) = some [.str (ml s.2)] := rfl
        have e6' : (dlS s.1).length + 1 ≤ 1000000 := by rw [dlS_len]; omega
        have e7 : dlS s.1 ++ [.str (ml s.2)] = dlS (s.1 ++ [s.2]) := by unfold dlS; rw [List.map_append]; rfl
        simp only [z_sseq, z_sset, z_sret, z_sif, z_snx, z_sbk, z_sct, z_sdrop, z_sasg, z_spar, z_sown, z_sfor, z_mop2, z_mc, z_mvar, z_MM_opt, z_MM_map, z_mcons, z_mnil, z_pnil, z_pcim, z_pcow, z_acim, z_acsl, z_anil, z_mif, z_mandB, z_morB, z_mnotB, z_mandV, z_morV, z_mnotV, z_mmeth, z_fmeth, z_fop2, z_mdr, z_mdrNe, z_mdrLen, z_mdrPop, z_sdr, z_mappend, z_mextend, z_mpopAt, z_mlenO, z_mnilO, z_msl, z_mcall, z_saug, z_mmethL, z_sdraws, z_mtrue, slots_nil, slots_im, slots_sl, argsE, updE, List.nodup_nil, List.nodup_cons, List.not_mem_nil, List.mem_singleton, not_false_eq_true, and_self, and_true, List.nil_append, List.append_nil, List.cons_append, mtg, Zf.setL, setsE, few, blD_b, truD_b, truD_i, truD_l, truD_t, intL_i, intL_b, seqD_l, seqD_t, seqD_s, seqD_c, negD_i, DS.at, DS.put, DS.row, addD_i, subD_i, eqD_i, neD_i, ltD_i, leD_i, gtD_i, geD_i, eqD_s, neD_s, out_l, out_d, okS_s, okW_nil, okW_cons, okM_no, okM_im, okM_mf, okM_mt, okN_no, okN_im, okN_mu, wipeE, List.all_cons, List.all_nil, Bool.and_true, Bool.true_and, Bool.and_self, decide_true, decide_false, reduceIte, if_true, if_false, List.length_cons, List.length_nil, List.getElem?_cons_zero, List.getElem?_cons_succ, List.set_cons_zero, List.set_cons_succ, List.map_cons, List.map_nil, Bool.false_eq_true, Option.some.injEq, Bool.not_true, Bool.not_false, Nat.reduceAdd, Nat.reduceLT, Nat.reduceLeDiff, z_mpop0, intD_i, e1, e2, e3, e5, e6', if_neg q2, e7]
        rfl)
  have hlen : (signsD (ml (l ++ [32]))).length = (l ++ [32]).length := by unfold signsD; rw [List.length_map, ls_ml]
  rw [Nat.zero_add, hlen, List.take_length] at h1
  have hw : ((l ++ [32]).foldl wst ([], [])).1 = wl l := by
    rw [List.foldl_append]
    show (wst _ 32).1 = _
    unfold wl wfin wst
    rw [if_pos (by decide)]
    split <;> rfl
  rw [hw] at h1
  have c2 := join_spS (wl l) (by have := wl_sum l; omega)
  have hf : few [] = some [] := rfl
  have body : m_law_words [.im (.str (ml l)), .no, .no, .no] = some (.rt (.str (ml (wj l))) [.im (.str (ml l)), .im (.lst (dlS (wl l))), .im (.str (ml ((l ++ [32]).foldl wst ([], [])).2)), t]) := by
    unfold m_law_words
    refine sseq_nx (e1 := [.im (.str (ml l)), .mu false (.ml []), .im (.str ("" : Str)), .no]) (by simp only [z_sseq, z_sset, z_sret, z_sif, z_snx, z_sbk, z_sct, z_sdrop, z_sasg, z_spar, z_sown, z_sfor, z_mop2, z_mc, z_mvar, z_MM_opt, z_MM_map, z_mcons, z_mnil, z_pnil, z_pcim, z_pcow, z_acim, z_acsl, z_anil, z_mif, z_mandB, z_morB, z_mnotB, z_mandV, z_morV, z_mnotV, z_mmeth, z_fmeth, z_fop2, z_mdr, z_mdrNe, z_mdrLen, z_mdrPop, z_sdr, z_mappend, z_mextend, z_mpopAt, z_mlenO, z_mnilO, z_msl, z_mcall, z_saug, z_mmethL, z_sdraws, z_mtrue, slots_nil, slots_im, slots_sl, argsE, updE, List.nodup_nil, List.nodup_cons, List.not_mem_nil, List.mem_singleton, not_false_eq_true, and_self, and_true, List.nil_append, List.append_nil, List.cons_append, mtg, Zf.setL, setsE, few, blD_b, truD_b, truD_i, truD_l, truD_t, intL_i, intL_b, seqD_l, seqD_t, seqD_s, seqD_c, negD_i, DS.at, DS.put, DS.row, addD_i, subD_i, eqD_i, neD_i, ltD_i, leD_i, gtD_i, geD_i, eqD_s, neD_s, out_l, out_d, okS_s, okW_nil, okW_cons, okM_no, okM_im, okM_mf, okM_mt, okN_no, okN_im, okN_mu, wipeE, List.all_cons, List.all_nil, Bool.and_true, Bool.true_and, Bool.and_self, decide_true, decide_false, reduceIte, if_true, if_false, List.length_cons, List.length_nil, List.getElem?_cons_zero, List.getElem?_cons_succ, List.set_cons_zero, List.set_cons_succ, List.map_cons, List.map_nil, Bool.false_eq_true, Option.some.injEq, Bool.not_true, Bool.not_false, Nat.reduceAdd, Nat.reduceLT, Nat.reduceLeDiff, z_mpop0, intD_i, hf]) ?_
    refine sseq_nx (e1 := [.im (.str (ml l)), .mu false (.ml (dlS (wl l))), .im (.str (ml ((l ++ [32]).foldl wst ([], [])).2)), t]) (by simp only [z_sseq, z_sset, z_sret, z_sif, z_snx, z_sbk, z_sct, z_sdrop, z_sasg, z_spar, z_sown, z_sfor, z_mop2, z_mc, z_mvar, z_MM_opt, z_MM_map, z_mcons, z_mnil, z_pnil, z_pcim, z_pcow, z_acim, z_acsl, z_anil, z_mif, z_mandB, z_morB, z_mnotB, z_mandV, z_morV, z_mnotV, z_mmeth, z_fmeth, z_fop2, z_mdr, z_mdrNe, z_mdrLen, z_mdrPop, z_sdr, z_mappend, z_mextend, z_mpopAt, z_mlenO, z_mnilO, z_msl, z_mcall, z_saug, z_mmethL, z_sdraws, z_mtrue, slots_nil, slots_im, slots_sl, argsE, updE, List.nodup_nil, List.nodup_cons, List.not_mem_nil, List.mem_singleton, not_false_eq_true, and_self, and_true, List.nil_append, List.append_nil, List.cons_append, mtg, Zf.setL, setsE, few, blD_b, truD_b, truD_i, truD_l, truD_t, intL_i, intL_b, seqD_l, seqD_t, seqD_s, seqD_c, negD_i, DS.at, DS.put, DS.row, addD_i, subD_i, eqD_i, neD_i, ltD_i, leD_i, gtD_i, geD_i, eqD_s, neD_s, out_l, out_d, okS_s, okW_nil, okW_cons, okM_no, okM_im, okM_mf, okM_mt, okN_no, okN_im, okN_mu, wipeE, List.all_cons, List.all_nil, Bool.and_true, Bool.true_and, Bool.and_self, decide_true, decide_false, reduceIte, if_true, if_false, List.length_cons, List.length_nil, List.getElem?_cons_zero, List.getElem?_cons_succ, List.set_cons_zero, List.set_cons_succ, List.map_cons, List.map_nil, Bool.false_eq_true, Option.some.injEq, Bool.not_true, Bool.not_false, Nat.reduceAdd, Nat.reduceLT, Nat.reduceLeDiff, z_mpop0, intD_i, e0, h1]) ?_
    simp only [z_sseq, z_sset, z_sret, z_sif, z_snx, z_sbk, z_sct, z_sdrop, z_sasg, z_spar, z_sown, z_sfor, z_mop2, z_mc, z_mvar, z_MM_opt, z_MM_map, z_mcons, z_mnil, z_pnil, z_pcim, z_pcow, z_acim, z_acsl, z_anil, z_mif, z_mandB, z_morB, z_mnotB, z_mandV, z_morV, z_mnotV, z_mmeth, z_fmeth, z_fop2, z_mdr, z_mdrNe, z_mdrLen, z_mdrPop, z_sdr, z_mappend, z_mextend, z_mpopAt, z_mlenO, z_mnilO, z_msl, z_mcall, z_saug, z_mmethL, z_sdraws, z_mtrue, slots_nil, slots_im, slots_sl, argsE, updE, List.nodup_nil, List.nodup_cons, List.not_mem_nil, List.mem_singleton, not_false_eq_true, and_self, and_true, List.nil_append, List.append_nil, List.cons_append, mtg, Zf.setL, setsE, few, blD_b, truD_b, truD_i, truD_l, truD_t, intL_i, intL_b, seqD_l, seqD_t, seqD_s, seqD_c, negD_i, DS.at, DS.put, DS.row, addD_i, subD_i, eqD_i, neD_i, ltD_i, leD_i, gtD_i, geD_i, eqD_s, neD_s, out_l, out_d, okS_s, okW_nil, okW_cons, okM_no, okM_im, okM_mf, okM_mt, okN_no, okN_im, okN_mu, wipeE, List.all_cons, List.all_nil, Bool.and_true, Bool.true_and, Bool.and_self, decide_true, decide_false, reduceIte, if_true, if_false, List.length_cons, List.length_nil, List.getElem?_cons_zero, List.getElem?_cons_succ, List.set_cons_zero, List.set_cons_succ, List.map_cons, List.map_nil, Bool.false_eq_true, Option.some.injEq, Bool.not_true, Bool.not_false, Nat.reduceAdd, Nat.reduceLT, Nat.reduceLeDiff, z_mpop0, intD_i, c2]
    rfl
  exact fnM_rt (n := 4) (args := [.im (.str (ml l))]) (m := m_law_words) body
end Zz

set_option Elab.async false
set_option linter.all false
set_option maxRecDepth 100000
set_option maxHeartbeats 1000000
/-! pieces and fits -/
namespace Zz
open PySem PySem.Spec L2 Zf
def dots : List Nat := [46, 46, 46]
def pcs (l : List Nat) : List (List Nat) := spk dots 0 l
def glue (q : List Nat) : List (List Nat) → List (List Nat)
  | p :: r => (q ++ p) :: r
  | [] => [q]
theorem dots_ml : ("..." : Str) = ml dots := by decide
theorem split_dots (l : List Nat) (h : l.length ≤ 1000000) : splitM (ml l) [.str ("..." : Str)] = some (dlS (pcs l)) := by
  have : (ml dots).length ≠ 0 ∧ (ml l).length ≤ 1000000 := ⟨by decide, by rw [ml_len]; exact h⟩
  rw [dots_ml]
  simp only [splitM]
  rw [if_pos this, split_ml l dots (by decide), dlS_strs]
  rfl
theorem spk_sum (y : List Nat) : ∀ (k : Nat) (l : List Nat), ((spk y k l).map List.length).sum + (spk y k l).length ≤ l.length + 1
  | _, [] => by rw [spk_nil]; simp
  | k + 1, c :: l => by
    have := spk_sum y k l
    rw [spk_succ, List.length_cons]; omega
  | 0, c :: l => by
    rw [spk_cons]
    split
    · have := spk_sum y (y.length - 1) l
      simp only [List.map_cons, List.sum_cons, List.length_cons, List.length_nil]; omega
    · have := spk_sum y 0 l
      unfold consH
      split
      · rename_i p r e
        rw [e] at this
        simp only [List.map_cons, List.sum_cons, List.length_cons] at this ⊢
        omega
      · rename_i e
        exact absurd e (spk_ne y 0 l)
theorem pcs_sum (l : List Nat) : ((pcs l).map List.length).sum + (pcs l).length ≤ l.length + 1 := spk_sum dots 0 l
theorem lenL_ml {l : List Nat} (h : l.length ≤ 1000000) : lenL [.str (ml l)] = some (.int (l.length : Int)) := by
  simp only [lenL, ml_len, if_pos h]
theorem ixD_at {l : List Nat} {i c : Nat} (h : l[i]? = some c) (hl : l.length ≤ 100000) : ixD (.str (ml l)) (.int (i : Int)) = some (.str (ml [c])) := by
  have hi := (List.getElem?_eq_some_iff.mp h).1
  have : (ml l).length ≤ 100000 := by rw [ml_len]; exact hl
  simp only [ixD, if_pos this]
  have e : atI (ml l).cps.toList (i : Int) = some c := by
    unfold atI ixN
    rw [if_pos (by omega), ls_ml, if_pos (by omega), Option.bind_some, Int.toNat_natCast, h]
  rw [e]; rfl
theorem slD_ab {l : List Nat} {a b : Nat} (hl : l.length ≤ 100000) (h : a ≤ b) : slD (.str (ml l)) (some (a : Int)) (some (b : Int)) = some (.str (ml ((l.drop a).take (b - a)))) := by
  have : (ml l).length ≤ 100000 := by rw [ml_len]; exact hl
  simp only [slD, if_pos this, cutS_ab l a b h]
theorem eq_ml (a b : List Nat) : decide (ml a = ml b) = decide (a = b) := decide_eq_decide.mpr ml_inj
theorem pieces_loop (l : List Nat) (hl : l.length ≤ 90000) : ∀ (n fuel at_ : Nat) (F : List (List Nat)) (q : List Nat), l.length - at_ = n → at_ ≤ l.length → n < fuel → F.length + q.length ≤ at_ → swhile (MM.opt (mop2 ltD (mvar 2) (MM.opt (mcons (mvar 0) (mnil)) lenL)) blD) b_law_pieces_1 fuel [.im (.str (ml l)), .mu false (.ml (dlS (F ++ [q]))), .im (.int (at_ : Int))] = some (.nx [.im (.str (ml l)), .mu false (.ml (dlS (F ++ glue q (pcs (l.drop at_))))), .im (.int (l.length : Int))]) := by
  intro n
  induction n using Nat.strongRecOn with
  | ind n ih =>
    intro fuel a F q hn ha hf hFq
    obtain ⟨fuel, rfl⟩ : ∃ f, fuel = f + 1 := ⟨fuel - 1, by omega⟩
    have e1 := lenL_ml (l := l) (by omega)
    by_cases hz : a = l.length
    · subst hz
      have ht : (MM.opt (mop2 ltD (mvar 2) (MM.opt (mcons (mvar 0) (mnil)) lenL)) blD) [.im (.str (ml l)), .mu false (.ml (dlS (F ++ [q]))), .im (.int (l.length : Int))] = some (false, [.im (.str (ml l)), .mu false (.ml (dlS (F ++ [q]))), .im (.int (l.length : Int))]) := by
        have : decide ((l.length : Int) < (l.length : Int)) = false := decide_eq_false (by omega)
        simp only [z_sseq, z_sset, z_sret, z_sif, z_snx, z_sbk, z_sct, z_sdrop, z_sasg, z_spar, z_sown, z_sfor, z_mop2, z_mc, z_mvar, z_MM_opt, z_MM_map, z_mcons, z_mnil, z_pnil, z_pcim, z_pcow, z_acim, z_acsl, z_anil, z_mif, z_mandB, z_morB, z_mnotB, z_mandV, z_morV, z_mnotV, z_mmeth, z_fmeth, z_fop2, z_mdr, z_mdrNe, z_mdrLen, z_mdrPop, z_sdr, z_mappend, z_mextend, z_mpopAt, z_mlenO, z_mnilO, z_msl, z_mcall, z_saug, z_mmethL, z_sdraws, z_mtrue, slots_nil, slots_im, slots_sl, argsE, updE, List.nodup_nil, List.nodup_cons, List.not_mem_nil, List.mem_singleton, not_false_eq_true, and_self, and_true, List.nil_append, List.append_nil, List.cons_append, mtg, Zf.setL, setsE, few, blD_b, truD_b, truD_i, truD_l, truD_t, intL_i, intL_b, seqD_l, seqD_t, seqD_s, seqD_c, negD_i, DS.at, DS.put, DS.row, addD_i, subD_i, eqD_i, neD_i, ltD_i, leD_i, gtD_i, geD_i, eqD_s, neD_s, out_l, out_d, okS_s, okW_nil, okW_cons, okM_no, okM_im, okM_mf, okM_mt, okN_no, okN_im, okN_mu, wipeE, List.all_cons, List.all_nil, Bool.and_true, Bool.true_and, Bool.and_self, decide_true, decide_false, reduceIte, if_true, if_false, List.length_cons, List.length_nil, List.getElem?_cons_zero, List.getElem?_cons_succ, List.set_cons_zero, List.set_cons_succ, List.map_cons, List.map_nil, Bool.false_eq_true, Option.some.injEq, Bool.not_true, Bool.not_false, Nat.reduceAdd, Nat.reduceLT, Nat.reduceLeDiff, z_mpop0, intD_i, e1, this]
      rw [swhile_f ht, List.drop_length]
      show some (Out.nx [_, .mu false (.ml (dlS (F ++ [q]))), _]) = some (Out.nx [_, .mu false (.ml (dlS (F ++ [q ++ []]))), _])
      rw [List.append_nil]
    · have hlt : a < l.length := by omega
      have ht : (MM.opt (mop2 ltD (mvar 2) (MM.opt (mcons (mvar 0) (mnil)) lenL)) blD) [.im (.str (ml l)), .mu false (.ml (dlS (F ++ [q]))), .im (.int (a : Int))] = some (true, [.im (.str (ml l)), .mu false (.ml (dlS (F ++ [q]))), .im (.int (a : Int))]) := by
        have : decide ((a : Int) < (l.length : Int)) = true := decide_eq_true (by omega)
        simp only [z_sseq, z_sset, z_sret, z_sif, z_snx, z_sbk, z_sct, z_sdrop, z_sasg, z_spar, z_sown, z_sfor, z_mop2, z_mc, z_mvar, z_MM_opt, z_MM_map, z_mcons, z_mnil, z_pnil, z_pcim, z_pcow, z_acim, z_acsl, z_anil, z_mif, z_mandB, z_morB, z_mnotB, z_mandV, z_morV, z_mnotV, z_mmeth, z_fmeth, z_fop2, z_mdr, z_mdrNe, z_mdrLen, z_mdrPop, z_sdr, z_mappend, z_mextend, z_mpopAt, z_mlenO, z_mnilO, z_msl, z_mcall, z_saug, z_mmethL, z_sdraws, z_mtrue, slots_nil, slots_im, slots_sl, argsE, updE, List.nodup_nil, List.nodup_cons, List.not_mem_nil, List.mem_singleton, not_false_eq_true, and_self, and_true, List.nil_append, List.append_nil, List.cons_append, mtg, Zf.setL, setsE, few, blD_b, truD_b, truD_i, truD_l, truD_t, intL_i, intL_b, seqD_l, seqD_t, seqD_s, seqD_c, negD_i, DS.at, DS.put, DS.row, addD_i, subD_i, eqD_i, neD_i, ltD_i, leD_i, gtD_i, geD_i, eqD_s, neD_s, out_l, out_d, okS_s, okW_nil, okW_cons, okM_no, okM_im, okM_mf, okM_mt, okN_no, okN_im, okN_mu, wipeE, List.all_cons, List.all_nil, Bool.and_true, Bool.true_and, Bool.and_self, decide_true, decide_false, reduceIte, if_true, if_false, List.length_cons, List.length_nil, List.getElem?_cons_zero, List.getElem?_cons_succ, List.set_cons_zero, List.set_cons_succ, List.map_cons, List.map_nil, Bool.false_eq_true, Option.some.injEq, Bool.not_true, Bool.not_false, Nat.reduceAdd, Nat.reduceLT, Nat.reduceLeDiff, z_mpop0, intD_i, e1, this]
      have e2 : slD (.str (ml l)) (some (a : Int)) (some ((a : Int) + 3)) = some (.str (ml ((l.drop a).take 3))) := by
        have := slD_ab (l := l) (a := a) (b := a + 3) (by omega) (by omega)
        rw [show a + 3 - a = 3 by omega] at this
        exact this
      have e3 : decide (ml ((l.drop a).take 3) = ("..." : Str)) = decide ((l.drop a).take 3 = dots) := by rw [dots_ml, eq_ml]
      have hFl : (dlS (F ++ [q])).length < 1000000 := by rw [dlS_len, List.length_append, List.length_singleton]; omega
      obtain ⟨c, hc⟩ : ∃ c, l[a]? = some c := ⟨_, List.getElem?_eq_getElem hlt⟩
      have hd : l.drop a = c :: l.drop (a + 1) := by
        obtain ⟨hi, rfl⟩ := List.getElem?_eq_some_iff.mp hc
        exact List.drop_eq_getElem_cons hi
      by_cases hm : (l.drop a).take 3 = dots
      · rw [decide_eq_true hm] at e3
        have hl3 : a + 3 ≤ l.length := by
          have := congrArg List.length hm
          rw [List.length_take, List.length_drop] at this
          have h3 : dots.length = 3 := rfl
          omega
        have e4 : dlS (F ++ [q]) ++ [.str ("" : Str)] = dlS ((F ++ [q]) ++ [[]]) := by
          unfold dlS
          rw [List.map_append (l₁ := F ++ [q])]
          rfl
        have hb : b_law_pieces_1 [.im (.str (ml l)), .mu false (.ml (dlS (F ++ [q]))), .im (.int (a : Int))] = some (.nx [.im (.str (ml l)), .mu false (.ml (dlS ((F ++ [q]) ++ [[]]))), .im (.int ((a + 3 : Nat) : Int))]) := by
          unfold b_law_pieces_1
          simp only [z_sseq, z_sset, z_sret, z_sif, z_snx, z_sbk, z_sct, z_sdrop, z_sasg, z_spar, z_sown, z_sfor, z_mop2, z_mc, z_mvar, z_MM_opt, z_MM_map, z_mcons, z_mnil, z_pnil, z_pcim, z_pcow, z_acim, z_acsl, z_anil, z_mif, z_mandB, z_morB, z_mnotB, z_mandV, z_morV, z_mnotV, z_mmeth, z_fmeth, z_fop2, z_mdr, z_mdrNe, z_mdrLen, z_mdrPop, z_sdr, z_mappend, z_mextend, z_mpopAt, z_mlenO, z_mnilO, z_msl, z_mcall, z_saug, z_mmethL, z_sdraws, z_mtrue, slots_nil, slots_im, slots_sl, argsE, updE, List.nodup_nil, List.nodup_cons, List.not_mem_nil, List.mem_singleton, not_false_eq_true, and_self, and_true, List.nil_append, List.append_nil, List.cons_append, mtg, Zf.setL, setsE, few, blD_b, truD_b, truD_i, truD_l, truD_t, intL_i, intL_b, seqD_l, seqD_t, seqD_s, seqD_c, negD_i, DS.at, DS.put, DS.row, addD_i, subD_i, eqD_i, neD_i, ltD_i, leD_i, gtD_i, geD_i, eqD_s, neD_s, out_l, out_d, okS_s, okW_nil, okW_cons, okM_no, okM_im, okM_mf, okM_mt, okN_no, okN_im, okN_mu, wipeE, List.all_cons, List.all_nil, Bool.and_true, Bool.true_and, Bool.and_self, decide_true, decide_false, reduceIte, if_true, if_false, List.length_cons, List.length_nil, List.getElem?_cons_zero, List.getElem?_cons_succ, List.set_cons_zero, List.set_cons_succ, List.map_cons, List.map_nil, Bool.false_eq_true, Option.some.injEq, Bool.not_true, Bool.not_false, Nat.reduceAdd, Nat.reduceLT, Nat.reduceLeDiff, z_mpop0, intD_i, e2, e3, hFl, e4]
          rfl
        rw [swhile_t ht hb, ih (l.length - (a + 3)) (by omega) fuel (a + 3) (F ++ [q]) [] rfl hl3 (by omega) (by rw [List.length_append]; simp; omega)]
        have e5 : l.drop a = dots ++ l.drop (a + 3) := by
          conv => lhs; rw [← List.take_append_drop 3 (l.drop a), hm, List.drop_drop]
        have e6 : pcs (l.drop a) = [] :: pcs (l.drop (a + 3)) := by
          rw [e5]
          exact spk_hit dots _ (by decide)
        have e7 : F ++ [q] ++ glue [] (pcs (l.drop (a + 3))) = F ++ glue q (pcs (l.drop a)) := by
          rw [e6]
          cases h : pcs (l.drop (a + 3)) with
          | nil => exact absurd h (spk_ne dots 0 _)
          | cons p r => simp [glue]
        rw [e7]
      · rw [decide_eq_false hm] at e3
        have e4 := ixD_at hc (by omega)
        have e5 : addD (.str (ml q)) (.str (ml [c])) = some (.str (ml (q ++ [c]))) := by
          rw [addD_s (by rw [ml_len, ml_len]; simp; omega), ml_app]
        have e8 : (dlS (F ++ [q]))[(dlS (F ++ [q])).length - 1]? = some (.str (ml q)) := by
          unfold dlS
          rw [List.length_map, List.length_append, List.length_singleton, List.map_append]
          simp
        have e9 : (dlS (F ++ [q])).dropLast = dlS F := by
          unfold dlS
          rw [List.map_append]
          simp
        have e10 : (dlS (F ++ [q])).length ≤ 1000000 := Nat.le_of_lt hFl
        have e11 : (dlS F).length < 1000000 := by rw [dlS_len]; omega
        have e12 : dlS F ++ [.str (ml (q ++ [c]))] = dlS (F ++ [q ++ [c]]) := by
          unfold dlS
          rw [List.map_append]
          rfl
        have hb : b_law_pieces_1 [.im (.str (ml l)), .mu false (.ml (dlS (F ++ [q]))), .im (.int (a : Int))] = some (.nx [.im (.str (ml l)), .mu false (.ml (dlS (F ++ [q ++ [c]]))), .im (.int ((a + 1 : Nat) : Int))]) := by
          unfold b_law_pieces_1
          simp only [z_sseq, z_sset, z_sret, z_sif, z_snx, z_sbk, z_sct, z_sdrop, z_sasg, z_spar, z_sown, z_sfor, z_mop2, z_mc, z_mvar, z_MM_opt, z_MM_map, z_mcons, z_mnil, z_pnil, z_pcim, z_pcow, z_acim, z_acsl, z_anil, z_mif, z_mandB, z_morB, z_mnotB, z_mandV, z_morV, z_mnotV, z_mmeth, z_fmeth, z_fop2, z_mdr, z_mdrNe, z_mdrLen, z_mdrPop, z_sdr, z_mappend, z_mextend, z_mpopAt, z_mlenO, z_mnilO, z_msl, z_mcall, z_saug, z_mmethL, z_sdraws, z_mtrue, slots_nil, slots_im, slots_sl, argsE, updE, List.nodup_nil, List.nodup_cons, List.not_mem_nil, List.mem_singleton, not_false_eq_true, and_self, and_true, List.nil_append, List.append_nil, List.cons_append, mtg, Zf.setL, setsE, few, blD_b, truD_b, truD_i, truD_l, truD_t, intL_i, intL_b, seqD_l, seqD_t, seqD_s, seqD_c, negD_i, DS.at, DS.put, DS.row, addD_i, subD_i, eqD_i, neD_i, ltD_i, leD_i, gtD_i, geD_i, eqD_s, neD_s, out_l, out_d, okS_s, okW_nil, okW_cons, okM_no, okM_im, okM_mf, okM_mt, okN_no, okN_im, okN_mu, wipeE, List.all_cons, List.all_nil, Bool.and_true, Bool.true_and, Bool.and_self, decide_true, decide_false, reduceIte, if_true, if_false, List.length_cons, List.length_nil, List.getElem?_cons_zero, List.getElem?_cons_succ, List.set_cons_zero, List.set_cons_succ, List.map_cons, List.map_nil, Bool.false_eq_true, Option.some.injEq, Bool.not_true, Bool.not_false, Nat.reduceAdd, Nat.reduceLT, Nat.reduceLeDiff, z_mpop0, intD_i, e2, e3, e8, e9, e10, e4, e5, e11, e12]
          rfl
        rw [swhile_t ht hb, ih (l.length - (a + 1)) (by omega) fuel (a + 1) F (q ++ [c]) rfl (by omega) (by omega) (by rw [List.length_append]; simp; omega)]
        have e6 : pcs (l.drop a) = consH c (pcs (l.drop (a + 1))) := by
          rw [hd] at hm ⊢
          unfold pcs
          rw [spk_cons]
          exact if_neg hm
        have e7 : F ++ glue (q ++ [c]) (pcs (l.drop (a + 1))) = F ++ glue q (pcs (l.drop a)) := by
          rw [e6]
          cases h : pcs (l.drop (a + 1)) with
          | nil => exact absurd h (spk_ne dots 0 _)
          | cons p r => simp [glue, consH]
        rw [e7]
theorem law_pieces_ok (l : List Nat) (hl : l.length ≤ 90000) : F_law_pieces [.im (.str (ml l))] = some (.lst (dlS (pcs l)), [.im (.str (ml l))]) := by
  have h1 := pieces_loop l hl l.length 100000 0 [] [] rfl (Nat.zero_le _) (by omega) (Nat.le_refl _)
  have e7 : [] ++ glue [] (pcs (l.drop 0)) = pcs l := by
    rw [List.drop_zero]
    cases h : pcs l with
    | nil => exact absurd h (spk_ne dots 0 _)
    | cons p r => simp [glue]
  rw [e7] at h1
  have hf : few [.str ("" : Str)] = some [.str ("" : Str)] := rfl
  have body : m_law_pieces [.im (.str (ml l)), .no, .no] = some (.rt (.lst (dlS (pcs l))) [.im (.str (ml l)), .im (.lst (dlS (pcs l))), .im (.int (l.length : Int))]) := by
    unfold m_law_pieces
    refine sseq_nx (e1 := [.im (.str (ml l)), .mu false (.ml (dlS ([] ++ [[]]))), .im (.int ((0 : Nat) : Int))]) (by simp only [z_sseq, z_sset, z_sret, z_sif, z_snx, z_sbk, z_sct, z_sdrop, z_sasg, z_spar, z_sown, z_sfor, z_mop2, z_mc, z_mvar, z_MM_opt, z_MM_map, z_mcons, z_mnil, z_pnil, z_pcim, z_pcow, z_acim, z_acsl, z_anil, z_mif, z_mandB, z_morB, z_mnotB, z_mandV, z_morV, z_mnotV, z_mmeth, z_fmeth, z_fop2, z_mdr, z_mdrNe, z_mdrLen, z_mdrPop, z_sdr, z_mappend, z_mextend, z_mpopAt, z_mlenO, z_mnilO, z_msl, z_mcall, z_saug, z_mmethL, z_sdraws, z_mtrue, slots_nil, slots_im, slots_sl, argsE, updE, List.nodup_nil, List.nodup_cons, List.not_mem_nil, List.mem_singleton, not_false_eq_true, and_self, and_true, List.nil_append, List.append_nil, List.cons_append, mtg, Zf.setL, setsE, few, blD_b, truD_b, truD_i, truD_l, truD_t, intL_i, intL_b, seqD_l, seqD_t, seqD_s, seqD_c, negD_i, DS.at, DS.put, DS.row, addD_i, subD_i, eqD_i, neD_i, ltD_i, leD_i, gtD_i, geD_i, eqD_s, neD_s, out_l, out_d, okS_s, okW_nil, okW_cons, okM_no, okM_im, okM_mf, okM_mt, okN_no, okN_im, okN_mu, wipeE, List.all_cons, List.all_nil, Bool.and_true, Bool.true_and, Bool.and_self, decide_true, decide_false, reduceIte, if_true, if_false, List.length_cons, List.length_nil, List.getElem?_cons_zero, List.getElem?_cons_succ, List.set_cons_zero, List.set_cons_succ, List.map_cons, List.map_nil, Bool.false_eq_true, Option.some.injEq, Bool.not_true, Bool.not_false, Nat.reduceAdd, Nat.reduceLT, Nat.reduceLeDiff, z_mpop0, intD_i, hf]; rfl) (sseq_nx h1 ?_)
    simp only [z_sseq, z_sset, z_sret, z_sif, z_snx, z_sbk, z_sct, z_sdrop, z_sasg, z_spar, z_sown, z_sfor, z_mop2, z_mc, z_mvar, z_MM_opt, z_MM_map, z_mcons, z_mnil, z_pnil, z_pcim, z_pcow, z_acim, z_acsl, z_anil, z_mif, z_mandB, z_morB, z_mnotB, z_mandV, z_morV, z_mnotV, z_mmeth, z_fmeth, z_fop2, z_mdr, z_mdrNe, z_mdrLen, z_mdrPop, z_sdr, z_mappend, z_mextend, z_mpopAt, z_mlenO, z_mnilO, z_msl, z_mcall, z_saug, z_mmethL, z_sdraws, z_mtrue, slots_nil, slots_im, slots_sl, argsE, updE, List.nodup_nil, List.nodup_cons, List.not_mem_nil, List.mem_singleton, not_false_eq_true, and_self, and_true, List.nil_append, List.append_nil, List.cons_append, mtg, Zf.setL, setsE, few, blD_b, truD_b, truD_i, truD_l, truD_t, intL_i, intL_b, seqD_l, seqD_t, seqD_s, seqD_c, negD_i, DS.at, DS.put, DS.row, addD_i, subD_i, eqD_i, neD_i, ltD_i, leD_i, gtD_i, geD_i, eqD_s, neD_s, out_l, out_d, okS_s, okW_nil, okW_cons, okM_no, okM_im, okM_mf, okM_mt, okN_no, okN_im, okN_mu, wipeE, List.all_cons, List.all_nil, Bool.and_true, Bool.true_and, Bool.and_self, decide_true, decide_false, reduceIte, if_true, if_false, List.length_cons, List.length_nil, List.getElem?_cons_zero, List.getElem?_cons_succ, List.set_cons_zero, List.set_cons_succ, List.map_cons, List.map_nil, Bool.false_eq_true, Option.some.injEq, Bool.not_true, Bool.not_false, Nat.reduceAdd, Nat.reduceLT, Nat.reduceLeDiff, z_mpop0, intD_i]
  exact fnM_rt (n := 3) (args := [.im (.str (ml l))]) (m := m_law_pieces) body
/-! fits -/
def FitP (g : List Nat) : Nat → List (List Nat) → Prop
  | _, [] => True
  | a, p :: r => ∃ b, a ≤ b ∧ AtL p g g.length b ∧ (if r = [] then b + p.length = g.length else FitP g (b + p.length) r)
def FitA (g : List Nat) : List (List Nat) → Prop
  | [] => True
  | p :: r => g.take p.length = p ∧ FitP g p.length r
theorem fit_cons {g : List Nat} {a : Nat} {p : List Nat} {r : List (List Nat)} (hr : r ≠ []) : FitP g a (p :: r) ↔ ∃ b, a ≤ b ∧ AtL p g g.length b ∧ FitP g (b + p.length) r := by
  show (∃ b, a ≤ b ∧ AtL p g g.length b ∧ (if r = [] then b + p.length = g.length else FitP g (b + p.length) r)) ↔ _
  simp only [if_neg hr]
theorem fit_one {g : List Nat} {a : Nat} {p : List Nat} : FitP g a [p] ↔ ∃ b, a ≤ b ∧ AtL p g g.length b ∧ b + p.length = g.length := by
  show (∃ b, a ≤ b ∧ AtL p g g.length b ∧ (if ([] : List (List Nat)) = [] then b + p.length = g.length else FitP g (b + p.length) [])) ↔ _
  simp only [if_true]
theorem fit_mono {g : List Nat} {a b : Nat} {r : List (List Nat)} (h : FitP g b r) (hab : a ≤ b) : FitP g a r := by
  cases r with
  | nil => trivial
  | cons p r =>
    obtain ⟨c, h1, h2, h3⟩ := h
    exact ⟨c, by omega, h2, h3⟩
theorem fit_end {g pl : List Nat} : ∀ (mid : List (List Nat)) (a : Nat), FitP g a (mid ++ [pl]) → a + pl.length ≤ g.length ∧ g.drop (g.length - pl.length) = pl
  | [], a, h => by
    obtain ⟨b, h1, h2, h3⟩ := fit_one.mp h
    refine ⟨by omega, ?_⟩
    have := h2.2
    rw [List.take_of_length_le (by rw [List.length_drop]; omega)] at this
    rw [show g.length - pl.length = b by omega, this]
  | p :: mid, a, h => by
    obtain ⟨b, h1, h2, h3⟩ := (fit_cons (r := mid ++ [pl]) (by simp)).mp h
    have := fit_end mid (b + p.length) h3
    exact ⟨by omega, this.2⟩
theorem prog_loop (g pl : List Nat) (X : Sl) (hg : g.length ≤ 90000) (he : g.drop (g.length - pl.length) = pl) : ∀ (mid : List (List Nat)) (a : Nat) (t : Sl), a + pl.length ≤ g.length → okM t = true →
    ∃ s2 s3 s4, (forL (.one 4) b_fits_pieces_1 (dlS mid) [X, .im (.str (ml g)), .im (.int (a : Int)), .im (.int ((g.length - pl.length : Nat) : Int)), t] = some (.nx [X, .im (.str (ml g)), s2, s3, s4]) ∧ FitP g a (mid ++ [pl])) ∨ (forL (.one 4) b_fits_pieces_1 (dlS mid) [X, .im (.str (ml g)), .im (.int (a : Int)), .im (.int ((g.length - pl.length : Nat) : Int)), t] = some (.rt (.bl false) [X, .im (.str (ml g)), s2, s3, s4]) ∧ ¬ FitP g a (mid ++ [pl]))
  | [], a, t, ha, ht => by
    refine ⟨_, _, _, .inl ⟨rfl, fit_one.mpr ⟨g.length - pl.length, by omega, ⟨by omega, ?_⟩, by omega⟩⟩⟩
    rw [he, List.take_length]
  | p :: mid, a, t, ha, ht => by
    have hgp : (ml p).length ≤ 1000000 ∨ True := .inr trivial
    rcases findIn_ml g p a (g.length - pl.length) (Nat.sub_le _ _) with ⟨h1, h2⟩ | ⟨i, h1, h2, h3, h4⟩
    · refine ⟨.im (.int (-1)), .im (.int ((g.length - pl.length : Nat) : Int)), .im (.str (ml p)), .inr ⟨?_, ?_⟩⟩
      · have hb : b_fits_pieces_1 [X, .im (.str (ml g)), .im (.int (a : Int)), .im (.int ((g.length - pl.length : Nat) : Int)), .im (.str (ml p))] = some (.rt (.bl false) [X, .im (.str (ml g)), .im (.int (-1)), .im (.int ((g.length - pl.length : Nat) : Int)), .im (.str (ml p))]) := by
          unfold b_fits_pieces_1
          have e1 : find4M (ml g) [.str (ml p), .int (a : Int), .int ((g.length - pl.length : Nat) : Int)] = some (.int (-1)) := by
            simp only [find4M, h1]
          have e2 : decide ((-1 : Int) < 0) = true := by decide
          simp only [z_sseq, z_sset, z_sret, z_sif, z_snx, z_sbk, z_sct, z_sdrop, z_sasg, z_spar, z_sown, z_sfor, z_mop2, z_mc, z_mvar, z_MM_opt, z_MM_map, z_mcons, z_mnil, z_pnil, z_pcim, z_pcow, z_acim, z_acsl, z_anil, z_mif, z_mandB, z_morB, z_mnotB, z_mandV, z_morV, z_mnotV, z_mmeth, z_fmeth, z_fop2, z_mdr, z_mdrNe, z_mdrLen, z_mdrPop, z_sdr, z_mappend, z_mextend, z_mpopAt, z_mlenO, z_mnilO, z_msl, z_mcall, z_saug, z_mmethL, z_sdraws, z_mtrue, slots_nil, slots_im, slots_sl, argsE, updE, List.nodup_nil, List.nodup_cons, List.not_mem_nil, List.mem_singleton, not_false_eq_true, and_self, and_true, List.nil_append, List.append_nil, List.cons_append, mtg, Zf.setL, setsE, few, blD_b, truD_b, truD_i, truD_l, truD_t, intL_i, intL_b, seqD_l, seqD_t, seqD_s, seqD_c, negD_i, DS.at, DS.put, DS.row, addD_i, subD_i, eqD_i, neD_i, ltD_i, leD_i, gtD_i, geD_i, eqD_s, neD_s, out_l, out_d, okS_s, okW_nil, okW_cons, okM_no, okM_im, okM_mf, okM_mt, okN_no, okN_im, okN_mu, wipeE, List.all_cons, List.all_nil, Bool.and_true, Bool.true_and, Bool.and_self, decide_true, decide_false, reduceIte, if_true, if_false, List.length_cons, List.length_nil, List.getElem?_cons_zero, List.getElem?_cons_succ, List.set_cons_zero, List.set_cons_succ, List.map_cons, List.map_nil, Bool.false_eq_true, Option.some.injEq, Bool.not_true, Bool.not_false, Nat.reduceAdd, Nat.reduceLT, Nat.reduceLeDiff, z_mpop0, intD_i, e1, e2]
        show forL (.one 4) b_fits_pieces_1 (.str (ml p) :: dlS mid) _ = _
        have ht2 : mtg (.one 4) (.str (ml p)) [X, .im (.str (ml g)), .im (.int (a : Int)), .im (.int ((g.length - pl.length : Nat) : Int)), t] = some [X, .im (.str (ml g)), .im (.int (a : Int)), .im (.int ((g.length - pl.length : Nat) : Int)), .im (.str (ml p))] := by simp only [z_sseq, z_sset, z_sret, z_sif, z_snx, z_sbk, z_sct, z_sdrop, z_sasg, z_spar, z_sown, z_sfor, z_mop2, z_mc, z_mvar, z_MM_opt, z_MM_map, z_mcons, z_mnil, z_pnil, z_pcim, z_pcow, z_acim, z_acsl, z_anil, z_mif, z_mandB, z_morB, z_mnotB, z_mandV, z_morV, z_mnotV, z_mmeth, z_fmeth, z_fop2, z_mdr, z_mdrNe, z_mdrLen, z_mdrPop, z_sdr, z_mappend, z_mextend, z_mpopAt, z_mlenO, z_mnilO, z_msl, z_mcall, z_saug, z_mmethL, z_sdraws, z_mtrue, slots_nil, slots_im, slots_sl, argsE, updE, List.nodup_nil, List.nodup_cons, List.not_mem_nil, List.mem_singleton, not_false_eq_true, and_self, and_true, List.nil_append, List.append_nil, List.cons_append, mtg, Zf.setL, setsE, few, blD_b, truD_b, truD_i, truD_l, truD_t, intL_i, intL_b, seqD_l, seqD_t, seqD_s, seqD_c, negD_i, DS.at, DS.put, DS.row, addD_i, subD_i, eqD_i, neD_i, ltD_i, leD_i, gtD_i, geD_i, eqD_s, neD_s, out_l, out_d, okS_s, okW_nil, okW_cons, okM_no, okM_im, okM_mf, okM_mt, okN_no, okN_im, okN_mu, wipeE, List.all_cons, List.all_nil, Bool.and_true, Bool.true_and, Bool.and_self, decide_true, decide_false, reduceIte, if_true, if_false, List.length_cons, List.length_nil, List.getElem?_cons_zero, List.getElem?_cons_succ, List.set_cons_zero, List.set_cons_succ, List.map_cons, List.map_nil, Bool.false_eq_true, Option.some.injEq, Bool.not_true, Bool.not_false, Nat.reduceAdd, Nat.reduceLT, Nat.reduceLeDiff, z_mpop0, intD_i, ht]
        simp only [forL, ht2, hb]
      · intro k
        obtain ⟨b, k1, k2, k3⟩ := (fit_cons (r := mid ++ [pl]) (by simp)).mp k
        have := (fit_end mid _ k3).1
        exact h2 b k1 ⟨by omega, k2.2⟩
    · have hpl : p.length ≤ 1000000 := by have := h3.1; omega
      obtain ⟨s2, s3, s4, ih⟩ := prog_loop g pl X hg he mid (i + p.length) (.im (.str (ml p))) (by have := h3.1; omega) rfl
      have hb : b_fits_pieces_1 [X, .im (.str (ml g)), .im (.int (a : Int)), .im (.int ((g.length - pl.length : Nat) : Int)), .im (.str (ml p))] = some (.nx [X, .im (.str (ml g)), .im (.int ((i + p.length : Nat) : Int)), .im (.int ((g.length - pl.length : Nat) : Int)), .im (.str (ml p))]) := by
        unfold b_fits_pieces_1
        have e1 : find4M (ml g) [.str (ml p), .int (a : Int), .int ((g.length - pl.length : Nat) : Int)] = some (.int (i : Int)) := by
          simp only [find4M, h1]
        have e2 : decide ((i : Int) < 0) = false := decide_eq_false (by omega)
        have e3 := lenL_ml hpl
        simp only [z_sseq, z_sset, z_sret, z_sif, z_snx, z_sbk, z_sct, z_sdrop, z_sasg, z_spar, z_sown, z_sfor, z_mop2, z_mc, z_mvar, z_MM_opt, z_MM_map, z_mcons, z_mnil, z_pnil, z_pcim, z_pcow, z_acim, z_acsl, z_anil, z_mif, z_mandB, z_morB, z_mnotB, z_mandV, z_morV, z_mnotV, z_mmeth, z_fmeth, z_fop2, z_mdr, z_mdrNe, z_mdrLen, z_mdrPop, z_sdr, z_mappend, z_mextend, z_mpopAt, z_mlenO, z_mnilO, z_msl, z_mcall, z_saug, z_mmethL, z_sdraws, z_mtrue, slots_nil, slots_im, slots_sl, argsE, updE, List.nodup_nil, List.nodup_cons, List.not_mem_nil, List.mem_singleton, not_false_eq_true, and_self, and_true, List.nil_append, List.append_nil, List.cons_append, mtg, Zf.setL, setsE, few, blD_b, truD_b, truD_i, truD_l, truD_t, intL_i, intL_b, seqD_l, seqD_t, seqD_s, seqD_c, negD_i, DS.at, DS.put, DS.row, addD_i, subD_i, eqD_i, neD_i, ltD_i, leD_i, gtD_i, geD_i, eqD_s, neD_s, out_l, out_d, okS_s, okW_nil, okW_cons, okM_no, okM_im, okM_mf, okM_mt, okN_no, okN_im, okN_mu, wipeE, List.all_cons, List.all_nil, Bool.and_true, Bool.true_and, Bool.and_self, decide_true, decide_false, reduceIte, if_true, if_false, List.length_cons, List.length_nil, List.getElem?_cons_zero, List.getElem?_cons_succ, List.set_cons_zero, List.set_cons_succ, List.map_cons, List.map_nil, Bool.false_eq_true, Option.some.injEq, Bool.not_true, Bool.not_false, Nat.reduceAdd, Nat.reduceLT, Nat.reduceLeDiff, z_mpop0, intD_i, e1, e2, e3]
        rfl
      have ht2 : mtg (.one 4) (.str (ml p)) [X, .im (.str (ml g)), .im (.int (a : Int)), .im (.int ((g.length - pl.length : Nat) : Int)), t] = some [X, .im (.str (ml g)), .im (.int (a : Int)), .im (.int ((g.length - pl.length : Nat) : Int)), .im (.str (ml p))] := by simp only [z_sseq, z_sset, z_sret, z_sif, z_snx, z_sbk, z_sct, z_sdrop, z_sasg, z_spar, z_sown, z_sfor, z_mop2, z_mc, z_mvar, z_MM_opt, z_MM_map, z_mcons, z_mnil, z_pnil, z_pcim, z_pcow, z_acim, z_acsl, z_anil, z_mif, z_mandB, z_morB, z_mnotB, z_mandV, z_morV, z_mnotV, z_mmeth, z_fmeth, z_fop2, z_mdr, z_mdrNe, z_mdrLen, z_mdrPop, z_sdr, z_mappend, z_mextend, z_mpopAt, z_mlenO, z_mnilO, z_msl, z_mcall, z_saug, z_mmethL, z_sdraws, z_mtrue, slots_nil, slots_im, slots_sl, argsE, updE, List.nodup_nil, List.nodup_cons, List.not_mem_nil, List.mem_singleton, not_false_eq_true, and_self, and_true, List.nil_append, List.append_nil, List.cons_append, mtg, Zf.setL, setsE, few, blD_b, truD_b, truD_i, truD_l, truD_t, intL_i, intL_b, seqD_l, seqD_t, seqD_s, seqD_c, negD_i, DS.at, DS.put, DS.row, addD_i, subD_i, eqD_i, neD_i, ltD_i, leD_i, gtD_i, geD_i, eqD_s, neD_s, out_l, out_d, okS_s, okW_nil, okW_cons, okM_no, okM_im, okM_mf, okM_mt, okN_no, okN_im, okN_mu, wipeE, List.all_cons, List.all_nil, Bool.and_true, Bool.true_and, Bool.and_self, decide_true, decide_false, reduceIte, if_true, if_false, List.length_cons, List.length_nil, List.getElem?_cons_zero, List.getElem?_cons_succ, List.set_cons_zero, List.set_cons_succ, List.map_cons, List.map_nil, Bool.false_eq_true, Option.some.injEq, Bool.not_true, Bool.not_false, Nat.reduceAdd, Nat.reduceLT, Nat.reduceLeDiff, z_mpop0, intD_i, ht]
      have hstep : forL (.one 4) b_fits_pieces_1 (dlS (p :: mid)) [X, .im (.str (ml g)), .im (.int (a : Int)), .im (.int ((g.length - pl.length : Nat) : Int)), t] = forL (.one 4) b_fits_pieces_1 (dlS mid) [X, .im (.str (ml g)), .im (.int ((i + p.length : Nat) : Int)), .im (.int ((g.length - pl.length : Nat) : Int)), .im (.str (ml p))] := by
        show forL (.one 4) b_fits_pieces_1 (.str (ml p) :: dlS mid) _ = _
        conv => lhs; unfold forL
        simp only [ht2, hb]
      have hiff : FitP g a ((p :: mid) ++ [pl]) ↔ FitP g (i + p.length) (mid ++ [pl]) := by
        have hne : ¬ (mid ++ [pl] = []) := by simp
        constructor
        · intro k
          obtain ⟨b, k1, k2, k3⟩ := (fit_cons (r := mid ++ [pl]) hne).mp k
          have hk := (fit_end mid _ k3).1
          have hib : i ≤ b := by
            by_cases q : i ≤ b
            · exact q
            · exact absurd ⟨by omega, k2.2⟩ (h4 b k1 (by omega))
          exact fit_mono k3 (by omega)
        · intro k
          exact (fit_cons (r := mid ++ [pl]) hne).mpr ⟨i, h2, ⟨by have := h3.1; omega, h3.2⟩, k⟩
      refine ⟨s2, s3, s4, ?_⟩
      rw [hstep, hiff]
      exact ih
theorem at_last {xs : List D} {d : D} : atD (xs ++ [d]) (-1) = some d := at_neg1 (by simp)
theorem slD_mid (a b : D) (xs : List D) : slD (.lst (a :: (xs ++ [b]))) (some 1) (some (-1)) = some (.lst xs) := by
  show some (D.lst (cutD _ _ _)) = _
  unfold cutD HT.sIx
  simp only
  rw [if_pos (show (-1 : Int) < 0 by decide), if_neg (show ¬ (1 : Int) < 0 by decide)]
  simp only [List.length_cons, List.length_append, List.length_nil]
  rw [show min (Int.toNat 1) (xs.length + (0 + 1) + 1) = 1 by simp, show (-1 + ((xs.length + (0 + 1) + 1 : Nat) : Int)).toNat = xs.length + 1 by omega]
  simp
theorem fits_ok (g p0 pl : List Nat) (mid : List (List Nat)) (hg : g.length ≤ 90000) (hp0 : p0.length ≤ 90000) (hpl : pl.length ≤ 90000) : ∃ b : Bool, (b = true ↔ FitA g (p0 :: (mid ++ [pl]))) ∧ F_fits_pieces [.im (.lst (dlS (p0 :: (mid ++ [pl])))), .im (.str (ml g))] = some (.bl b, [.im (.lst (dlS (p0 :: (mid ++ [pl])))), .im (.str (ml g))]) := by
  have hds : dlS (p0 :: (mid ++ [pl])) = .str (ml p0) :: (dlS mid ++ [.str (ml pl)]) := by
    unfold dlS
    rw [List.map_cons, List.map_append]; rfl
  rw [hds]
  obtain ⟨P, hP⟩ : ∃ P, P = D.str (ml p0) :: (dlS mid ++ [.str (ml pl)]) := ⟨_, rfl⟩
  have i0 : ixD (.lst P) (.int 0) = some (.str (ml p0)) := by rw [hP]; exact at_0
  have i1 : ixD (.lst P) (.int (-1)) = some (.str (ml pl)) := by
    rw [hP]
    exact at_last (xs := D.str (ml p0) :: dlS mid)
  have i2 : slD (.lst P) (some 1) (some (-1)) = some (.lst (dlS mid)) := by rw [hP]; exact slD_mid _ _ _
  rw [← hP]
  have l0 := lenL_ml (l := g) (by omega)
  have l1 := lenL_ml (l := p0) (by omega)
  have l2 := lenL_ml (l := pl) (by omega)
  by_cases q0 : g.length < p0.length + pl.length
  · refine ⟨false, ⟨fun h => (by cases h), fun h => ?_⟩, ?_⟩
    · have := (fit_end mid _ h.2).1
      omega
    · have e0 : decide ((g.length : Int) < (p0.length : Int) + (pl.length : Int)) = true := decide_eq_true (by omega)
      have body : m_fits_pieces [.im (.lst P), .im (.str (ml g)), .no, .no, .no] = some (.rt (.bl false) [.im (.lst P), .im (.str (ml g)), .no, .no, .no]) := by
        unfold m_fits_pieces
        simp only [z_sseq, z_sset, z_sret, z_sif, z_snx, z_sbk, z_sct, z_sdrop, z_sasg, z_spar, z_sown, z_sfor, z_mop2, z_mc, z_mvar, z_MM_opt, z_MM_map, z_mcons, z_mnil, z_pnil, z_pcim, z_pcow, z_acim, z_acsl, z_anil, z_mif, z_mandB, z_morB, z_mnotB, z_mandV, z_morV, z_mnotV, z_mmeth, z_fmeth, z_fop2, z_mdr, z_mdrNe, z_mdrLen, z_mdrPop, z_sdr, z_mappend, z_mextend, z_mpopAt, z_mlenO, z_mnilO, z_msl, z_mcall, z_saug, z_mmethL, z_sdraws, z_mtrue, slots_nil, slots_im, slots_sl, argsE, updE, List.nodup_nil, List.nodup_cons, List.not_mem_nil, List.mem_singleton, not_false_eq_true, and_self, and_true, List.nil_append, List.append_nil, List.cons_append, mtg, Zf.setL, setsE, few, blD_b, truD_b, truD_i, truD_l, truD_t, intL_i, intL_b, seqD_l, seqD_t, seqD_s, seqD_c, negD_i, DS.at, DS.put, DS.row, addD_i, subD_i, eqD_i, neD_i, ltD_i, leD_i, gtD_i, geD_i, eqD_s, neD_s, out_l, out_d, okS_s, okW_nil, okW_cons, okM_no, okM_im, okM_mf, okM_mt, okN_no, okN_im, okN_mu, wipeE, List.all_cons, List.all_nil, Bool.and_true, Bool.true_and, Bool.and_self, decide_true, decide_false, reduceIte, if_true, if_false, List.length_cons, List.length_nil, List.getElem?_cons_zero, List.getElem?_cons_succ, List.set_cons_zero, List.set_cons_succ, List.map_cons, List.map_nil, Bool.false_eq_true, Option.some.injEq, Bool.not_true, Bool.not_false, Nat.reduceAdd, Nat.reduceLT, Nat.reduceLeDiff, z_mpop0, intD_i, i0, i1, l0, l1, l2, e0]
      exact fnM_rt (n := 5) (args := [.im (.lst P), .im (.str (ml g))]) (m := m_fits_pieces) body
  · have e0 : decide ((g.length : Int) < (p0.length : Int) + (pl.length : Int)) = false := decide_eq_false (by omega)
    have s1 : startsM (ml g) [.str (ml p0)] = some (.bl (decide (g.take p0.length = p0))) := by
      simp only [startsM, starts_ml]
    have s2 : endsM (ml g) [.str (ml pl)] = some (.bl (decide (g.drop (g.length - pl.length) = pl))) := by
      simp only [endsM, ends_ml]
      rw [decide_eq_true (show pl.length ≤ g.length by omega), Bool.true_and]
    by_cases q1 : g.take p0.length = p0
    · rw [decide_eq_true q1] at s1
      by_cases q2 : g.drop (g.length - pl.length) = pl
      · rw [decide_eq_true q2] at s2
        have e5 : (g.length : Int) - (pl.length : Int) = ((g.length - pl.length : Nat) : Int) := by omega
        obtain ⟨t2, t3, t4, h⟩ := prog_loop g pl (.im (.lst P)) hg q2 mid p0.length .no (by omega) rfl
        rcases h with ⟨h, hf⟩ | ⟨h, hf⟩
        · refine ⟨true, ⟨fun _ => ⟨q1, hf⟩, fun _ => rfl⟩, ?_⟩
          have body : m_fits_pieces [.im (.lst P), .im (.str (ml g)), .no, .no, .no] = some (.rt (.bl true) [.im (.lst P), .im (.str (ml g)), t2, t3, t4]) := by
            unfold m_fits_pieces
            simp only [z_sseq, z_sset, z_sret, z_sif, z_snx, z_sbk, z_sct, z_sdrop, z_sasg, z_spar, z_sown, z_sfor, z_mop2, z_mc, z_mvar, z_MM_opt, z_MM_map, z_mcons, z_mnil, z_pnil, z_pcim, z_pcow, z_acim, z_acsl, z_anil, z_mif, z_mandB, z_morB, z_mnotB, z_mandV, z_morV, z_mnotV, z_mmeth, z_fmeth, z_fop2, z_mdr, z_mdrNe, z_mdrLen, z_mdrPop, z_sdr, z_mappend, z_mextend, z_mpopAt, z_mlenO, z_mnilO, z_msl, z_mcall, z_saug, z_mmethL, z_sdraws, z_mtrue, slots_nil, slots_im, slots_sl, argsE, updE, List.nodup_nil, List.nodup_cons, List.not_mem_nil, List.mem_singleton, not_false_eq_true, and_self, and_true, List.nil_append, List.append_nil, List.cons_append, mtg, Zf.setL, setsE, few, blD_b, truD_b, truD_i, truD_l, truD_t, intL_i, intL_b, seqD_l, seqD_t, seqD_s, seqD_c, negD_i, DS.at, DS.put, DS.row, addD_i, subD_i, eqD_i, neD_i, ltD_i, leD_i, gtD_i, geD_i, eqD_s, neD_s, out_l, out_d, okS_s, okW_nil, okW_cons, okM_no, okM_im, okM_mf, okM_mt, okN_no, okN_im, okN_mu, wipeE, List.all_cons, List.all_nil, Bool.and_true, Bool.true_and, Bool.and_self, decide_true, decide_false, reduceIte, if_true, if_false, List.length_cons, List.length_nil, List.getElem?_cons_zero, List.getElem?_cons_succ, List.set_cons_zero, List.set_cons_succ, List.map_cons, List.map_nil, Bool.false_eq_true, Option.some.injEq, Bool.not_true, Bool.not_false, Nat.reduceAdd, Nat.reduceLT, Nat.reduceLeDiff, z_mpop0, intD_i, i0, i1, i2, l0, l1, l2, e0, s1, s2, e5, h]
          exact fnM_rt (n := 5) (args := [.im (.lst P), .im (.str (ml g))]) (m := m_fits_pieces) body
        · refine ⟨false, ⟨fun h => (by cases h), fun h => absurd h.2 hf⟩, ?_⟩
          have body : m_fits_pieces [.im (.lst P), .im (.str (ml g)), .no, .no, .no] = some (.rt (.bl false) [.im (.lst P), .im (.str (ml g)), t2, t3, t4]) := by
            unfold m_fits_pieces
            simp only [z_sseq, z_sset, z_sret, z_sif, z_snx, z_sbk, z_sct, z_sdrop, z_sasg, z_spar, z_sown, z_sfor, z_mop2, z_mc, z_mvar, z_MM_opt, z_MM_map, z_mcons, z_mnil, z_pnil, z_pcim, z_pcow, z_acim, z_acsl, z_anil, z_mif, z_mandB, z_morB, z_mnotB, z_mandV, z_morV, z_mnotV, z_mmeth, z_fmeth, z_fop2, z_mdr, z_mdrNe, z_mdrLen, z_mdrPop, z_sdr, z_mappend, z_mextend, z_mpopAt, z_mlenO, z_mnilO, z_msl, z_mcall, z_saug, z_mmethL, z_sdraws, z_mtrue, slots_nil, slots_im, slots_sl, argsE, updE, List.nodup_nil, List.nodup_cons, List.not_mem_nil, List.mem_singleton, not_false_eq_true, and_self, and_true, List.nil_append, List.append_nil, List.cons_append, mtg, Zf.setL, setsE, few, blD_b, truD_b, truD_i, truD_l, truD_t, intL_i, intL_b, seqD_l, seqD_t, seqD_s, seqD_c, negD_i, DS.at, DS.put, DS.row, addD_i, subD_i, eqD_i, neD_i, ltD_i, leD_i, gtD_i, geD_i, eqD_s, neD_s, out_l, out_d, okS_s, okW_nil, okW_cons, okM_no, okM_im, okM_mf, okM_mt, okN_no, okN_im, okN_mu, wipeE, List.all_cons, List.all_nil, Bool.and_true, Bool.true_and, Bool.and_self, decide_true, decide_false, reduceIte, if_true, if_false, List.length_cons, List.length_nil, List.getElem?_cons_zero, List.getElem?_cons_succ, List.set_cons_zero, List.set_cons_succ, List.map_cons, List.map_nil, Bool.false_eq_true, Option.some.injEq, Bool.not_true, Bool.not_false, Nat.reduceAdd, Nat.reduceLT, Nat.reduceLeDiff, z_mpop0, intD_i, i0, i1, i2, l0, l1, l2, e0, s1, s2, e5, h]
          exact fnM_rt (n := 5) (args := [.im (.lst P), .im (.str (ml g))]) (m := m_fits_pieces) body
      · rw [decide_eq_false q2] at s2
        refine ⟨false, ⟨fun h => (by cases h), fun h => absurd (fit_end mid _ h.2).2 q2⟩, ?_⟩
        have body : m_fits_pieces [.im (.lst P), .im (.str (ml g)), .no, .no, .no] = some (.rt (.bl false) [.im (.lst P), .im (.str (ml g)), .no, .no, .no]) := by
          unfold m_fits_pieces
          simp only [z_sseq, z_sset, z_sret, z_sif, z_snx, z_sbk, z_sct, z_sdrop, z_sasg, z_spar, z_sown, z_sfor, z_mop2, z_mc, z_mvar, z_MM_opt, z_MM_map, z_mcons, z_mnil, z_pnil, z_pcim, z_pcow, z_acim, z_acsl, z_anil, z_mif, z_mandB, z_morB, z_mnotB, z_mandV, z_morV, z_mnotV, z_mmeth, z_fmeth, z_fop2, z_mdr, z_mdrNe, z_mdrLen, z_mdrPop, z_sdr, z_mappend, z_mextend, z_mpopAt, z_mlenO, z_mnilO, z_msl, z_mcall, z_saug, z_mmethL, z_sdraws, z_mtrue, slots_nil, slots_im, slots_sl, argsE, updE, List.nodup_nil, List.nodup_cons, List.not_mem_nil, List.mem_singleton, not_false_eq_true, and_self, and_true, List.nil_append, List.append_nil, List.cons_append, mtg, Zf.setL, setsE, few, blD_b, truD_b, truD_i, truD_l, truD_t, intL_i, intL_b, seqD_l, seqD_t, seqD_s, seqD_c, negD_i, DS.at, DS.put, DS.row, addD_i, subD_i, eqD_i, neD_i, ltD_i, leD_i, gtD_i, geD_i, eqD_s, neD_s, out_l, out_d, okS_s, okW_nil, okW_cons, okM_no, okM_im, okM_mf, okM_mt, okN_no, okN_im, okN_mu, wipeE, List.all_cons, List.all_nil, Bool.and_true, Bool.true_and, Bool.and_self, decide_true, decide_false, reduceIte, if_true, if_false, List.length_cons, List.length_nil, List.getElem?_cons_zero, List.getElem?_cons_succ, List.set_cons_zero, List.set_cons_succ, List.map_cons, List.map_nil, Bool.false_eq_true, Option.some.injEq, Bool.not_true, Bool.not_false, Nat.reduceAdd, Nat.reduceLT, Nat.reduceLeDiff, z_mpop0, intD_i, i0, i1, l0, l1, l2, e0, s1, s2]
        exact fnM_rt (n := 5) (args := [.im (.lst P), .im (.str (ml g))]) (m := m_fits_pieces) body
    · rw [decide_eq_false q1] at s1
      refine ⟨false, ⟨fun h => (by cases h), fun h => absurd h.1 q1⟩, ?_⟩
      have body : m_fits_pieces [.im (.lst P), .im (.str (ml g)), .no, .no, .no] = some (.rt (.bl false) [.im (.lst P), .im (.str (ml g)), .no, .no, .no]) := by
        unfold m_fits_pieces
        simp only [z_sseq, z_sset, z_sret, z_sif, z_snx, z_sbk, z_sct, z_sdrop, z_sasg, z_spar, z_sown, z_sfor, z_mop2, z_mc, z_mvar, z_MM_opt, z_MM_map, z_mcons, z_mnil, z_pnil, z_pcim, z_pcow, z_acim, z_acsl, z_anil, z_mif, z_mandB, z_morB, z_mnotB, z_mandV, z_morV, z_mnotV, z_mmeth, z_fmeth, z_fop2, z_mdr, z_mdrNe, z_mdrLen, z_mdrPop, z_sdr, z_mappend, z_mextend, z_mpopAt, z_mlenO, z_mnilO, z_msl, z_mcall, z_saug, z_mmethL, z_sdraws, z_mtrue, slots_nil, slots_im, slots_sl, argsE, updE, List.nodup_nil, List.nodup_cons, List.not_mem_nil, List.mem_singleton, not_false_eq_true, and_self, and_true, List.nil_append, List.append_nil, List.cons_append, mtg, Zf.setL, setsE, few, blD_b, truD_b, truD_i, truD_l, truD_t, intL_i, intL_b, seqD_l, seqD_t, seqD_s, seqD_c, negD_i, DS.at, DS.put, DS.row, addD_i, subD_i, eqD_i, neD_i, ltD_i, leD_i, gtD_i, geD_i, eqD_s, neD_s, out_l, out_d, okS_s, okW_nil, okW_cons, okM_no, okM_im, okM_mf, okM_mt, okN_no, okN_im, okN_mu, wipeE, List.all_cons, List.all_nil, Bool.and_true, Bool.true_and, Bool.and_self, decide_true, decide_false, reduceIte, if_true, if_false, List.length_cons, List.length_nil, List.getElem?_cons_zero, List.getElem?_cons_succ, List.set_cons_zero, List.set_cons_succ, List.map_cons, List.map_nil, Bool.false_eq_true, Option.some.injEq, Bool.not_true, Bool.not_false, Nat.reduceAdd, Nat.reduceLT, Nat.reduceLeDiff, z_mpop0, intD_i, i0, i1, l0, l1, l2, e0, s1]
      exact fnM_rt (n := 5) (args := [.im (.lst P), .im (.str (ml g))]) (m := m_fits_pieces) body
end Zz

set_option Elab.async false
set_option linter.all false
set_option maxRecDepth 100000
set_option maxHeartbeats 1000000
/-! the law's fits -/
namespace Zz
open PySem PySem.Spec L2 Zf
def dI (ns : List Nat) : List D := ns.map fun (n : Nat) => D.int (n : Int)
def inN : D → Nat
  | .int i => i.toNat
  | _ => 0
theorem dI_len (ns : List Nat) : (dI ns).length = ns.length := by unfold dI; rw [List.length_map]
theorem dI_ints (ns : List Nat) : dI ns = (ns.map fun (n : Nat) => (n : Int)).map D.int := by unfold dI; rw [List.map_map]; rfl
/-- the ends of a piece that begins at one of these -/
def endsOf (g p : List Nat) (bs : List Nat) : List Nat := (bs.filter fun b => decide ((g.drop b).take p.length = p)).map (· + p.length)
theorem ends_comp (g p : List Nat) (X N : Sl) (E : D) (bs : List Nat) (hg : g.length ≤ 90000) (hp : p.length ≤ 90000) (hb : ∀ b ∈ bs, b ≤ 90001) (hn : bs.length ≤ 100000) :
    mlc (.one 6) [6] (MM.opt (mvar 5) seqD) (t_law_fits_2) (e_law_fits_1) [X, .im (.str (ml g)), .im E, N, .im (.str (ml p)), .im (.lst (dI bs)), .no] = some (dI (endsOf g p bs), [X, .im (.str (ml g)), .im E, N, .im (.str (ml p)), .im (.lst (dI bs)), .no]) := by
  have l1 := lenL_ml (l := p) (by omega)
  rw [mlc_fm (ds := dI bs) (fun d => decide ((g.drop (inN d)).take p.length = p)) (fun d => .int ((inN d + p.length : Nat) : Int)) (by simp only [z_sseq, z_sset, z_sret, z_sif, z_snx, z_sbk, z_sct, z_sdrop, z_sasg, z_spar, z_sown, z_sfor, z_mop2, z_mc, z_mvar, z_MM_opt, z_MM_map, z_mcons, z_mnil, z_pnil, z_pcim, z_pcow, z_acim, z_acsl, z_anil, z_mif, z_mandB, z_morB, z_mnotB, z_mandV, z_morV, z_mnotV, z_mmeth, z_fmeth, z_fop2, z_mdr, z_mdrNe, z_mdrLen, z_mdrPop, z_sdr, z_mappend, z_mextend, z_mpopAt, z_mlenO, z_mnilO, z_msl, z_mcall, z_saug, z_mmethL, z_sdraws, z_mtrue, slots_nil, slots_im, slots_sl, argsE, updE, List.nodup_nil, List.nodup_cons, List.not_mem_nil, List.mem_singleton, not_false_eq_true, and_self, and_true, List.nil_append, List.append_nil, List.cons_append, mtg, Zf.setL, setsE, few, blD_b, truD_b, truD_i, truD_l, truD_t, intL_i, intL_b, seqD_l, seqD_t, seqD_s, seqD_c, negD_i, DS.at, DS.put, DS.row, addD_i, subD_i, eqD_i, neD_i, ltD_i, leD_i, gtD_i, geD_i, eqD_s, neD_s, out_l, out_d, okS_s, okW_nil, okW_cons, okM_no, okM_im, okM_mf, okM_mt, okN_no, okN_im, okN_mu, wipeE, List.all_cons, List.all_nil, Bool.and_true, Bool.true_and, Bool.and_self, decide_true, decide_false, reduceIte, if_true, if_false, List.length_cons, List.length_nil, List.getElem?_cons_zero, List.getElem?_cons_succ, List.set_cons_zero, List.set_cons_succ, List.map_cons, List.map_nil, Bool.false_eq_true, Option.some.injEq, Bool.not_true, Bool.not_false, Nat.reduceAdd, Nat.reduceLT, Nat.reduceLeDiff, z_mpop0, intD_i]) (by rw [dI_len]; exact hn) rfl (fun d hd => by
    obtain ⟨b, hbm, rfl⟩ := List.mem_map.mp hd
    have hb2 := hb b hbm
    have e1 : inN (.int (b : Int)) = b := Int.toNat_natCast b
    rw [e1]
    have e2 := slD_ab (l := g) (a := b) (b := b + p.length) (by omega) (by omega)
    rw [show b + p.length - b = p.length by omega] at e2
    have e2 : slD (.str (ml g)) (some (b : Int)) (some ((b : Int) + (p.length : Int))) = some (.str (ml ((g.drop b).take p.length))) := e2
    have e3 := eq_ml ((g.drop b).take p.length) p
    refine ⟨?_, fun _ => ?_⟩
    · unfold t_law_fits_2
      simp only [z_sseq, z_sset, z_sret, z_sif, z_snx, z_sbk, z_sct, z_sdrop, z_sasg, z_spar, z_sown, z_sfor, z_mop2, z_mc, z_mvar, z_MM_opt, z_MM_map, z_mcons, z_mnil, z_pnil, z_pcim, z_pcow, z_acim, z_acsl, z_anil, z_mif, z_mandB, z_morB, z_mnotB, z_mandV, z_morV, z_mnotV, z_mmeth, z_fmeth, z_fop2, z_mdr, z_mdrNe, z_mdrLen, z_mdrPop, z_sdr, z_mappend, z_mextend, z_mpopAt, z_mlenO, z_mnilO, z_msl, z_mcall, z_saug, z_mmethL, z_sdraws, z_mtrue, slots_nil, slots_im, slots_sl, argsE, updE, List.nodup_nil, List.nodup_cons, List.not_mem_nil, List.mem_singleton, not_false_eq_true, and_self, and_true, List.nil_append, List.append_nil, List.cons_append, mtg, Zf.setL, setsE, few, blD_b, truD_b, truD_i, truD_l, truD_t, intL_i, intL_b, seqD_l, seqD_t, seqD_s, seqD_c, negD_i, DS.at, DS.put, DS.row, addD_i, subD_i, eqD_i, neD_i, ltD_i, leD_i, gtD_i, geD_i, eqD_s, neD_s, out_l, out_d, okS_s, okW_nil, okW_cons, okM_no, okM_im, okM_mf, okM_mt, okN_no, okN_im, okN_mu, wipeE, List.all_cons, List.all_nil, Bool.and_true, Bool.true_and, Bool.and_self, decide_true, decide_false, reduceIte, if_true, if_false, List.length_cons, List.length_nil, List.getElem?_cons_zero, List.getElem?_cons_succ, List.set_cons_zero, List.set_cons_succ, List.map_cons, List.map_nil, Bool.false_eq_true, Option.some.injEq, Bool.not_true, Bool.not_false, Nat.reduceAdd, Nat.reduceLT, Nat.reduceLeDiff, z_mpop0, intD_i, l1, e2, e3]
    · unfold e_law_fits_1
      simp only [z_sseq, z_sset, z_sret, z_sif, z_snx, z_sbk, z_sct, z_sdrop, z_sasg, z_spar, z_sown, z_sfor, z_mop2, z_mc, z_mvar, z_MM_opt, z_MM_map, z_mcons, z_mnil, z_pnil, z_pcim, z_pcow, z_acim, z_acsl, z_anil, z_mif, z_mandB, z_morB, z_mnotB, z_mandV, z_morV, z_mnotV, z_mmeth, z_fmeth, z_fop2, z_mdr, z_mdrNe, z_mdrLen, z_mdrPop, z_sdr, z_mappend, z_mextend, z_mpopAt, z_mlenO, z_mnilO, z_msl, z_mcall, z_saug, z_mmethL, z_sdraws, z_mtrue, slots_nil, slots_im, slots_sl, argsE, updE, List.nodup_nil, List.nodup_cons, List.not_mem_nil, List.mem_singleton, not_false_eq_true, and_self, and_true, List.nil_append, List.append_nil, List.cons_append, mtg, Zf.setL, setsE, few, blD_b, truD_b, truD_i, truD_l, truD_t, intL_i, intL_b, seqD_l, seqD_t, seqD_s, seqD_c, negD_i, DS.at, DS.put, DS.row, addD_i, subD_i, eqD_i, neD_i, ltD_i, leD_i, gtD_i, geD_i, eqD_s, neD_s, out_l, out_d, okS_s, okW_nil, okW_cons, okM_no, okM_im, okM_mf, okM_mt, okN_no, okN_im, okN_mu, wipeE, List.all_cons, List.all_nil, Bool.and_true, Bool.true_and, Bool.and_self, decide_true, decide_false, reduceIte, if_true, if_false, List.length_cons, List.length_nil, List.getElem?_cons_zero, List.getElem?_cons_succ, List.set_cons_zero, List.set_cons_succ, List.map_cons, List.map_nil, Bool.false_eq_true, Option.some.injEq, Bool.not_true, Bool.not_false, Nat.reduceAdd, Nat.reduceLT, Nat.reduceLeDiff, z_mpop0, intD_i, l1]
      rfl)]
  congr 2
  unfold dI endsOf
  rw [List.filter_map, List.map_map, List.map_map]
  have : (fun d => decide ((g.drop (inN d)).take p.length = p)) ∘ (fun (n : Nat) => D.int (n : Int)) = fun b => decide ((g.drop b).take p.length = p) := by
    funext b
    show decide ((g.drop (Int.toNat (b : Int))).take p.length = p) = _
    rw [Int.toNat_natCast]
  rw [this]
  refine List.map_congr_left fun b _ => ?_
  show D.int ((Int.toNat (b : Int) + p.length : Nat) : Int) = D.int ((b + p.length : Nat) : Int)
  rw [Int.toNat_natCast]
theorem minL_dI {ns : List Nat} {m : Nat} (hm : m ∈ ns) (hl : ∀ n ∈ ns, m ≤ n) : minL [.lst (dI ns)] = some (.int (m : Int)) := by
  simp only [minL, dI_ints, intsD_map]
  have hne : ∃ k, minI (ns.map fun (n : Nat) => (n : Int)) = some k := by
    cases ns with
    | nil => cases hm
    | cons a r =>
      have : ∀ (r : List Int) (a : Int), ∃ k, minI (a :: r) = some k := fun r => by
        induction r with
        | nil => exact fun a => ⟨a, rfl⟩
        | cons b r ih =>
          intro a
          obtain ⟨k, hk⟩ := ih b
          exact ⟨min a k, by simp only [minI]; rw [hk]; rfl⟩
      exact this _ _
  obtain ⟨k, hk⟩ := hne
  obtain ⟨h1, h2⟩ := minI_le hk
  obtain ⟨n, hn, rfl⟩ := List.mem_map.mp h1
  have h3 := h2 (m : Int) (List.mem_map.mpr ⟨m, hm, rfl⟩)
  have h4 := hl n hn
  have : n = m := by omega
  rw [hk, this]
  rfl
theorem rng_dI (m n : Nat) : rngD (m : Int) n = dI (List.range' m n) := by
  unfold rngD dI
  rw [List.range'_eq_map_range, List.map_map]
  rfl
theorem eq_nil_dI (ns : List Nat) : eqD (.lst (dI ns)) (.lst []) = some (.bl (decide (ns = []))) := by
  have := eqD_ints (ns.map fun (n : Nat) => (n : Int)) []
  rw [← dI_ints] at this
  refine this.trans ?_
  congr 2
  exact decide_eq_decide.mpr List.map_eq_nil_iff
theorem toVs_dI : ∀ ns : List Nat, toVs (dI ns) = some (ns.map fun (n : Nat) => V.int (n : Int))
  | [] => rfl
  | n :: ns => by
    have ih := toVs_dI ns
    show (match toV (.int (n : Int)) with
      | some v => (match toVs (dI ns) with
        | some r => some (v :: r)
        | none => none)
      | none => none) = _
    rw [ih]; rfl
theorem inV_nats (a : Nat) : ∀ xs : List Nat, inV (.int (a : Int)) (xs.map fun (n : Nat) => V.int (n : Int)) = decide (a ∈ xs)
  | [] => rfl
  | x :: xs => by
    have h := inV_nats a xs
    unfold inV at h ⊢
    rw [List.map_cons, List.any_cons, h]
    by_cases q : x = a
    · subst q; simp [eqV]
    · have q1 : ¬ a = x := fun z => q z.symm
      have q2 : ¬ (x : Int) = (a : Int) := by omega
      simp [eqV, q, q1, q2]
theorem inB_dI (a : Nat) (ns : List Nat) : inB (.int (a : Int)) (.lst (dI ns)) = some (decide (a ∈ ns)) := by
  show (match toV (.int (a : Int)), toVs (dI ns) with
    | some v, some vs => some (inV v vs)
    | _, _ => none) = _
  rw [toVs_dI]
  show some (inV (.int (a : Int)) _) = _
  rw [inV_nats]
theorem ends_mem {g p : List Nat} {m n e : Nat} : e ∈ endsOf g p (List.range' m n) ↔ ∃ b, m ≤ b ∧ b < m + n ∧ (g.drop b).take p.length = p ∧ e = b + p.length := by
  unfold endsOf
  rw [List.mem_map]
  constructor
  · rintro ⟨b, hb, rfl⟩
    obtain ⟨h1, h2⟩ := List.mem_filter.mp hb
    rw [List.mem_range'] at h1
    obtain ⟨i, hi, rfl⟩ := h1
    exact ⟨_, by omega, by omega, of_decide_eq_true h2, rfl⟩
  · rintro ⟨b, h1, h2, h3, rfl⟩
    refine ⟨b, List.mem_filter.mpr ⟨?_, decide_eq_true h3⟩, rfl⟩
    rw [List.mem_range']
    exact ⟨b - m, by omega, by omega⟩
theorem take_at {g p : List Nat} {b : Nat} (h : (g.drop b).take p.length = p) (hb : b ≤ g.length) : AtL p g g.length b := by
  refine ⟨?_, h⟩
  have := congrArg List.length h
  rw [List.length_take, List.length_drop] at this
  omega
theorem fits_line (g p : List Nat) (X : Sl) (ns : List Nat) (m i : Nat) (t5 : Sl) (ht5 : okM t5 = true) (hm : m ∈ ns) (hl : ∀ n ∈ ns, m ≤ n) (hg : g.length ≤ 90000) (hp : p.length ≤ 90000) (hml : m ≤ g.length) :
    ∃ u5, okM u5 = true ∧ b_law_fits_3 [X, .im (.str (ml g)), .im (.lst (dI ns)), .im (.int ((i + 1 : Nat) : Int)), .im (.str (ml p)), t5, .no] = (if endsOf g p (List.range' m (g.length + 1 - m)) = [] then some (.rt (.bl false) [X, .im (.str (ml g)), .im (.lst []), .im (.int ((i + 1 : Nat) : Int)), .im (.str (ml p)), u5, .no]) else some (.nx [X, .im (.str (ml g)), .im (.lst (dI (endsOf g p (List.range' m (g.length + 1 - m))))), .im (.int ((i + 1 : Nat) : Int)), .im (.str (ml p)), u5, .no])) := by
  have l0 := lenL_ml (l := g) (by omega)
  have e1 : decide ((0 : Int) < ((i + 1 : Nat) : Int)) = true := decide_eq_true (by omega)
  have e2 := minL_dI hm hl
  have e3 : rngF (.int (m : Int)) (.int ((g.length : Int) + 1)) = some (dI (List.range' m (g.length + 1 - m))) := by
    have h1 : -(2 ^ 60) ≤ (m : Int) ∧ (m : Int) ≤ 2 ^ 60 ∧ -(2 ^ 60) ≤ (g.length : Int) + 1 ∧ (g.length : Int) + 1 ≤ 2 ^ 60 ∧ ((g.length : Int) + 1 - (m : Int)).toNat ≤ 1000000 := by omega
    simp only [rngF]
    rw [if_pos h1, show ((g.length : Int) + 1 - (m : Int)).toNat = g.length + 1 - m by omega, rng_dI]
  have e4 := ends_comp g p X (.im (.int ((i + 1 : Nat) : Int))) (.lst (dI ns)) (List.range' m (g.length + 1 - m)) hg hp (fun b hb => by
    rw [List.mem_range'] at hb
    obtain ⟨j, hj, rfl⟩ := hb
    omega) (by rw [List.length_range']; omega)
  have e5 := eq_nil_dI (endsOf g p (List.range' m (g.length + 1 - m)))
  have hf : few [] = some [] := rfl
  refine ⟨.im (.lst (dI (List.range' m (g.length + 1 - m)))), rfl, ?_⟩
  unfold b_law_fits_3
  refine sseq_nx (e1 := [X, .im (.str (ml g)), .im (.lst (dI ns)), .im (.int ((i + 1 : Nat) : Int)), .im (.str (ml p)), .im (.lst (dI (List.range' m (g.length + 1 - m)))), .no]) (by simp only [z_sseq, z_sset, z_sret, z_sif, z_snx, z_sbk, z_sct, z_sdrop, z_sasg, z_spar, z_sown, z_sfor, z_mop2, z_mc, z_mvar, z_MM_opt, z_MM_map, z_mcons, z_mnil, z_pnil, z_pcim, z_pcow, z_acim, z_acsl, z_anil, z_mif, z_mandB, z_morB, z_mnotB, z_mandV, z_morV, z_mnotV, z_mmeth, z_fmeth, z_fop2, z_mdr, z_mdrNe, z_mdrLen, z_mdrPop, z_sdr, z_mappend, z_mextend, z_mpopAt, z_mlenO, z_mnilO, z_msl, z_mcall, z_saug, z_mmethL, z_sdraws, z_mtrue, slots_nil, slots_im, slots_sl, argsE, updE, List.nodup_nil, List.nodup_cons, List.not_mem_nil, List.mem_singleton, not_false_eq_true, and_self, and_true, List.nil_append, List.append_nil, List.cons_append, mtg, Zf.setL, setsE, few, blD_b, truD_b, truD_i, truD_l, truD_t, intL_i, intL_b, seqD_l, seqD_t, seqD_s, seqD_c, negD_i, DS.at, DS.put, DS.row, addD_i, subD_i, eqD_i, neD_i, ltD_i, leD_i, gtD_i, geD_i, eqD_s, neD_s, out_l, out_d, okS_s, okW_nil, okW_cons, okM_no, okM_im, okM_mf, okM_mt, okN_no, okN_im, okN_mu, wipeE, List.all_cons, List.all_nil, Bool.and_true, Bool.true_and, Bool.and_self, decide_true, decide_false, reduceIte, if_true, if_false, List.length_cons, List.length_nil, List.getElem?_cons_zero, List.getElem?_cons_succ, List.set_cons_zero, List.set_cons_succ, List.map_cons, List.map_nil, Bool.false_eq_true, Option.some.injEq, Bool.not_true, Bool.not_false, Nat.reduceAdd, Nat.reduceLT, Nat.reduceLeDiff, z_mpop0, intD_i, e1, e2, l0, e3, ht5]) ?_
  refine sseq_nx (e1 := [X, .im (.str (ml g)), .im (.lst (dI (endsOf g p (List.range' m (g.length + 1 - m))))), .im (.int ((i + 1 : Nat) : Int)), .im (.str (ml p)), .im (.lst (dI (List.range' m (g.length + 1 - m)))), .no]) (by simp only [z_sseq, z_sset, z_sret, z_sif, z_snx, z_sbk, z_sct, z_sdrop, z_sasg, z_spar, z_sown, z_sfor, z_mop2, z_mc, z_mvar, z_MM_opt, z_MM_map, z_mcons, z_mnil, z_pnil, z_pcim, z_pcow, z_acim, z_acsl, z_anil, z_mif, z_mandB, z_morB, z_mnotB, z_mandV, z_morV, z_mnotV, z_mmeth, z_fmeth, z_fop2, z_mdr, z_mdrNe, z_mdrLen, z_mdrPop, z_sdr, z_mappend, z_mextend, z_mpopAt, z_mlenO, z_mnilO, z_msl, z_mcall, z_saug, z_mmethL, z_sdraws, z_mtrue, slots_nil, slots_im, slots_sl, argsE, updE, List.nodup_nil, List.nodup_cons, List.not_mem_nil, List.mem_singleton, not_false_eq_true, and_self, and_true, List.nil_append, List.append_nil, List.cons_append, mtg, Zf.setL, setsE, few, blD_b, truD_b, truD_i, truD_l, truD_t, intL_i, intL_b, seqD_l, seqD_t, seqD_s, seqD_c, negD_i, DS.at, DS.put, DS.row, addD_i, subD_i, eqD_i, neD_i, ltD_i, leD_i, gtD_i, geD_i, eqD_s, neD_s, out_l, out_d, okS_s, okW_nil, okW_cons, okM_no, okM_im, okM_mf, okM_mt, okN_no, okN_im, okN_mu, wipeE, List.all_cons, List.all_nil, Bool.and_true, Bool.true_and, Bool.and_self, decide_true, decide_false, reduceIte, if_true, if_false, List.length_cons, List.length_nil, List.getElem?_cons_zero, List.getElem?_cons_succ, List.set_cons_zero, List.set_cons_succ, List.map_cons, List.map_nil, Bool.false_eq_true, Option.some.injEq, Bool.not_true, Bool.not_false, Nat.reduceAdd, Nat.reduceLT, Nat.reduceLeDiff, z_mpop0, intD_i, e4]) ?_
  by_cases q : endsOf g p (List.range' m (g.length + 1 - m)) = []
  · rw [decide_eq_true q] at e5
    rw [if_pos q]
    simp only [z_sseq, z_sset, z_sret, z_sif, z_snx, z_sbk, z_sct, z_sdrop, z_sasg, z_spar, z_sown, z_sfor, z_mop2, z_mc, z_mvar, z_MM_opt, z_MM_map, z_mcons, z_mnil, z_pnil, z_pcim, z_pcow, z_acim, z_acsl, z_anil, z_mif, z_mandB, z_morB, z_mnotB, z_mandV, z_morV, z_mnotV, z_mmeth, z_fmeth, z_fop2, z_mdr, z_mdrNe, z_mdrLen, z_mdrPop, z_sdr, z_mappend, z_mextend, z_mpopAt, z_mlenO, z_mnilO, z_msl, z_mcall, z_saug, z_mmethL, z_sdraws, z_mtrue, slots_nil, slots_im, slots_sl, argsE, updE, List.nodup_nil, List.nodup_cons, List.not_mem_nil, List.mem_singleton, not_false_eq_true, and_self, and_true, List.nil_append, List.append_nil, List.cons_append, mtg, Zf.setL, setsE, few, blD_b, truD_b, truD_i, truD_l, truD_t, intL_i, intL_b, seqD_l, seqD_t, seqD_s, seqD_c, negD_i, DS.at, DS.put, DS.row, addD_i, subD_i, eqD_i, neD_i, ltD_i, leD_i, gtD_i, geD_i, eqD_s, neD_s, out_l, out_d, okS_s, okW_nil, okW_cons, okM_no, okM_im, okM_mf, okM_mt, okN_no, okN_im, okN_mu, wipeE, List.all_cons, List.all_nil, Bool.and_true, Bool.true_and, Bool.and_self, decide_true, decide_false, reduceIte, if_true, if_false, List.length_cons, List.length_nil, List.getElem?_cons_zero, List.getElem?_cons_succ, List.set_cons_zero, List.set_cons_succ, List.map_cons, List.map_nil, Bool.false_eq_true, Option.some.injEq, Bool.not_true, Bool.not_false, Nat.reduceAdd, Nat.reduceLT, Nat.reduceLeDiff, z_mpop0, intD_i, hf, e5]
    rw [q]; rfl
  · rw [decide_eq_false q] at e5
    rw [if_neg q]
    simp only [z_sseq, z_sset, z_sret, z_sif, z_snx, z_sbk, z_sct, z_sdrop, z_sasg, z_spar, z_sown, z_sfor, z_mop2, z_mc, z_mvar, z_MM_opt, z_MM_map, z_mcons, z_mnil, z_pnil, z_pcim, z_pcow, z_acim, z_acsl, z_anil, z_mif, z_mandB, z_morB, z_mnotB, z_mandV, z_morV, z_mnotV, z_mmeth, z_fmeth, z_fop2, z_mdr, z_mdrNe, z_mdrLen, z_mdrPop, z_sdr, z_mappend, z_mextend, z_mpopAt, z_mlenO, z_mnilO, z_msl, z_mcall, z_saug, z_mmethL, z_sdraws, z_mtrue, slots_nil, slots_im, slots_sl, argsE, updE, List.nodup_nil, List.nodup_cons, List.not_mem_nil, List.mem_singleton, not_false_eq_true, and_self, and_true, List.nil_append, List.append_nil, List.cons_append, mtg, Zf.setL, setsE, few, blD_b, truD_b, truD_i, truD_l, truD_t, intL_i, intL_b, seqD_l, seqD_t, seqD_s, seqD_c, negD_i, DS.at, DS.put, DS.row, addD_i, subD_i, eqD_i, neD_i, ltD_i, leD_i, gtD_i, geD_i, eqD_s, neD_s, out_l, out_d, okS_s, okW_nil, okW_cons, okM_no, okM_im, okM_mf, okM_mt, okN_no, okN_im, okN_mu, wipeE, List.all_cons, List.all_nil, Bool.and_true, Bool.true_and, Bool.and_self, decide_true, decide_false, reduceIte, if_true, if_false, List.length_cons, List.length_nil, List.getElem?_cons_zero, List.getElem?_cons_succ, List.set_cons_zero, List.set_cons_succ, List.map_cons, List.map_nil, Bool.false_eq_true, Option.some.injEq, Bool.not_true, Bool.not_false, Nat.reduceAdd, Nat.reduceLT, Nat.reduceLeDiff, z_mpop0, intD_i, hf, e5]
theorem law_fits_loop (g : List Nat) (X : Sl) (hg : g.length ≤ 90000) : ∀ (r : List (List Nat)) (ns : List Nat) (m i : Nat) (t3 t4 t5 : Sl), okM t3 = true → okM t4 = true → okM t5 = true → m ∈ ns → (∀ n ∈ ns, m ≤ n) → m ≤ g.length → (∀ p ∈ r, p.length ≤ 90000) → r ≠ [] →
    ∃ s2 s3 s4 s5, (∃ ns', s2 = .im (.lst (dI ns')) ∧ forL (.tup [3, 4]) b_law_fits_3 (enumD (i + 1) (dlS r)) [X, .im (.str (ml g)), .im (.lst (dI ns)), t3, t4, t5, .no] = some (.nx [X, .im (.str (ml g)), s2, s3, s4, s5, .no]) ∧ (g.length ∈ ns' ↔ FitP g m r)) ∨ (forL (.tup [3, 4]) b_law_fits_3 (enumD (i + 1) (dlS r)) [X, .im (.str (ml g)), .im (.lst (dI ns)), t3, t4, t5, .no] = some (.rt (.bl false) [X, .im (.str (ml g)), s2, s3, s4, s5, .no]) ∧ ¬ FitP g m r)
  | [], ns, m, i, t3, t4, t5, _, _, _, _, _, _, _, hne => absurd rfl hne
  | p :: r, ns, m, i, t3, t4, t5, h3, h4, h5, hm, hl, hml, hp, _ => by
    obtain ⟨u5, hu5, hb⟩ := fits_line g p X ns m i t5 h5 hm hl hg (hp p List.mem_cons_self) hml
    have ht2 : mtg (.tup [3, 4]) (.tup [.int ((i + 1 : Nat) : Int), .str (ml p)]) [X, .im (.str (ml g)), .im (.lst (dI ns)), t3, t4, t5, .no] = some [X, .im (.str (ml g)), .im (.lst (dI ns)), .im (.int ((i + 1 : Nat) : Int)), .im (.str (ml p)), t5, .no] := by simp only [z_sseq, z_sset, z_sret, z_sif, z_snx, z_sbk, z_sct, z_sdrop, z_sasg, z_spar, z_sown, z_sfor, z_mop2, z_mc, z_mvar, z_MM_opt, z_MM_map, z_mcons, z_mnil, z_pnil, z_pcim, z_pcow, z_acim, z_acsl, z_anil, z_mif, z_mandB, z_morB, z_mnotB, z_mandV, z_morV, z_mnotV, z_mmeth, z_fmeth, z_fop2, z_mdr, z_mdrNe, z_mdrLen, z_mdrPop, z_sdr, z_mappend, z_mextend, z_mpopAt, z_mlenO, z_mnilO, z_msl, z_mcall, z_saug, z_mmethL, z_sdraws, z_mtrue, slots_nil, slots_im, slots_sl, argsE, updE, List.nodup_nil, List.nodup_cons, List.not_mem_nil, List.mem_singleton, not_false_eq_true, and_self, and_true, List.nil_append, List.append_nil, List.cons_append, mtg, Zf.setL, setsE, few, blD_b, truD_b, truD_i, truD_l, truD_t, intL_i, intL_b, seqD_l, seqD_t, seqD_s, seqD_c, negD_i, DS.at, DS.put, DS.row, addD_i, subD_i, eqD_i, neD_i, ltD_i, leD_i, gtD_i, geD_i, eqD_s, neD_s, out_l, out_d, okS_s, okW_nil, okW_cons, okM_no, okM_im, okM_mf, okM_mt, okN_no, okN_im, okN_mu, wipeE, List.all_cons, List.all_nil, Bool.and_true, Bool.true_and, Bool.and_self, decide_true, decide_false, reduceIte, if_true, if_false, List.length_cons, List.length_nil, List.getElem?_cons_zero, List.getElem?_cons_succ, List.set_cons_zero, List.set_cons_succ, List.map_cons, List.map_nil, Bool.false_eq_true, Option.some.injEq, Bool.not_true, Bool.not_false, Nat.reduceAdd, Nat.reduceLT, Nat.reduceLeDiff, z_mpop0, intD_i, h3, h4]
    have hen : enumD (i + 1) (dlS (p :: r)) = .tup [.int ((i + 1 : Nat) : Int), .str (ml p)] :: enumD (i + 1 + 1) (dlS r) := rfl
    by_cases q : endsOf g p (List.range' m (g.length + 1 - m)) = []
    · rw [if_pos q] at hb
      refine ⟨.im (.lst []), .im (.int ((i + 1 : Nat) : Int)), .im (.str (ml p)), u5, .inr ⟨by rw [hen]; unfold forL; simp only [ht2, hb], ?_⟩⟩
      intro k
      obtain ⟨b, k1, k2, _⟩ : ∃ b, m ≤ b ∧ AtL p g g.length b ∧ True := by
        by_cases qr : r = []
        · rw [qr] at k
          obtain ⟨b, k1, k2, _⟩ := fit_one.mp k
          exact ⟨b, k1, k2, trivial⟩
        · obtain ⟨b, k1, k2, _⟩ := (fit_cons qr).mp k
          exact ⟨b, k1, k2, trivial⟩
      have : b + p.length ∈ endsOf g p (List.range' m (g.length + 1 - m)) := ends_mem.mpr ⟨b, k1, by have := k2.1; omega, k2.2, rfl⟩
      rw [q] at this
      cases this
    · rw [if_neg q] at hb
      have hstep : forL (.tup [3, 4]) b_law_fits_3 (enumD (i + 1) (dlS (p :: r))) [X, .im (.str (ml g)), .im (.lst (dI ns)), t3, t4, t5, .no] = forL (.tup [3, 4]) b_law_fits_3 (enumD (i + 1 + 1) (dlS r)) [X, .im (.str (ml g)), .im (.lst (dI (endsOf g p (List.range' m (g.length + 1 - m))))), .im (.int ((i + 1 : Nat) : Int)), .im (.str (ml p)), u5, .no] := by
        rw [hen]
        conv => lhs; unfold forL
        simp only [ht2, hb]
      rw [hstep]
      cases r with
      | nil =>
        refine ⟨_, _, _, _, .inl ⟨_, rfl, rfl, ?_⟩⟩
        rw [ends_mem]
        constructor
        · rintro ⟨b, k1, k2, k3, k4⟩
          exact fit_one.mpr ⟨b, k1, take_at k3 (by omega), k4.symm⟩
        · intro k
          obtain ⟨b, k1, k2, k3⟩ := fit_one.mp k
          exact ⟨b, k1, by have := k2.1; omega, k2.2, k3.symm⟩
      | cons p2 r =>
        -- the least end
        have hmin : ∃ m', m' ∈ endsOf g p (List.range' m (g.length + 1 - m)) ∧ ∀ n ∈ endsOf g p (List.range' m (g.length + 1 - m)), m' ≤ n := by
          have : ∀ l : List Nat, l ≠ [] → ∃ m', m' ∈ l ∧ ∀ n ∈ l, m' ≤ n := fun l => by
            induction l with
            | nil => exact fun h => absurd rfl h
            | cons a l ih =>
              intro _
              by_cases ql : l = []
              · exact ⟨a, List.mem_cons_self, fun n hn => by
                  rw [ql] at hn
                  rw [List.mem_singleton.mp hn]; exact Nat.le_refl _⟩
              · obtain ⟨m', h1, h2⟩ := ih ql
                by_cases qa : a ≤ m'
                · exact ⟨a, List.mem_cons_self, fun n hn => by
                    rcases List.mem_cons.mp hn with rfl | hn
                    · exact Nat.le_refl _
                    · exact Nat.le_trans qa (h2 n hn)⟩
                · exact ⟨m', List.mem_cons_of_mem _ h1, fun n hn => by
                    rcases List.mem_cons.mp hn with rfl | hn
                    · omega
                    · exact h2 n hn⟩
          exact this _ q
        obtain ⟨m', hm1, hm2⟩ := hmin
        obtain ⟨b, k1, k2, k3, k4⟩ := ends_mem.mp hm1
        have kA := take_at k3 (by omega)
        obtain ⟨s2, s3, s4, s5, ih⟩ := law_fits_loop g X hg (p2 :: r) _ m' (i + 1) (.im (.int ((i + 1 : Nat) : Int))) (.im (.str (ml p))) u5 rfl rfl hu5 hm1 hm2 (by have := kA.1; omega) (fun z hz => hp z (List.mem_cons_of_mem _ hz)) (by simp)
        have hiff : FitP g m (p :: p2 :: r) ↔ FitP g m' (p2 :: r) := by
          constructor
          · intro k
            obtain ⟨c, c1, c2, c3⟩ := (fit_cons (r := p2 :: r) (by simp)).mp k
            exact fit_mono c3 (hm2 _ (ends_mem.mpr ⟨c, c1, by have := c2.1; omega, c2.2, rfl⟩))
          · intro k
            refine (fit_cons (r := p2 :: r) (by simp)).mpr ⟨b, k1, kA, ?_⟩
            rw [← k4]
            exact k
        refine ⟨s2, s3, s4, s5, ?_⟩
        rw [hiff]
        exact ih
theorem law_fits_ok (g p0 : List Nat) (r : List (List Nat)) (hr : r ≠ []) (hg : g.length ≤ 90000) (hp0 : p0.length ≤ 90000) (hp : ∀ p ∈ r, p.length ≤ 90000) : ∃ b : Bool, (b = true ↔ FitA g (p0 :: r)) ∧ F_law_fits [.im (.lst (dlS (p0 :: r))), .im (.str (ml g))] = some (.bl b, [.im (.lst (dlS (p0 :: r))), .im (.str (ml g))]) := by
  obtain ⟨P, hP⟩ : ∃ P, P = D.lst (dlS (p0 :: r)) := ⟨_, rfl⟩
  have hen : lstD [P] = some (.tup [.int ((0 : Nat) : Int), .str (ml p0)] :: enumD (0 + 1) (dlS r)) := by rw [hP]; rfl
  rw [← hP]
  have hf : few [] = some [] := rfl
  have hf0 : few [.int 0] = some (dI [0]) := rfl
  have ht2 : mtg (.tup [3, 4]) (.tup [.int ((0 : Nat) : Int), .str (ml p0)]) [.im P, .im (.str (ml g)), .im (.lst (dI [0])), .no, .no, .no, .no] = some [.im P, .im (.str (ml g)), .im (.lst (dI [0])), .im (.int ((0 : Nat) : Int)), .im (.str (ml p0)), .no, .no] := by simp only [z_sseq, z_sset, z_sret, z_sif, z_snx, z_sbk, z_sct, z_sdrop, z_sasg, z_spar, z_sown, z_sfor, z_mop2, z_mc, z_mvar, z_MM_opt, z_MM_map, z_mcons, z_mnil, z_pnil, z_pcim, z_pcow, z_acim, z_acsl, z_anil, z_mif, z_mandB, z_morB, z_mnotB, z_mandV, z_morV, z_mnotV, z_mmeth, z_fmeth, z_fop2, z_mdr, z_mdrNe, z_mdrLen, z_mdrPop, z_sdr, z_mappend, z_mextend, z_mpopAt, z_mlenO, z_mnilO, z_msl, z_mcall, z_saug, z_mmethL, z_sdraws, z_mtrue, slots_nil, slots_im, slots_sl, argsE, updE, List.nodup_nil, List.nodup_cons, List.not_mem_nil, List.mem_singleton, not_false_eq_true, and_self, and_true, List.nil_append, List.append_nil, List.cons_append, mtg, Zf.setL, setsE, few, blD_b, truD_b, truD_i, truD_l, truD_t, intL_i, intL_b, seqD_l, seqD_t, seqD_s, seqD_c, negD_i, DS.at, DS.put, DS.row, addD_i, subD_i, eqD_i, neD_i, ltD_i, leD_i, gtD_i, geD_i, eqD_s, neD_s, out_l, out_d, okS_s, okW_nil, okW_cons, okM_no, okM_im, okM_mf, okM_mt, okN_no, okN_im, okN_mu, wipeE, List.all_cons, List.all_nil, Bool.and_true, Bool.true_and, Bool.and_self, decide_true, decide_false, reduceIte, if_true, if_false, List.length_cons, List.length_nil, List.getElem?_cons_zero, List.getElem?_cons_succ, List.set_cons_zero, List.set_cons_succ, List.map_cons, List.map_nil, Bool.false_eq_true, Option.some.injEq, Bool.not_true, Bool.not_false, Nat.reduceAdd, Nat.reduceLT, Nat.reduceLeDiff, z_mpop0, intD_i]
  have e1 : decide ((0 : Int) < ((0 : Nat) : Int)) = false := by decide
  have e4 := ends_comp g p0 (.im P) (.im (.int ((0 : Nat) : Int))) (.lst (dI [0])) [0] hg hp0 (fun b hb => by rw [List.mem_singleton.mp hb]; omega) (by simp)
  have e5 := eq_nil_dI (endsOf g p0 [0])
  have hE : endsOf g p0 [0] = if g.take p0.length = p0 then [p0.length] else [] := by
    unfold endsOf
    by_cases q : g.take p0.length = p0
    · rw [if_pos q, List.filter_cons_of_pos (by rw [List.drop_zero]; exact decide_eq_true q)]
      simp
    · rw [if_neg q, List.filter_cons_of_neg (by rw [List.drop_zero, decide_eq_false q]; decide)]
      rfl
  have l0 := lenL_ml (l := g) (by omega)
  by_cases q : g.take p0.length = p0
  · rw [if_pos q] at hE
    rw [hE] at e4 e5
    rw [decide_eq_false (by simp)] at e5
    have hb : b_law_fits_3 [.im P, .im (.str (ml g)), .im (.lst (dI [0])), .im (.int ((0 : Nat) : Int)), .im (.str (ml p0)), .no, .no] = some (.nx [.im P, .im (.str (ml g)), .im (.lst (dI [p0.length])), .im (.int ((0 : Nat) : Int)), .im (.str (ml p0)), .im (.lst (dI [0])), .no]) := by
      unfold b_law_fits_3
      refine sseq_nx (e1 := [.im P, .im (.str (ml g)), .im (.lst (dI [0])), .im (.int ((0 : Nat) : Int)), .im (.str (ml p0)), .im (.lst (dI [0])), .no]) (by simp only [z_sseq, z_sset, z_sret, z_sif, z_snx, z_sbk, z_sct, z_sdrop, z_sasg, z_spar, z_sown, z_sfor, z_mop2, z_mc, z_mvar, z_MM_opt, z_MM_map, z_mcons, z_mnil, z_pnil, z_pcim, z_pcow, z_acim, z_acsl, z_anil, z_mif, z_mandB, z_morB, z_mnotB, z_mandV, z_morV, z_mnotV, z_mmeth, z_fmeth, z_fop2, z_mdr, z_mdrNe, z_mdrLen, z_mdrPop, z_sdr, z_mappend, z_mextend, z_mpopAt, z_mlenO, z_mnilO, z_msl, z_mcall, z_saug, z_mmethL, z_sdraws, z_mtrue, slots_nil, slots_im, slots_sl, argsE, updE, List.nodup_nil, List.nodup_cons, List.not_mem_nil, List.mem_singleton, not_false_eq_true, and_self, and_true, List.nil_append, List.append_nil, List.cons_append, mtg, Zf.setL, setsE, few, blD_b, truD_b, truD_i, truD_l, truD_t, intL_i, intL_b, seqD_l, seqD_t, seqD_s, seqD_c, negD_i, DS.at, DS.put, DS.row, addD_i, subD_i, eqD_i, neD_i, ltD_i, leD_i, gtD_i, geD_i, eqD_s, neD_s, out_l, out_d, okS_s, okW_nil, okW_cons, okM_no, okM_im, okM_mf, okM_mt, okN_no, okN_im, okN_mu, wipeE, List.all_cons, List.all_nil, Bool.and_true, Bool.true_and, Bool.and_self, decide_true, decide_false, reduceIte, if_true, if_false, List.length_cons, List.length_nil, List.getElem?_cons_zero, List.getElem?_cons_succ, List.set_cons_zero, List.set_cons_succ, List.map_cons, List.map_nil, Bool.false_eq_true, Option.some.injEq, Bool.not_true, Bool.not_false, Nat.reduceAdd, Nat.reduceLT, Nat.reduceLeDiff, z_mpop0, intD_i, e1]) ?_
      refine sseq_nx (e1 := [.im P, .im (.str (ml g)), .im (.lst (dI [p0.length])), .im (.int ((0 : Nat) : Int)), .im (.str (ml p0)), .im (.lst (dI [0])), .no]) (by simp only [z_sseq, z_sset, z_sret, z_sif, z_snx, z_sbk, z_sct, z_sdrop, z_sasg, z_spar, z_sown, z_sfor, z_mop2, z_mc, z_mvar, z_MM_opt, z_MM_map, z_mcons, z_mnil, z_pnil, z_pcim, z_pcow, z_acim, z_acsl, z_anil, z_mif, z_mandB, z_morB, z_mnotB, z_mandV, z_morV, z_mnotV, z_mmeth, z_fmeth, z_fop2, z_mdr, z_mdrNe, z_mdrLen, z_mdrPop, z_sdr, z_mappend, z_mextend, z_mpopAt, z_mlenO, z_mnilO, z_msl, z_mcall, z_saug, z_mmethL, z_sdraws, z_mtrue, slots_nil, slots_im, slots_sl, argsE, updE, List.nodup_nil, List.nodup_cons, List.not_mem_nil, List.mem_singleton, not_false_eq_true, and_self, and_true, List.nil_append, List.append_nil, List.cons_append, mtg, Zf.setL, setsE, few, blD_b, truD_b, truD_i, truD_l, truD_t, intL_i, intL_b, seqD_l, seqD_t, seqD_s, seqD_c, negD_i, DS.at, DS.put, DS.row, addD_i, subD_i, eqD_i, neD_i, ltD_i, leD_i, gtD_i, geD_i, eqD_s, neD_s, out_l, out_d, okS_s, okW_nil, okW_cons, okM_no, okM_im, okM_mf, okM_mt, okN_no, okN_im, okN_mu, wipeE, List.all_cons, List.all_nil, Bool.and_true, Bool.true_and, Bool.and_self, decide_true, decide_false, reduceIte, if_true, if_false, List.length_cons, List.length_nil, List.getElem?_cons_zero, List.getElem?_cons_succ, List.set_cons_zero, List.set_cons_succ, List.map_cons, List.map_nil, Bool.false_eq_true, Option.some.injEq, Bool.not_true, Bool.not_false, Nat.reduceAdd, Nat.reduceLT, Nat.reduceLeDiff, z_mpop0, intD_i, e4]) ?_
      simp only [z_sseq, z_sset, z_sret, z_sif, z_snx, z_sbk, z_sct, z_sdrop, z_sasg, z_spar, z_sown, z_sfor, z_mop2, z_mc, z_mvar, z_MM_opt, z_MM_map, z_mcons, z_mnil, z_pnil, z_pcim, z_pcow, z_acim, z_acsl, z_anil, z_mif, z_mandB, z_morB, z_mnotB, z_mandV, z_morV, z_mnotV, z_mmeth, z_fmeth, z_fop2, z_mdr, z_mdrNe, z_mdrLen, z_mdrPop, z_sdr, z_mappend, z_mextend, z_mpopAt, z_mlenO, z_mnilO, z_msl, z_mcall, z_saug, z_mmethL, z_sdraws, z_mtrue, slots_nil, slots_im, slots_sl, argsE, updE, List.nodup_nil, List.nodup_cons, List.not_mem_nil, List.mem_singleton, not_false_eq_true, and_self, and_true, List.nil_append, List.append_nil, List.cons_append, mtg, Zf.setL, setsE, few, blD_b, truD_b, truD_i, truD_l, truD_t, intL_i, intL_b, seqD_l, seqD_t, seqD_s, seqD_c, negD_i, DS.at, DS.put, DS.row, addD_i, subD_i, eqD_i, neD_i, ltD_i, leD_i, gtD_i, geD_i, eqD_s, neD_s, out_l, out_d, okS_s, okW_nil, okW_cons, okM_no, okM_im, okM_mf, okM_mt, okN_no, okN_im, okN_mu, wipeE, List.all_cons, List.all_nil, Bool.and_true, Bool.true_and, Bool.and_self, decide_true, decide_false, reduceIte, if_true, if_false, List.length_cons, List.length_nil, List.getElem?_cons_zero, List.getElem?_cons_succ, List.set_cons_zero, List.set_cons_succ, List.map_cons, List.map_nil, Bool.false_eq_true, Option.some.injEq, Bool.not_true, Bool.not_false, Nat.reduceAdd, Nat.reduceLT, Nat.reduceLeDiff, z_mpop0, intD_i, hf, e5]
    have hlen : p0.length ≤ g.length := by
      have := congrArg List.length q
      rw [List.length_take] at this
      omega
    obtain ⟨s2, s3, s4, s5, h⟩ := law_fits_loop g (.im P) hg r [p0.length] p0.length 0 (.im (.int ((0 : Nat) : Int))) (.im (.str (ml p0))) (.im (.lst (dI [0]))) rfl rfl rfl (List.mem_singleton.mpr rfl) (fun n hn => by rw [List.mem_singleton.mp hn]; exact Nat.le_refl _) hlen hp hr
    have hstep : forL (.tup [3, 4]) b_law_fits_3 (.tup [.int ((0 : Nat) : Int), .str (ml p0)] :: enumD (0 + 1) (dlS r)) [.im P, .im (.str (ml g)), .im (.lst (dI [0])), .no, .no, .no, .no] = forL (.tup [3, 4]) b_law_fits_3 (enumD (0 + 1) (dlS r)) [.im P, .im (.str (ml g)), .im (.lst (dI [p0.length])), .im (.int ((0 : Nat) : Int)), .im (.str (ml p0)), .im (.lst (dI [0])), .no] := by
      conv => lhs; unfold forL
      simp only [ht2, hb]
    rcases h with ⟨ns', rfl, h, hmem⟩ | ⟨h, hn⟩
    · have e6 : inD (.int (g.length : Int)) (.lst (dI ns')) = some (.bl (decide (g.length ∈ ns'))) := by
        unfold inD
        have : inB (.int (g.length : Int)) (.lst (dI ns')) = some (decide (g.length ∈ ns')) := by
          rw [inB_dI]
        rw [this]
      refine ⟨decide (g.length ∈ ns'), ?_, ?_⟩
      · rw [decide_eq_true_eq, hmem]
        exact ⟨fun k => ⟨q, k⟩, fun k => k.2⟩
      · have body : m_law_fits [.im P, .im (.str (ml g)), .no, .no, .no, .no, .no] = some (.rt (.bl (decide (g.length ∈ ns'))) [.im P, .im (.str (ml g)), .im (.lst (dI ns')), s3, s4, s5, .no]) := by
          unfold m_law_fits
          refine sseq_nx (e1 := [.im P, .im (.str (ml g)), .im (.lst (dI [0])), .no, .no, .no, .no]) (by simp only [z_sseq, z_sset, z_sret, z_sif, z_snx, z_sbk, z_sct, z_sdrop, z_sasg, z_spar, z_sown, z_sfor, z_mop2, z_mc, z_mvar, z_MM_opt, z_MM_map, z_mcons, z_mnil, z_pnil, z_pcim, z_pcow, z_acim, z_acsl, z_anil, z_mif, z_mandB, z_morB, z_mnotB, z_mandV, z_morV, z_mnotV, z_mmeth, z_fmeth, z_fop2, z_mdr, z_mdrNe, z_mdrLen, z_mdrPop, z_sdr, z_mappend, z_mextend, z_mpopAt, z_mlenO, z_mnilO, z_msl, z_mcall, z_saug, z_mmethL, z_sdraws, z_mtrue, slots_nil, slots_im, slots_sl, argsE, updE, List.nodup_nil, List.nodup_cons, List.not_mem_nil, List.mem_singleton, not_false_eq_true, and_self, and_true, List.nil_append, List.append_nil, List.cons_append, mtg, Zf.setL, setsE, few, blD_b, truD_b, truD_i, truD_l, truD_t, intL_i, intL_b, seqD_l, seqD_t, seqD_s, seqD_c, negD_i, DS.at, DS.put, DS.row, addD_i, subD_i, eqD_i, neD_i, ltD_i, leD_i, gtD_i, geD_i, eqD_s, neD_s, out_l, out_d, okS_s, okW_nil, okW_cons, okM_no, okM_im, okM_mf, okM_mt, okN_no, okN_im, okN_mu, wipeE, List.all_cons, List.all_nil, Bool.and_true, Bool.true_and, Bool.and_self, decide_true, decide_false, reduceIte, if_true, if_false, List.length_cons, List.length_nil, List.getElem?_cons_zero, List.getElem?_cons_succ, List.set_cons_zero, List.set_cons_succ, List.map_cons, List.map_nil, Bool.false_eq_true, Option.some.injEq, Bool.not_true, Bool.not_false, Nat.reduceAdd, Nat.reduceLT, Nat.reduceLeDiff, z_mpop0, intD_i, hf0] <;> rfl) ?_
          refine sseq_nx (e1 := [.im P, .im (.str (ml g)), .im (.lst (dI ns')), s3, s4, s5, .no]) (by simp only [z_sseq, z_sset, z_sret, z_sif, z_snx, z_sbk, z_sct, z_sdrop, z_sasg, z_spar, z_sown, z_sfor, z_mop2, z_mc, z_mvar, z_MM_opt, z_MM_map, z_mcons, z_mnil, z_pnil, z_pcim, z_pcow, z_acim, z_acsl, z_anil, z_mif, z_mandB, z_morB, z_mnotB, z_mandV, z_morV, z_mnotV, z_mmeth, z_fmeth, z_fop2, z_mdr, z_mdrNe, z_mdrLen, z_mdrPop, z_sdr, z_mappend, z_mextend, z_mpopAt, z_mlenO, z_mnilO, z_msl, z_mcall, z_saug, z_mmethL, z_sdraws, z_mtrue, slots_nil, slots_im, slots_sl, argsE, updE, List.nodup_nil, List.nodup_cons, List.not_mem_nil, List.mem_singleton, not_false_eq_true, and_self, and_true, List.nil_append, List.append_nil, List.cons_append, mtg, Zf.setL, setsE, few, blD_b, truD_b, truD_i, truD_l, truD_t, intL_i, intL_b, seqD_l, seqD_t, seqD_s, seqD_c, negD_i, DS.at, DS.put, DS.row, addD_i, subD_i, eqD_i, neD_i, ltD_i, leD_i, gtD_i, geD_i, eqD_s, neD_s, out_l, out_d, okS_s, okW_nil, okW_cons, okM_no, okM_im, okM_mf, okM_mt, okN_no, okN_im, okN_mu, wipeE, List.all_cons, List.all_nil, Bool.and_true, Bool.true_and, Bool.and_self, decide_true, decide_false, reduceIte, if_true, if_false, List.length_cons, List.length_nil, List.getElem?_cons_zero, List.getElem?_cons_succ, List.set_cons_zero, List.set_cons_succ, List.map_cons, List.map_nil, Bool.false_eq_true, Option.some.injEq, Bool.not_true, Bool.not_false, Nat.reduceAdd, Nat.reduceLT, Nat.reduceLeDiff, z_mpop0, intD_i, hen]; exact hstep.trans h) ?_
          simp only [z_sseq, z_sset, z_sret, z_sif, z_snx, z_sbk, z_sct, z_sdrop, z_sasg, z_spar, z_sown, z_sfor, z_mop2, z_mc, z_mvar, z_MM_opt, z_MM_map, z_mcons, z_mnil, z_pnil, z_pcim, z_pcow, z_acim, z_acsl, z_anil, z_mif, z_mandB, z_morB, z_mnotB, z_mandV, z_morV, z_mnotV, z_mmeth, z_fmeth, z_fop2, z_mdr, z_mdrNe, z_mdrLen, z_mdrPop, z_sdr, z_mappend, z_mextend, z_mpopAt, z_mlenO, z_mnilO, z_msl, z_mcall, z_saug, z_mmethL, z_sdraws, z_mtrue, slots_nil, slots_im, slots_sl, argsE, updE, List.nodup_nil, List.nodup_cons, List.not_mem_nil, List.mem_singleton, not_false_eq_true, and_self, and_true, List.nil_append, List.append_nil, List.cons_append, mtg, Zf.setL, setsE, few, blD_b, truD_b, truD_i, truD_l, truD_t, intL_i, intL_b, seqD_l, seqD_t, seqD_s, seqD_c, negD_i, DS.at, DS.put, DS.row, addD_i, subD_i, eqD_i, neD_i, ltD_i, leD_i, gtD_i, geD_i, eqD_s, neD_s, out_l, out_d, okS_s, okW_nil, okW_cons, okM_no, okM_im, okM_mf, okM_mt, okN_no, okN_im, okN_mu, wipeE, List.all_cons, List.all_nil, Bool.and_true, Bool.true_and, Bool.and_self, decide_true, decide_false, reduceIte, if_true, if_false, List.length_cons, List.length_nil, List.getElem?_cons_zero, List.getElem?_cons_succ, List.set_cons_zero, List.set_cons_succ, List.map_cons, List.map_nil, Bool.false_eq_true, Option.some.injEq, Bool.not_true, Bool.not_false, Nat.reduceAdd, Nat.reduceLT, Nat.reduceLeDiff, z_mpop0, intD_i, l0, e6]
        exact fnM_rt (n := 7) (args := [.im P, .im (.str (ml g))]) (m := m_law_fits) body
    · refine ⟨false, ⟨fun h => (by cases h), fun h => absurd h.2 hn⟩, ?_⟩
      have body : m_law_fits [.im P, .im (.str (ml g)), .no, .no, .no, .no, .no] = some (.rt (.bl false) [.im P, .im (.str (ml g)), s2, s3, s4, s5, .no]) := by
        unfold m_law_fits
        refine sseq_nx (e1 := [.im P, .im (.str (ml g)), .im (.lst (dI [0])), .no, .no, .no, .no]) (by simp only [z_sseq, z_sset, z_sret, z_sif, z_snx, z_sbk, z_sct, z_sdrop, z_sasg, z_spar, z_sown, z_sfor, z_mop2, z_mc, z_mvar, z_MM_opt, z_MM_map, z_mcons, z_mnil, z_pnil, z_pcim, z_pcow, z_acim, z_acsl, z_anil, z_mif, z_mandB, z_morB, z_mnotB, z_mandV, z_morV, z_mnotV, z_mmeth, z_fmeth, z_fop2, z_mdr, z_mdrNe, z_mdrLen, z_mdrPop, z_sdr, z_mappend, z_mextend, z_mpopAt, z_mlenO, z_mnilO, z_msl, z_mcall, z_saug, z_mmethL, z_sdraws, z_mtrue, slots_nil, slots_im, slots_sl, argsE, updE, List.nodup_nil, List.nodup_cons, List.not_mem_nil, List.mem_singleton, not_false_eq_true, and_self, and_true, List.nil_append, List.append_nil, List.cons_append, mtg, Zf.setL, setsE, few, blD_b, truD_b, truD_i, truD_l, truD_t, intL_i, intL_b, seqD_l, seqD_t, seqD_s, seqD_c, negD_i, DS.at, DS.put, DS.row, addD_i, subD_i, eqD_i, neD_i, ltD_i, leD_i, gtD_i, geD_i, eqD_s, neD_s, out_l, out_d, okS_s, okW_nil, okW_cons, okM_no, okM_im, okM_mf, okM_mt, okN_no, okN_im, okN_mu, wipeE, List.all_cons, List.all_nil, Bool.and_true, Bool.true_and, Bool.and_self, decide_true, decide_false, reduceIte, if_true, if_false, List.length_cons, List.length_nil, List.getElem?_cons_zero, List.getElem?_cons_succ, List.set_cons_zero, List.set_cons_succ, List.map_cons, List.map_nil, Bool.false_eq_true, Option.some.injEq, Bool.not_true, Bool.not_false, Nat.reduceAdd, Nat.reduceLT, Nat.reduceLeDiff, z_mpop0, intD_i, hf0] <;> rfl) ?_
        have : sfor (.tup [3, 4]) (MM.opt (mcons (mvar 0) (mnil)) lstD) b_law_fits_3 [.im P, .im (.str (ml g)), .im (.lst (dI [0])), .no, .no, .no, .no] = some (.rt (.bl false) [.im P, .im (.str (ml g)), s2, s3, s4, s5, .no]) := by
          simp only [z_sseq, z_sset, z_sret, z_sif, z_snx, z_sbk, z_sct, z_sdrop, z_sasg, z_spar, z_sown, z_sfor, z_mop2, z_mc, z_mvar, z_MM_opt, z_MM_map, z_mcons, z_mnil, z_pnil, z_pcim, z_pcow, z_acim, z_acsl, z_anil, z_mif, z_mandB, z_morB, z_mnotB, z_mandV, z_morV, z_mnotV, z_mmeth, z_fmeth, z_fop2, z_mdr, z_mdrNe, z_mdrLen, z_mdrPop, z_sdr, z_mappend, z_mextend, z_mpopAt, z_mlenO, z_mnilO, z_msl, z_mcall, z_saug, z_mmethL, z_sdraws, z_mtrue, slots_nil, slots_im, slots_sl, argsE, updE, List.nodup_nil, List.nodup_cons, List.not_mem_nil, List.mem_singleton, not_false_eq_true, and_self, and_true, List.nil_append, List.append_nil, List.cons_append, mtg, Zf.setL, setsE, few, blD_b, truD_b, truD_i, truD_l, truD_t, intL_i, intL_b, seqD_l, seqD_t, seqD_s, seqD_c, negD_i, DS.at, DS.put, DS.row, addD_i, subD_i, eqD_i, neD_i, ltD_i, leD_i, gtD_i, geD_i, eqD_s, neD_s, out_l, out_d, okS_s, okW_nil, okW_cons, okM_no, okM_im, okM_mf, okM_mt, okN_no, okN_im, okN_mu, wipeE, List.all_cons, List.all_nil, Bool.and_true, Bool.true_and, Bool.and_self, decide_true, decide_false, reduceIte, if_true, if_false, List.length_cons, List.length_nil, List.getElem?_cons_zero, List.getElem?_cons_succ, List.set_cons_zero, List.set_cons_succ, List.map_cons, List.map_nil, Bool.false_eq_true, Option.some.injEq, Bool.not_true, Bool.not_false, Nat.reduceAdd, Nat.reduceLT, Nat.reduceLeDiff, z_mpop0, intD_i, hen]
          exact hstep.trans h
        unfold sseq
        rw [this]
      exact fnM_rt (n := 7) (args := [.im P, .im (.str (ml g))]) (m := m_law_fits) body
  · rw [if_neg q] at hE
    rw [hE] at e4 e5
    rw [decide_eq_true rfl] at e5
    have hb : b_law_fits_3 [.im P, .im (.str (ml g)), .im (.lst (dI [0])), .im (.int ((0 : Nat) : Int)), .im (.str (ml p0)), .no, .no] = some (.rt (.bl false) [.im P, .im (.str (ml g)), .im (.lst (dI [])), .im (.int ((0 : Nat) : Int)), .im (.str (ml p0)), .im (.lst (dI [0])), .no]) := by
      unfold b_law_fits_3
      refine sseq_nx (e1 := [.im P, .im (.str (ml g)), .im (.lst (dI [0])), .im (.int ((0 : Nat) : Int)), .im (.str (ml p0)), .im (.lst (dI [0])), .no]) (by simp only [z_sseq, z_sset, z_sret, z_sif, z_snx, z_sbk, z_sct, z_sdrop, z_sasg, z_spar, z_sown, z_sfor, z_mop2, z_mc, z_mvar, z_MM_opt, z_MM_map, z_mcons, z_mnil, z_pnil, z_pcim, z_pcow, z_acim, z_acsl, z_anil, z_mif, z_mandB, z_morB, z_mnotB, z_mandV, z_morV, z_mnotV, z_mmeth, z_fmeth, z_fop2, z_mdr, z_mdrNe, z_mdrLen, z_mdrPop, z_sdr, z_mappend, z_mextend, z_mpopAt, z_mlenO, z_mnilO, z_msl, z_mcall, z_saug, z_mmethL, z_sdraws, z_mtrue, slots_nil, slots_im, slots_sl, argsE, updE, List.nodup_nil, List.nodup_cons, List.not_mem_nil, List.mem_singleton, not_false_eq_true, and_self, and_true, List.nil_append, List.append_nil, List.cons_append, mtg, Zf.setL, setsE, few, blD_b, truD_b, truD_i, truD_l, truD_t, intL_i, intL_b, seqD_l, seqD_t, seqD_s, seqD_c, negD_i, DS.at, DS.put, DS.row, addD_i, subD_i, eqD_i, neD_i, ltD_i, leD_i, gtD_i, geD_i, eqD_s, neD_s, out_l, out_d, okS_s, okW_nil, okW_cons, okM_no, okM_im, okM_mf, okM_mt, okN_no, okN_im, okN_mu, wipeE, List.all_cons, List.all_nil, Bool.and_true, Bool.true_and, Bool.and_self, decide_true, decide_false, reduceIte, if_true, if_false, List.length_cons, List.length_nil, List.getElem?_cons_zero, List.getElem?_cons_succ, List.set_cons_zero, List.set_cons_succ, List.map_cons, List.map_nil, Bool.false_eq_true, Option.some.injEq, Bool.not_true, Bool.not_false, Nat.reduceAdd, Nat.reduceLT, Nat.reduceLeDiff, z_mpop0, intD_i, e1]) ?_
      refine sseq_nx (e1 := [.im P, .im (.str (ml g)), .im (.lst (dI [])), .im (.int ((0 : Nat) : Int)), .im (.str (ml p0)), .im (.lst (dI [0])), .no]) (by simp only [z_sseq, z_sset, z_sret, z_sif, z_snx, z_sbk, z_sct, z_sdrop, z_sasg, z_spar, z_sown, z_sfor, z_mop2, z_mc, z_mvar, z_MM_opt, z_MM_map, z_mcons, z_mnil, z_pnil, z_pcim, z_pcow, z_acim, z_acsl, z_anil, z_mif, z_mandB, z_morB, z_mnotB, z_mandV, z_morV, z_mnotV, z_mmeth, z_fmeth, z_fop2, z_mdr, z_mdrNe, z_mdrLen, z_mdrPop, z_sdr, z_mappend, z_mextend, z_mpopAt, z_mlenO, z_mnilO, z_msl, z_mcall, z_saug, z_mmethL, z_sdraws, z_mtrue, slots_nil, slots_im, slots_sl, argsE, updE, List.nodup_nil, List.nodup_cons, List.not_mem_nil, List.mem_singleton, not_false_eq_true, and_self, and_true, List.nil_append, List.append_nil, List.cons_append, mtg, Zf.setL, setsE, few, blD_b, truD_b, truD_i, truD_l, truD_t, intL_i, intL_b, seqD_l, seqD_t, seqD_s, seqD_c, negD_i, DS.at, DS.put, DS.row, addD_i, subD_i, eqD_i, neD_i, ltD_i, leD_i, gtD_i, geD_i, eqD_s, neD_s, out_l, out_d, okS_s, okW_nil, okW_cons, okM_no, okM_im, okM_mf, okM_mt, okN_no, okN_im, okN_mu, wipeE, List.all_cons, List.all_nil, Bool.and_true, Bool.true_and, Bool.and_self, decide_true, decide_false, reduceIte, if_true, if_false, List.length_cons, List.length_nil, List.getElem?_cons_zero, List.getElem?_cons_succ, List.set_cons_zero, List.set_cons_succ, List.map_cons, List.map_nil, Bool.false_eq_true, Option.some.injEq, Bool.not_true, Bool.not_false, Nat.reduceAdd, Nat.reduceLT, Nat.reduceLeDiff, z_mpop0, intD_i, e4]) ?_
      simp only [z_sseq, z_sset, z_sret, z_sif, z_snx, z_sbk, z_sct, z_sdrop, z_sasg, z_spar, z_sown, z_sfor, z_mop2, z_mc, z_mvar, z_MM_opt, z_MM_map, z_mcons, z_mnil, z_pnil, z_pcim, z_pcow, z_acim, z_acsl, z_anil, z_mif, z_mandB, z_morB, z_mnotB, z_mandV, z_morV, z_mnotV, z_mmeth, z_fmeth, z_fop2, z_mdr, z_mdrNe, z_mdrLen, z_mdrPop, z_sdr, z_mappend, z_mextend, z_mpopAt, z_mlenO, z_mnilO, z_msl, z_mcall, z_saug, z_mmethL, z_sdraws, z_mtrue, slots_nil, slots_im, slots_sl, argsE, updE, List.nodup_nil, List.nodup_cons, List.not_mem_nil, List.mem_singleton, not_false_eq_true, and_self, and_true, List.nil_append, List.append_nil, List.cons_append, mtg, Zf.setL, setsE, few, blD_b, truD_b, truD_i, truD_l, truD_t, intL_i, intL_b, seqD_l, seqD_t, seqD_s, seqD_c, negD_i, DS.at, DS.put, DS.row, addD_i, subD_i, eqD_i, neD_i, ltD_i, leD_i, gtD_i, geD_i, eqD_s, neD_s, out_l, out_d, okS_s, okW_nil, okW_cons, okM_no, okM_im, okM_mf, okM_mt, okN_no, okN_im, okN_mu, wipeE, List.all_cons, List.all_nil, Bool.and_true, Bool.true_and, Bool.and_self, decide_true, decide_false, reduceIte, if_true, if_false, List.length_cons, List.length_nil, List.getElem?_cons_zero, List.getElem?_cons_succ, List.set_cons_zero, List.set_cons_succ, List.map_cons, List.map_nil, Bool.false_eq_true, Option.some.injEq, Bool.not_true, Bool.not_false, Nat.reduceAdd, Nat.reduceLT, Nat.reduceLeDiff, z_mpop0, intD_i, hf, e5]
    refine ⟨false, ⟨fun h => (by cases h), fun h => absurd h.1 q⟩, ?_⟩
    have body : m_law_fits [.im P, .im (.str (ml g)), .no, .no, .no, .no, .no] = some (.rt (.bl false) [.im P, .im (.str (ml g)), .im (.lst (dI [])), .im (.int ((0 : Nat) : Int)), .im (.str (ml p0)), .im (.lst (dI [0])), .no]) := by
      unfold m_law_fits
      refine sseq_nx (e1 := [.im P, .im (.str (ml g)), .im (.lst (dI [0])), .no, .no, .no, .no]) (by simp only [z_sseq, z_sset, z_sret, z_sif, z_snx, z_sbk, z_sct, z_sdrop, z_sasg, z_spar, z_sown, z_sfor, z_mop2, z_mc, z_mvar, z_MM_opt, z_MM_map, z_mcons, z_mnil, z_pnil, z_pcim, z_pcow, z_acim, z_acsl, z_anil, z_mif, z_mandB, z_morB, z_mnotB, z_mandV, z_morV, z_mnotV, z_mmeth, z_fmeth, z_fop2, z_mdr, z_mdrNe, z_mdrLen, z_mdrPop, z_sdr, z_mappend, z_mextend, z_mpopAt, z_mlenO, z_mnilO, z_msl, z_mcall, z_saug, z_mmethL, z_sdraws, z_mtrue, slots_nil, slots_im, slots_sl, argsE, updE, List.nodup_nil, List.nodup_cons, List.not_mem_nil, List.mem_singleton, not_false_eq_true, and_self, and_true, List.nil_append, List.append_nil, List.cons_append, mtg, Zf.setL, setsE, few, blD_b, truD_b, truD_i, truD_l, truD_t, intL_i, intL_b, seqD_l, seqD_t, seqD_s, seqD_c, negD_i, DS.at, DS.put, DS.row, addD_i, subD_i, eqD_i, neD_i, ltD_i, leD_i, gtD_i, geD_i, eqD_s, neD_s, out_l, out_d, okS_s, okW_nil, okW_cons, okM_no, okM_im, okM_mf, okM_mt, okN_no, okN_im, okN_mu, wipeE, List.all_cons, List.all_nil, Bool.and_true, Bool.true_and, Bool.and_self, decide_true, decide_false, reduceIte, if_true, if_false, List.length_cons, List.length_nil, List.getElem?_cons_zero, List.getElem?_cons_succ, List.set_cons_zero, List.set_cons_succ, List.map_cons, List.map_nil, Bool.false_eq_true, Option.some.injEq, Bool.not_true, Bool.not_false, Nat.reduceAdd, Nat.reduceLT, Nat.reduceLeDiff, z_mpop0, intD_i, hf0] <;> rfl) ?_
      have : sfor (.tup [3, 4]) (MM.opt (mcons (mvar 0) (mnil)) lstD) b_law_fits_3 [.im P, .im (.str (ml g)), .im (.lst (dI [0])), .no, .no, .no, .no] = some (.rt (.bl false) [.im P, .im (.str (ml g)), .im (.lst (dI [])), .im (.int ((0 : Nat) : Int)), .im (.str (ml p0)), .im (.lst (dI [0])), .no]) := by
        simp only [z_sseq, z_sset, z_sret, z_sif, z_snx, z_sbk, z_sct, z_sdrop, z_sasg, z_spar, z_sown, z_sfor, z_mop2, z_mc, z_mvar, z_MM_opt, z_MM_map, z_mcons, z_mnil, z_pnil, z_pcim, z_pcow, z_acim, z_acsl, z_anil, z_mif, z_mandB, z_morB, z_mnotB, z_mandV, z_morV, z_mnotV, z_mmeth, z_fmeth, z_fop2, z_mdr, z_mdrNe, z_mdrLen, z_mdrPop, z_sdr, z_mappend, z_mextend, z_mpopAt, z_mlenO, z_mnilO, z_msl, z_mcall, z_saug, z_mmethL, z_sdraws, z_mtrue, slots_nil, slots_im, slots_sl, argsE, updE, List.nodup_nil, List.nodup_cons, List.not_mem_nil, List.mem_singleton, not_false_eq_true, and_self, and_true, List.nil_append, List.append_nil, List.cons_append, mtg, Zf.setL, setsE, few, blD_b, truD_b, truD_i, truD_l, truD_t, intL_i, intL_b, seqD_l, seqD_t, seqD_s, seqD_c, negD_i, DS.at, DS.put, DS.row, addD_i, subD_i, eqD_i, neD_i, ltD_i, leD_i, gtD_i, geD_i, eqD_s, neD_s, out_l, out_d, okS_s, okW_nil, okW_cons, okM_no, okM_im, okM_mf, okM_mt, okN_no, okN_im, okN_mu, wipeE, List.all_cons, List.all_nil, Bool.and_true, Bool.true_and, Bool.and_self, decide_true, decide_false, reduceIte, if_true, if_false, List.length_cons, List.length_nil, List.getElem?_cons_zero, List.getElem?_cons_succ, List.set_cons_zero, List.set_cons_succ, List.map_cons, List.map_nil, Bool.false_eq_true, Option.some.injEq, Bool.not_true, Bool.not_false, Nat.reduceAdd, Nat.reduceLT, Nat.reduceLeDiff, z_mpop0, intD_i, hen]
        unfold forL
        simp only [ht2, hb]
      unfold sseq
      rw [this]
    exact fnM_rt (n := 7) (args := [.im P, .im (.str (ml g))]) (m := m_law_fits) body
end Zz

set_option Elab.async false
set_option linter.all false
set_option maxRecDepth 100000
set_option maxHeartbeats 1000000
/-! check, and the law's lets: one truth -/
namespace Zz
open PySem PySem.Spec L2 Zf
def fT : Str := "DONT_ACCEPT_TRUE_FOR_1"
def fB_ : Str := "DONT_ACCEPT_BLANKLINE"
def fN : Str := "NORMALIZE_WHITESPACE"
def fE : Str := "ELLIPSIS"
def L1 : List Nat := [49, 10]
def L0 : List Nat := [48, 10]
def LT1 : List Nat := [84, 114, 117, 101, 10]
def LF0 : List Nat := [70, 97, 108, 115, 101, 10]
theorem L1_ml : ("1\n" : Str) = ml L1 := by decide
theorem L0_ml : ("0\n" : Str) = ml L0 := by decide
theorem LT1_ml : ("True\n" : Str) = ml LT1 := by decide
theorem LF0_ml : ("False\n" : Str) = ml LF0 := by decide
def tp (w g : List Nat) : Bool := (decide (w = L1) && decide (g = LT1)) || (decide (w = L0) && decide (g = LF0))
def wA (fs : List Str) (w : List Nat) : List Nat := if fB_ ∈ fs then w else cld clw w
def gA (fs : List Str) (g : List Nat) : List Nat := if fB_ ∈ fs then g else cld clg g
def nA (fs : List Str) (w : List Nat) : List Nat := if fN ∈ fs then wj w else w
def pA (fs : List Str) (w : List Nat) : List (List Nat) := if fE ∈ fs then pcs w else [w]
/-- what the last stages say of cleared and joined texts -/
def endP (fs : List Str) (w g : List Nat) : Prop := w = g ∨ (1 < (pA fs w).length ∧ FitA g (pA fs w))
def letsP (fs : List Str) (w g : List Nat) : Prop := w = g ∨ (fT ∉ fs ∧ tp w g = true) ∨ endP fs (nA fs (wA fs w)) (nA fs (gA fs g))
/-- good texts: signs, blanks of three kinds, not too long -/
def GT (l : List Nat) : Prop := GoodL l ∧ OkB l ∧ l.length ≤ 80000
theorem gt_cld {f : List Nat → List Nat} (h1 : ∀ p, (f p).length ≤ p.length) (h2 : ∀ p, f p = [] ∨ f p = p) {l : List Nat} (h : GT l) : GT (cld f l) := by
  obtain ⟨a, b, c⟩ := h
  have hl := cld_len h1 l
  refine ⟨fun d hd => ?_, fun d hd => ?_, by omega⟩
  · rcases cld_mem h2 l d hd with rfl | k
    · omega
    · exact a d k
  · rcases cld_mem h2 l d hd with rfl | k
    · decide +kernel
    · exact b d k
theorem gt_wj {l : List Nat} (h : GT l) : GT (wj l) := by
  obtain ⟨a, b, c⟩ := h
  have hl := wj_len l
  refine ⟨fun d hd => ?_, fun d hd => ?_, by omega⟩
  · rcases wj_mem l d hd with rfl | k
    · omega
    · exact a d k
  · rcases wj_mem l d hd with rfl | k
    · decide +kernel
    · exact b d k
theorem gt_wA (fs : List Str) {l : List Nat} (h : GT l) : GT (wA fs l) := by
  unfold wA
  split
  · exact h
  · exact gt_cld clw_len clw_or h
theorem gt_gA (fs : List Str) {l : List Nat} (h : GT l) : GT (gA fs l) := by
  unfold gA
  split
  · exact h
  · exact gt_cld clg_len clg_or h
theorem gt_nA (fs : List Str) {l : List Nat} (h : GT l) : GT (nA fs l) := by
  unfold nA
  split
  · exact gt_wj h
  · exact h
def ttab : List (Str × He.Dv) := [("1\n", .str "True\n"), ("0\n", .str "False\n")]
theorem beq_ml (a b : List Nat) : ((ml a : Str) == ml b) = decide (a = b) := by
  rw [Bool.eq_iff_iff, beq_iff_eq, decide_eq_true_eq, ml_inj]
theorem ttab_find (w : List Nat) : ttab.find? (fun q => q.1 == ml w) = (if w = L1 then some (("1\n" : Str), He.Dv.str "True\n") else if w = L0 then some (("0\n" : Str), He.Dv.str "False\n") else none) := by
  unfold ttab
  have e1 : (("1\n" : Str) == ml w) = decide (L1 = w) := by rw [L1_ml, beq_ml]
  have e2 : (("0\n" : Str) == ml w) = decide (L0 = w) := by rw [L0_ml, beq_ml]
  rw [List.find?_cons, List.find?_cons, List.find?_nil]
  show (match (("1\n" : Str) == ml w) with
    | true => _
    | false => match (("0\n" : Str) == ml w) with
      | true => _
      | false => _) = _
  rw [e1, e2]
  by_cases q1 : w = L1
  · rw [if_pos q1, decide_eq_true q1.symm]
  · rw [if_neg q1, decide_eq_false (fun z => q1 z.symm)]
    by_cases q2 : w = L0
    · rw [if_pos q2, decide_eq_true q2.symm]
    · rw [if_neg q2, decide_eq_false (fun z => q2 z.symm)]
theorem L1_ne : ¬ L0 = L1 := by decide
/-- the program's first test -/
theorem test_prog (w g : List Nat) (fs : List Str) (d : D) (hd : LT d fs) : (morB (MM.opt (mop2 eqD (mvar 0) (mvar 1)) blD) (mandB (MM.opt (mop2 ninD (mc (.str "DONT_ACCEPT_TRUE_FOR_1")) (mvar 2)) blD) (mandB (MM.opt (MM.opt (mvar 0) (inTab [("1\n", .str "True\n"), ("0\n", .str "False\n")] false)) blD) (MM.opt (mop2 eqD (MM.opt (mvar 0) (ixTab [("1\n", .str "True\n"), ("0\n", .str "False\n")])) (mvar 1)) blD)))) [.im (.str (ml w)), .im (.str (ml g)), .im d, .no] = some (decide (w = g) || (!decide (fT ∈ fs) && tp w g), [.im (.str (ml w)), .im (.str (ml g)), .im d, .no]) := by
  have e0 := eq_ml w g
  have e1 := ninD_strs fT hd
  have e1 : ninD (.str ("DONT_ACCEPT_TRUE_FOR_1" : Str)) d = some (.bl (!decide (fT ∈ fs))) := e1
  have e2 : inTab [("1\n", .str "True\n"), ("0\n", .str "False\n")] false (.str (ml w)) = some (.bl (decide (w = L1) || decide (w = L0))) := by
    show some (D.bl (false != (ttab.find? (fun q => q.1 == ml w)).isSome)) = _
    rw [ttab_find]
    by_cases q1 : w = L1
    · rw [if_pos q1, decide_eq_true q1]; rfl
    · rw [if_neg q1, decide_eq_false q1]
      by_cases q2 : w = L0
      · rw [if_pos q2, decide_eq_true q2]; rfl
      · rw [if_neg q2, decide_eq_false q2]; rfl
  have e3 : w = L1 → ixTab [("1\n", .str "True\n"), ("0\n", .str "False\n")] (.str (ml w)) = some (.str ("True\n" : Str)) := fun q => by
    show (ttab.find? (fun q => q.1 == ml w)).map _ = _
    rw [ttab_find, if_pos q]; rfl
  have e4 : w = L0 → ixTab [("1\n", .str "True\n"), ("0\n", .str "False\n")] (.str (ml w)) = some (.str ("False\n" : Str)) := fun q => by
    show (ttab.find? (fun q => q.1 == ml w)).map _ = _
    rw [ttab_find, if_neg (by rw [q]; exact L1_ne), if_pos q]; rfl
  have e5 : decide (("True\n" : Str) = ml g) = decide (g = LT1) := by rw [LT1_ml, eq_ml]; exact decide_eq_decide.mpr eq_comm
  have e6 : decide (("False\n" : Str) = ml g) = decide (g = LF0) := by rw [LF0_ml, eq_ml]; exact decide_eq_decide.mpr eq_comm
  cases q0 : decide (w = g) with
  | true =>
    rw [q0] at e0
    simp only [z_sseq, z_sset, z_sret, z_sif, z_snx, z_sbk, z_sct, z_sdrop, z_sasg, z_spar, z_sown, z_sfor, z_mop2, z_mc, z_mvar, z_MM_opt, z_MM_map, z_mcons, z_mnil, z_pnil, z_pcim, z_pcow, z_acim, z_acsl, z_anil, z_mif, z_mandB, z_morB, z_mnotB, z_mandV, z_morV, z_mnotV, z_mmeth, z_fmeth, z_fop2, z_mdr, z_mdrNe, z_mdrLen, z_mdrPop, z_sdr, z_mappend, z_mextend, z_mpopAt, z_mlenO, z_mnilO, z_msl, z_mcall, z_saug, z_mmethL, z_sdraws, z_mtrue, slots_nil, slots_im, slots_sl, argsE, updE, List.nodup_nil, List.nodup_cons, List.not_mem_nil, List.mem_singleton, not_false_eq_true, and_self, and_true, List.nil_append, List.append_nil, List.cons_append, mtg, Zf.setL, setsE, few, blD_b, truD_b, truD_i, truD_l, truD_t, intL_i, intL_b, seqD_l, seqD_t, seqD_s, seqD_c, negD_i, DS.at, DS.put, DS.row, addD_i, subD_i, eqD_i, neD_i, ltD_i, leD_i, gtD_i, geD_i, eqD_s, neD_s, out_l, out_d, okS_s, okW_nil, okW_cons, okM_no, okM_im, okM_mf, okM_mt, okN_no, okN_im, okN_mu, wipeE, List.all_cons, List.all_nil, Bool.and_true, Bool.true_and, Bool.and_self, decide_true, decide_false, reduceIte, if_true, if_false, List.length_cons, List.length_nil, List.getElem?_cons_zero, List.getElem?_cons_succ, List.set_cons_zero, List.set_cons_succ, List.map_cons, List.map_nil, Bool.false_eq_true, Option.some.injEq, Bool.not_true, Bool.not_false, Nat.reduceAdd, Nat.reduceLT, Nat.reduceLeDiff, z_mpop0, intD_i, e0, Bool.true_or]
  | false =>
    rw [q0] at e0
    cases q1 : decide (fT ∈ fs) with
    | true =>
      rw [q1] at e1
      simp only [z_sseq, z_sset, z_sret, z_sif, z_snx, z_sbk, z_sct, z_sdrop, z_sasg, z_spar, z_sown, z_sfor, z_mop2, z_mc, z_mvar, z_MM_opt, z_MM_map, z_mcons, z_mnil, z_pnil, z_pcim, z_pcow, z_acim, z_acsl, z_anil, z_mif, z_mandB, z_morB, z_mnotB, z_mandV, z_morV, z_mnotV, z_mmeth, z_fmeth, z_fop2, z_mdr, z_mdrNe, z_mdrLen, z_mdrPop, z_sdr, z_mappend, z_mextend, z_mpopAt, z_mlenO, z_mnilO, z_msl, z_mcall, z_saug, z_mmethL, z_sdraws, z_mtrue, slots_nil, slots_im, slots_sl, argsE, updE, List.nodup_nil, List.nodup_cons, List.not_mem_nil, List.mem_singleton, not_false_eq_true, and_self, and_true, List.nil_append, List.append_nil, List.cons_append, mtg, Zf.setL, setsE, few, blD_b, truD_b, truD_i, truD_l, truD_t, intL_i, intL_b, seqD_l, seqD_t, seqD_s, seqD_c, negD_i, DS.at, DS.put, DS.row, addD_i, subD_i, eqD_i, neD_i, ltD_i, leD_i, gtD_i, geD_i, eqD_s, neD_s, out_l, out_d, okS_s, okW_nil, okW_cons, okM_no, okM_im, okM_mf, okM_mt, okN_no, okN_im, okN_mu, wipeE, List.all_cons, List.all_nil, Bool.and_true, Bool.true_and, Bool.and_self, decide_true, decide_false, reduceIte, if_true, if_false, List.length_cons, List.length_nil, List.getElem?_cons_zero, List.getElem?_cons_succ, List.set_cons_zero, List.set_cons_succ, List.map_cons, List.map_nil, Bool.false_eq_true, Option.some.injEq, Bool.not_true, Bool.not_false, Nat.reduceAdd, Nat.reduceLT, Nat.reduceLeDiff, z_mpop0, intD_i, e0, e1, Bool.false_and, Bool.or_false]
    | false =>
      rw [q1] at e1
      unfold tp
      by_cases k1 : w = L1
      · have k0 : decide (w = L0) = false := decide_eq_false (by rw [k1]; decide)
        rw [decide_eq_true k1] at e2 ⊢
        rw [k0] at e2 ⊢
        have e3 := e3 k1
        simp only [z_sseq, z_sset, z_sret, z_sif, z_snx, z_sbk, z_sct, z_sdrop, z_sasg, z_spar, z_sown, z_sfor, z_mop2, z_mc, z_mvar, z_MM_opt, z_MM_map, z_mcons, z_mnil, z_pnil, z_pcim, z_pcow, z_acim, z_acsl, z_anil, z_mif, z_mandB, z_morB, z_mnotB, z_mandV, z_morV, z_mnotV, z_mmeth, z_fmeth, z_fop2, z_mdr, z_mdrNe, z_mdrLen, z_mdrPop, z_sdr, z_mappend, z_mextend, z_mpopAt, z_mlenO, z_mnilO, z_msl, z_mcall, z_saug, z_mmethL, z_sdraws, z_mtrue, slots_nil, slots_im, slots_sl, argsE, updE, List.nodup_nil, List.nodup_cons, List.not_mem_nil, List.mem_singleton, not_false_eq_true, and_self, and_true, List.nil_append, List.append_nil, List.cons_append, mtg, Zf.setL, setsE, few, blD_b, truD_b, truD_i, truD_l, truD_t, intL_i, intL_b, seqD_l, seqD_t, seqD_s, seqD_c, negD_i, DS.at, DS.put, DS.row, addD_i, subD_i, eqD_i, neD_i, ltD_i, leD_i, gtD_i, geD_i, eqD_s, neD_s, out_l, out_d, okS_s, okW_nil, okW_cons, okM_no, okM_im, okM_mf, okM_mt, okN_no, okN_im, okN_mu, wipeE, List.all_cons, List.all_nil, Bool.and_true, Bool.true_and, Bool.and_self, decide_true, decide_false, reduceIte, if_true, if_false, List.length_cons, List.length_nil, List.getElem?_cons_zero, List.getElem?_cons_succ, List.set_cons_zero, List.set_cons_succ, List.map_cons, List.map_nil, Bool.false_eq_true, Option.some.injEq, Bool.not_true, Bool.not_false, Nat.reduceAdd, Nat.reduceLT, Nat.reduceLeDiff, z_mpop0, intD_i, e0, e1, e2, e3, e5, Bool.true_or, Bool.false_and, Bool.or_false, Bool.false_or]
      · rw [decide_eq_false k1] at e2 ⊢
        by_cases k2 : w = L0
        · rw [decide_eq_true k2] at e2 ⊢
          have e4 := e4 k2
          simp only [z_sseq, z_sset, z_sret, z_sif, z_snx, z_sbk, z_sct, z_sdrop, z_sasg, z_spar, z_sown, z_sfor, z_mop2, z_mc, z_mvar, z_MM_opt, z_MM_map, z_mcons, z_mnil, z_pnil, z_pcim, z_pcow, z_acim, z_acsl, z_anil, z_mif, z_mandB, z_morB, z_mnotB, z_mandV, z_morV, z_mnotV, z_mmeth, z_fmeth, z_fop2, z_mdr, z_mdrNe, z_mdrLen, z_mdrPop, z_sdr, z_mappend, z_mextend, z_mpopAt, z_mlenO, z_mnilO, z_msl, z_mcall, z_saug, z_mmethL, z_sdraws, z_mtrue, slots_nil, slots_im, slots_sl, argsE, updE, List.nodup_nil, List.nodup_cons, List.not_mem_nil, List.mem_singleton, not_false_eq_true, and_self, and_true, List.nil_append, List.append_nil, List.cons_append, mtg, Zf.setL, setsE, few, blD_b, truD_b, truD_i, truD_l, truD_t, intL_i, intL_b, seqD_l, seqD_t, seqD_s, seqD_c, negD_i, DS.at, DS.put, DS.row, addD_i, subD_i, eqD_i, neD_i, ltD_i, leD_i, gtD_i, geD_i, eqD_s, neD_s, out_l, out_d, okS_s, okW_nil, okW_cons, okM_no, okM_im, okM_mf, okM_mt, okN_no, okN_im, okN_mu, wipeE, List.all_cons, List.all_nil, Bool.and_true, Bool.true_and, Bool.and_self, decide_true, decide_false, reduceIte, if_true, if_false, List.length_cons, List.length_nil, List.getElem?_cons_zero, List.getElem?_cons_succ, List.set_cons_zero, List.set_cons_succ, List.map_cons, List.map_nil, Bool.false_eq_true, Option.some.injEq, Bool.not_true, Bool.not_false, Nat.reduceAdd, Nat.reduceLT, Nat.reduceLeDiff, z_mpop0, intD_i, e0, e1, e2, e4, e6, Bool.or_true, Bool.false_and, Bool.or_false, Bool.false_or]
        · rw [decide_eq_false k2] at e2 ⊢
          simp only [z_sseq, z_sset, z_sret, z_sif, z_snx, z_sbk, z_sct, z_sdrop, z_sasg, z_spar, z_sown, z_sfor, z_mop2, z_mc, z_mvar, z_MM_opt, z_MM_map, z_mcons, z_mnil, z_pnil, z_pcim, z_pcow, z_acim, z_acsl, z_anil, z_mif, z_mandB, z_morB, z_mnotB, z_mandV, z_morV, z_mnotV, z_mmeth, z_fmeth, z_fop2, z_mdr, z_mdrNe, z_mdrLen, z_mdrPop, z_sdr, z_mappend, z_mextend, z_mpopAt, z_mlenO, z_mnilO, z_msl, z_mcall, z_saug, z_mmethL, z_sdraws, z_mtrue, slots_nil, slots_im, slots_sl, argsE, updE, List.nodup_nil, List.nodup_cons, List.not_mem_nil, List.mem_singleton, not_false_eq_true, and_self, and_true, List.nil_append, List.append_nil, List.cons_append, mtg, Zf.setL, setsE, few, blD_b, truD_b, truD_i, truD_l, truD_t, intL_i, intL_b, seqD_l, seqD_t, seqD_s, seqD_c, negD_i, DS.at, DS.put, DS.row, addD_i, subD_i, eqD_i, neD_i, ltD_i, leD_i, gtD_i, geD_i, eqD_s, neD_s, out_l, out_d, okS_s, okW_nil, okW_cons, okM_no, okM_im, okM_mf, okM_mt, okN_no, okN_im, okN_mu, wipeE, List.all_cons, List.all_nil, Bool.and_true, Bool.true_and, Bool.and_self, decide_true, decide_false, reduceIte, if_true, if_false, List.length_cons, List.length_nil, List.getElem?_cons_zero, List.getElem?_cons_succ, List.set_cons_zero, List.set_cons_succ, List.map_cons, List.map_nil, Bool.false_eq_true, Option.some.injEq, Bool.not_true, Bool.not_false, Nat.reduceAdd, Nat.reduceLT, Nat.reduceLeDiff, z_mpop0, intD_i, e0, e1, e2, Bool.or_self, Bool.false_and]
theorem shaped2 {a b : Str} (ha : PyData.strOk a = true) (hb : PyData.strOk b = true) : SeqAt.shaped (.tuple [.str a, .str b]) = true := by
  simp [SeqAt.shaped, PyData.canLay0, PyData.canLayAll0, ha, hb, PyData.depth, PyData.depthAll]
theorem eqv2 (a b c d : Str) : PyData.eqv (.tuple [.str a, .str b]) (.tuple [.str c, .str d]) = (decide (a = c) && decide (b = d)) := by
  show ((a == c) && ((b == d) && true)) = _
  rw [Bool.and_true, Bool.eq_iff_iff]
  simp
theorem test_law (w g : List Nat) (hw : GoodL w) (hg : GoodL g) : inTD (.tup [.str (ml w), .str (ml g)]) (.tup [.tup [.str ("1\n" : Str), .str ("True\n" : Str)], .tup [.str ("0\n" : Str), .str ("False\n" : Str)]]) = some (.bl (tp w g)) := by
  have h1 := shaped2 (strOk_ml hw) (strOk_ml hg)
  have h2 : SeqAt.shaped (.tuple [.tuple [.str ("1\n" : Str), .str ("True\n" : Str)], .tuple [.str ("0\n" : Str), .str ("False\n" : Str)]]) = true := by decide +kernel
  show (if (SeqAt.shaped (.tuple [.str (ml w), .str (ml g)]) && SeqAt.shaped (.tuple [.tuple [.str ("1\n" : Str), .str ("True\n" : Str)], .tuple [.str ("0\n" : Str), .str ("False\n" : Str)]])) = true then some (D.bl ([PyData.tuple [.str ("1\n" : Str), .str ("True\n" : Str)], .tuple [.str ("0\n" : Str), .str ("False\n" : Str)]].any fun z => PyData.eqv z (.tuple [.str (ml w), .str (ml g)]))) else none) = _
  rw [h1, h2, if_pos (show (true && true) = true from rfl)]
  simp only [List.any_cons, List.any_nil, eqv2, Bool.or_false, L1_ml, L0_ml, LT1_ml, LF0_ml, eq_ml]
  unfold tp
  congr 3
  · congr 1 <;> exact decide_eq_decide.mpr eq_comm
  · congr 1 <;> exact decide_eq_decide.mpr eq_comm
theorem pcs_len (w : List Nat) : (pcs w).length ≤ w.length + 1 := by have := pcs_sum w; omega
theorem pcs_mem {w p : List Nat} (h : p ∈ pcs w) : p.length ≤ w.length + 1 := by
  have := pcs_sum w
  have := mem_le_sum h
  omega
/-- two or more pieces -/
theorem two_split {α : Type} {l : List α} (h : 1 < l.length) : ∃ a mid b, l = a :: (mid ++ [b]) := by
  cases l with
  | nil => simp at h
  | cons a r =>
    have hr : r ≠ [] := by intro q; subst q; simp at h
    exact ⟨a, r.dropLast, r.getLast hr, by rw [List.dropLast_concat_getLast]⟩
theorem let_by_ok (w g : List Nat) (fs : List Str) (d : D) (hd : LT d fs) (hw : GT w) (hg : GT g) : ∃ (b : Bool) (u v : Sl), (b = true ↔ letsP fs w g) ∧ F_is_let_by [.im (.str (ml w)), .im (.str (ml g)), .im d] = some (.bl b, [u, v, .im d]) := by
  have t0 := test_prog w g fs d hd
  by_cases q0 : (decide (w = g) || (!decide (fT ∈ fs) && tp w g)) = true
  · rw [q0] at t0
    refine ⟨true, .im (.str (ml w)), .im (.str (ml g)), ⟨fun _ => ?_, fun _ => rfl⟩, ?_⟩
    · rw [Bool.or_eq_true, Bool.and_eq_true, decide_eq_true_eq, Bool.not_eq_true', decide_eq_false_iff_not] at q0
      rcases q0 with h | ⟨h1, h2⟩
      · exact .inl h
      · exact .inr (.inl ⟨h1, h2⟩)
    · have body : m_is_let_by [.im (.str (ml w)), .im (.str (ml g)), .im d, .no] = some (.rt (.bl true) [.im (.str (ml w)), .im (.str (ml g)), .im d, .no]) := by
        unfold m_is_let_by
        unfold sseq sif
        rw [t0]
        rfl
      exact fnM_rt (n := 4) (args := [.im (.str (ml w)), .im (.str (ml g)), .im d]) (m := m_is_let_by) body
  · have q0' : (decide (w = g) || (!decide (fT ∈ fs) && tp w g)) = false := by simpa using q0
    rw [q0'] at t0
    have hL : letsP fs w g ↔ endP fs (nA fs (wA fs w)) (nA fs (gA fs g)) := by
      unfold letsP
      rw [Bool.or_eq_false_iff, Bool.and_eq_false_iff] at q0'
      obtain ⟨a, b⟩ := q0'
      have a : ¬ w = g := of_decide_eq_false a
      constructor
      · rintro (h | ⟨h1, h2⟩ | h)
        · exact absurd h a
        · rcases b with b | b
          · rw [decide_eq_false h1] at b; cases b
          · rw [h2] at b; cases b
        · exact h
      · exact fun h => .inr (.inr h)
    have hw1 := gt_wA fs hw
    have hg1 := gt_gA fs hg
    have eB := ninD_strs fB_ hd
    have eB : ninD (.str ("DONT_ACCEPT_BLANKLINE" : Str)) d = some (.bl (!decide (fB_ ∈ fs))) := eB
    have eN : inD (.str ("NORMALIZE_WHITESPACE" : Str)) d = some (.bl (decide (fN ∈ fs))) := inD_strs fN hd
    have eE : inD (.str ("ELLIPSIS" : Str)) d = some (.bl (decide (fE ∈ fs))) := inD_strs fE hd
    have st1 : (sif (MM.opt (mop2 ninD (mc (.str "DONT_ACCEPT_BLANKLINE")) (mvar 2)) blD) (spar [0, 1] (pcim (mcall F_markers_cleared [] (acim (mvar 0) (anil))) (pcim (mcall F_blanks_cleared [] (acim (mvar 1) (anil))) (pnil)))) (snx)) [.im (.str (ml w)), .im (.str (ml g)), .im d, .no] = some (.nx [.im (.str (ml (wA fs w))), .im (.str (ml (gA fs g))), .im d, .no]) := by
      have c1 := cleared_w w (by have := hw.2.2; omega)
      have c2 := cleared_g g (by have := hg.2.2; omega)
      unfold wA gA
      by_cases q : fB_ ∈ fs
      · rw [decide_eq_true q] at eB
        rw [if_pos q, if_pos q]
        simp only [z_sseq, z_sset, z_sret, z_sif, z_snx, z_sbk, z_sct, z_sdrop, z_sasg, z_spar, z_sown, z_sfor, z_mop2, z_mc, z_mvar, z_MM_opt, z_MM_map, z_mcons, z_mnil, z_pnil, z_pcim, z_pcow, z_acim, z_acsl, z_anil, z_mif, z_mandB, z_morB, z_mnotB, z_mandV, z_morV, z_mnotV, z_mmeth, z_fmeth, z_fop2, z_mdr, z_mdrNe, z_mdrLen, z_mdrPop, z_sdr, z_mappend, z_mextend, z_mpopAt, z_mlenO, z_mnilO, z_msl, z_mcall, z_saug, z_mmethL, z_sdraws, z_mtrue, slots_nil, slots_im, slots_sl, argsE, updE, List.nodup_nil, List.nodup_cons, List.not_mem_nil, List.mem_singleton, not_false_eq_true, and_self, and_true, List.nil_append, List.append_nil, List.cons_append, mtg, Zf.setL, setsE, few, blD_b, truD_b, truD_i, truD_l, truD_t, intL_i, intL_b, seqD_l, seqD_t, seqD_s, seqD_c, negD_i, DS.at, DS.put, DS.row, addD_i, subD_i, eqD_i, neD_i, ltD_i, leD_i, gtD_i, geD_i, eqD_s, neD_s, out_l, out_d, okS_s, okW_nil, okW_cons, okM_no, okM_im, okM_mf, okM_mt, okN_no, okN_im, okN_mu, wipeE, List.all_cons, List.all_nil, Bool.and_true, Bool.true_and, Bool.and_self, decide_true, decide_false, reduceIte, if_true, if_false, List.length_cons, List.length_nil, List.getElem?_cons_zero, List.getElem?_cons_succ, List.set_cons_zero, List.set_cons_succ, List.map_cons, List.map_nil, Bool.false_eq_true, Option.some.injEq, Bool.not_true, Bool.not_false, Nat.reduceAdd, Nat.reduceLT, Nat.reduceLeDiff, z_mpop0, intD_i, eB]
      · rw [decide_eq_false q] at eB
        rw [if_neg q, if_neg q]
        simp only [z_sseq, z_sset, z_sret, z_sif, z_snx, z_sbk, z_sct, z_sdrop, z_sasg, z_spar, z_sown, z_sfor, z_mop2, z_mc, z_mvar, z_MM_opt, z_MM_map, z_mcons, z_mnil, z_pnil, z_pcim, z_pcow, z_acim, z_acsl, z_anil, z_mif, z_mandB, z_morB, z_mnotB, z_mandV, z_morV, z_mnotV, z_mmeth, z_fmeth, z_fop2, z_mdr, z_mdrNe, z_mdrLen, z_mdrPop, z_sdr, z_mappend, z_mextend, z_mpopAt, z_mlenO, z_mnilO, z_msl, z_mcall, z_saug, z_mmethL, z_sdraws, z_mtrue, slots_nil, slots_im, slots_sl, argsE, updE, List.nodup_nil, List.nodup_cons, List.not_mem_nil, List.mem_singleton, not_false_eq_true, and_self, and_true, List.nil_append, List.append_nil, List.cons_append, mtg, Zf.setL, setsE, few, blD_b, truD_b, truD_i, truD_l, truD_t, intL_i, intL_b, seqD_l, seqD_t, seqD_s, seqD_c, negD_i, DS.at, DS.put, DS.row, addD_i, subD_i, eqD_i, neD_i, ltD_i, leD_i, gtD_i, geD_i, eqD_s, neD_s, out_l, out_d, okS_s, okW_nil, okW_cons, okM_no, okM_im, okM_mf, okM_mt, okN_no, okN_im, okN_mu, wipeE, List.all_cons, List.all_nil, Bool.and_true, Bool.true_and, Bool.and_self, decide_true, decide_false, reduceIte, if_true, if_false, List.length_cons, List.length_nil, List.getElem?_cons_zero, List.getElem?_cons_succ, List.set_cons_zero, List.set_cons_succ, List.map_cons, List.map_nil, Bool.false_eq_true, Option.some.injEq, Bool.not_true, Bool.not_false, Nat.reduceAdd, Nat.reduceLT, Nat.reduceLeDiff, z_mpop0, intD_i, eB, c1, c2]
    obtain ⟨w1, hw1e⟩ : ∃ w1, w1 = wA fs w := ⟨_, rfl⟩
    obtain ⟨g1, hg1e⟩ : ∃ g1, g1 = gA fs g := ⟨_, rfl⟩
    rw [← hw1e] at st1 hw1 hL
    rw [← hg1e] at st1 hg1 hL
    have hw2 := gt_nA fs hw1
    have hg2 := gt_nA fs hg1
    have st2 : (sif (MM.opt (mop2 inD (mc (.str "NORMALIZE_WHITESPACE")) (mvar 2)) blD) (spar [0, 1] (pcim (mcall F_words_joined [] (acim (mvar 0) (anil))) (pcim (mcall F_words_joined [] (acim (mvar 1) (anil))) (pnil)))) (snx)) [.im (.str (ml w1)), .im (.str (ml g1)), .im d, .no] = some (.nx [.im (.str (ml (nA fs w1))), .im (.str (ml (nA fs g1))), .im d, .no]) := by
      have c1 := words_joined_ok w1 (by have := hw1.2.2; omega) hw1.2.1
      have c2 := words_joined_ok g1 (by have := hg1.2.2; omega) hg1.2.1
      unfold nA
      by_cases q : fN ∈ fs
      · rw [decide_eq_true q] at eN
        rw [if_pos q, if_pos q]
        simp only [z_sseq, z_sset, z_sret, z_sif, z_snx, z_sbk, z_sct, z_sdrop, z_sasg, z_spar, z_sown, z_sfor, z_mop2, z_mc, z_mvar, z_MM_opt, z_MM_map, z_mcons, z_mnil, z_pnil, z_pcim, z_pcow, z_acim, z_acsl, z_anil, z_mif, z_mandB, z_morB, z_mnotB, z_mandV, z_morV, z_mnotV, z_mmeth, z_fmeth, z_fop2, z_mdr, z_mdrNe, z_mdrLen, z_mdrPop, z_sdr, z_mappend, z_mextend, z_mpopAt, z_mlenO, z_mnilO, z_msl, z_mcall, z_saug, z_mmethL, z_sdraws, z_mtrue, slots_nil, slots_im, slots_sl, argsE, updE, List.nodup_nil, List.nodup_cons, List.not_mem_nil, List.mem_singleton, not_false_eq_true, and_self, and_true, List.nil_append, List.append_nil, List.cons_append, mtg, Zf.setL, setsE, few, blD_b, truD_b, truD_i, truD_l, truD_t, intL_i, intL_b, seqD_l, seqD_t, seqD_s, seqD_c, negD_i, DS.at, DS.put, DS.row, addD_i, subD_i, eqD_i, neD_i, ltD_i, leD_i, gtD_i, geD_i, eqD_s, neD_s, out_l, out_d, okS_s, okW_nil, okW_cons, okM_no, okM_im, okM_mf, okM_mt, okN_no, okN_im, okN_mu, wipeE, List.all_cons, List.all_nil, Bool.and_true, Bool.true_and, Bool.and_self, decide_true, decide_false, reduceIte, if_true, if_false, List.length_cons, List.length_nil, List.getElem?_cons_zero, List.getElem?_cons_succ, List.set_cons_zero, List.set_cons_succ, List.map_cons, List.map_nil, Bool.false_eq_true, Option.some.injEq, Bool.not_true, Bool.not_false, Nat.reduceAdd, Nat.reduceLT, Nat.reduceLeDiff, z_mpop0, intD_i, eN, c1, c2]
      · rw [decide_eq_false q] at eN
        rw [if_neg q, if_neg q]
        simp only [z_sseq, z_sset, z_sret, z_sif, z_snx, z_sbk, z_sct, z_sdrop, z_sasg, z_spar, z_sown, z_sfor, z_mop2, z_mc, z_mvar, z_MM_opt, z_MM_map, z_mcons, z_mnil, z_pnil, z_pcim, z_pcow, z_acim, z_acsl, z_anil, z_mif, z_mandB, z_morB, z_mnotB, z_mandV, z_morV, z_mnotV, z_mmeth, z_fmeth, z_fop2, z_mdr, z_mdrNe, z_mdrLen, z_mdrPop, z_sdr, z_mappend, z_mextend, z_mpopAt, z_mlenO, z_mnilO, z_msl, z_mcall, z_saug, z_mmethL, z_sdraws, z_mtrue, slots_nil, slots_im, slots_sl, argsE, updE, List.nodup_nil, List.nodup_cons, List.not_mem_nil, List.mem_singleton, not_false_eq_true, and_self, and_true, List.nil_append, List.append_nil, List.cons_append, mtg, Zf.setL, setsE, few, blD_b, truD_b, truD_i, truD_l, truD_t, intL_i, intL_b, seqD_l, seqD_t, seqD_s, seqD_c, negD_i, DS.at, DS.put, DS.row, addD_i, subD_i, eqD_i, neD_i, ltD_i, leD_i, gtD_i, geD_i, eqD_s, neD_s, out_l, out_d, okS_s, okW_nil, okW_cons, okM_no, okM_im, okM_mf, okM_mt, okN_no, okN_im, okN_mu, wipeE, List.all_cons, List.all_nil, Bool.and_true, Bool.true_and, Bool.and_self, decide_true, decide_false, reduceIte, if_true, if_false, List.length_cons, List.length_nil, List.getElem?_cons_zero, List.getElem?_cons_succ, List.set_cons_zero, List.set_cons_succ, List.map_cons, List.map_nil, Bool.false_eq_true, Option.some.injEq, Bool.not_true, Bool.not_false, Nat.reduceAdd, Nat.reduceLT, Nat.reduceLeDiff, z_mpop0, intD_i, eN]
    obtain ⟨w2, hw2e⟩ : ∃ w2, w2 = nA fs w1 := ⟨_, rfl⟩
    obtain ⟨g2, hg2e⟩ : ∃ g2, g2 = nA fs g1 := ⟨_, rfl⟩
    rw [← hw2e] at st2 hw2 hL
    rw [← hg2e] at st2 hg2 hL
    have st3 : (sset 3 (mif (MM.opt (mop2 inD (mc (.str "ELLIPSIS")) (mvar 2)) blD) (MM.map (fmeth splitM (mvar 0) (mcons (mc (.str "...")) (mnil))) .lst) (MM.map (MM.opt (mcons (mvar 0) (mnil)) few) .lst))) [.im (.str (ml w2)), .im (.str (ml g2)), .im d, .no] = some (.nx [.im (.str (ml w2)), .im (.str (ml g2)), .im d, .im (.lst (dlS (pA fs w2)))]) := by
      have c1 := split_dots w2 (by have := hw2.2.2; omega)
      have hf : few [.str (ml w2)] = some [.str (ml w2)] := rfl
      unfold pA
      by_cases q : fE ∈ fs
      · rw [decide_eq_true q] at eE
        rw [if_pos q]
        simp only [z_sseq, z_sset, z_sret, z_sif, z_snx, z_sbk, z_sct, z_sdrop, z_sasg, z_spar, z_sown, z_sfor, z_mop2, z_mc, z_mvar, z_MM_opt, z_MM_map, z_mcons, z_mnil, z_pnil, z_pcim, z_pcow, z_acim, z_acsl, z_anil, z_mif, z_mandB, z_morB, z_mnotB, z_mandV, z_morV, z_mnotV, z_mmeth, z_fmeth, z_fop2, z_mdr, z_mdrNe, z_mdrLen, z_mdrPop, z_sdr, z_mappend, z_mextend, z_mpopAt, z_mlenO, z_mnilO, z_msl, z_mcall, z_saug, z_mmethL, z_sdraws, z_mtrue, slots_nil, slots_im, slots_sl, argsE, updE, List.nodup_nil, List.nodup_cons, List.not_mem_nil, List.mem_singleton, not_false_eq_true, and_self, and_true, List.nil_append, List.append_nil, List.cons_append, mtg, Zf.setL, setsE, few, blD_b, truD_b, truD_i, truD_l, truD_t, intL_i, intL_b, seqD_l, seqD_t, seqD_s, seqD_c, negD_i, DS.at, DS.put, DS.row, addD_i, subD_i, eqD_i, neD_i, ltD_i, leD_i, gtD_i, geD_i, eqD_s, neD_s, out_l, out_d, okS_s, okW_nil, okW_cons, okM_no, okM_im, okM_mf, okM_mt, okN_no, okN_im, okN_mu, wipeE, List.all_cons, List.all_nil, Bool.and_true, Bool.true_and, Bool.and_self, decide_true, decide_false, reduceIte, if_true, if_false, List.length_cons, List.length_nil, List.getElem?_cons_zero, List.getElem?_cons_succ, List.set_cons_zero, List.set_cons_succ, List.map_cons, List.map_nil, Bool.false_eq_true, Option.some.injEq, Bool.not_true, Bool.not_false, Nat.reduceAdd, Nat.reduceLT, Nat.reduceLeDiff, z_mpop0, intD_i, eE, c1]
      · rw [decide_eq_false q] at eE
        rw [if_neg q]
        simp only [z_sseq, z_sset, z_sret, z_sif, z_snx, z_sbk, z_sct, z_sdrop, z_sasg, z_spar, z_sown, z_sfor, z_mop2, z_mc, z_mvar, z_MM_opt, z_MM_map, z_mcons, z_mnil, z_pnil, z_pcim, z_pcow, z_acim, z_acsl, z_anil, z_mif, z_mandB, z_morB, z_mnotB, z_mandV, z_morV, z_mnotV, z_mmeth, z_fmeth, z_fop2, z_mdr, z_mdrNe, z_mdrLen, z_mdrPop, z_sdr, z_mappend, z_mextend, z_mpopAt, z_mlenO, z_mnilO, z_msl, z_mcall, z_saug, z_mmethL, z_sdraws, z_mtrue, slots_nil, slots_im, slots_sl, argsE, updE, List.nodup_nil, List.nodup_cons, List.not_mem_nil, List.mem_singleton, not_false_eq_true, and_self, and_true, List.nil_append, List.append_nil, List.cons_append, mtg, Zf.setL, setsE, few, blD_b, truD_b, truD_i, truD_l, truD_t, intL_i, intL_b, seqD_l, seqD_t, seqD_s, seqD_c, negD_i, DS.at, DS.put, DS.row, addD_i, subD_i, eqD_i, neD_i, ltD_i, leD_i, gtD_i, geD_i, eqD_s, neD_s, out_l, out_d, okS_s, okW_nil, okW_cons, okM_no, okM_im, okM_mf, okM_mt, okN_no, okN_im, okN_mu, wipeE, List.all_cons, List.all_nil, Bool.and_true, Bool.true_and, Bool.and_self, decide_true, decide_false, reduceIte, if_true, if_false, List.length_cons, List.length_nil, List.getElem?_cons_zero, List.getElem?_cons_succ, List.set_cons_zero, List.set_cons_succ, List.map_cons, List.map_nil, Bool.false_eq_true, Option.some.injEq, Bool.not_true, Bool.not_false, Nat.reduceAdd, Nat.reduceLT, Nat.reduceLeDiff, z_mpop0, intD_i, eE, hf]
        rfl
    have e0 := eq_ml w2 g2
    have l3 : lenL [.lst (dlS (pA fs w2))] = some (.int ((pA fs w2).length : Int)) := by
      show some (D.int ((dlS (pA fs w2)).length : Int)) = _
      rw [dlS_len]
    have fin : ∃ b : Bool, (b = true ↔ endP fs w2 g2) ∧ (sret (morV (mop2 eqD (mvar 0) (mvar 1)) (mandV (mop2 gtD (MM.opt (mcons (mvar 3) (mnil)) lenL) (mc (.int 1))) (mcall F_fits_pieces [] (acim (mvar 3) (acim (mvar 1) (anil))))))) [.im (.str (ml w2)), .im (.str (ml g2)), .im d, .im (.lst (dlS (pA fs w2)))] = some (.rt (.bl b) [.im (.str (ml w2)), .im (.str (ml g2)), .im d, .im (.lst (dlS (pA fs w2)))]) := by
      by_cases q : w2 = g2
      · rw [decide_eq_true q] at e0
        exact ⟨true, ⟨fun _ => .inl q, fun _ => rfl⟩, by simp only [z_sseq, z_sset, z_sret, z_sif, z_snx, z_sbk, z_sct, z_sdrop, z_sasg, z_spar, z_sown, z_sfor, z_mop2, z_mc, z_mvar, z_MM_opt, z_MM_map, z_mcons, z_mnil, z_pnil, z_pcim, z_pcow, z_acim, z_acsl, z_anil, z_mif, z_mandB, z_morB, z_mnotB, z_mandV, z_morV, z_mnotV, z_mmeth, z_fmeth, z_fop2, z_mdr, z_mdrNe, z_mdrLen, z_mdrPop, z_sdr, z_mappend, z_mextend, z_mpopAt, z_mlenO, z_mnilO, z_msl, z_mcall, z_saug, z_mmethL, z_sdraws, z_mtrue, slots_nil, slots_im, slots_sl, argsE, updE, List.nodup_nil, List.nodup_cons, List.not_mem_nil, List.mem_singleton, not_false_eq_true, and_self, and_true, List.nil_append, List.append_nil, List.cons_append, mtg, Zf.setL, setsE, few, blD_b, truD_b, truD_i, truD_l, truD_t, intL_i, intL_b, seqD_l, seqD_t, seqD_s, seqD_c, negD_i, DS.at, DS.put, DS.row, addD_i, subD_i, eqD_i, neD_i, ltD_i, leD_i, gtD_i, geD_i, eqD_s, neD_s, out_l, out_d, okS_s, okW_nil, okW_cons, okM_no, okM_im, okM_mf, okM_mt, okN_no, okN_im, okN_mu, wipeE, List.all_cons, List.all_nil, Bool.and_true, Bool.true_and, Bool.and_self, decide_true, decide_false, reduceIte, if_true, if_false, List.length_cons, List.length_nil, List.getElem?_cons_zero, List.getElem?_cons_succ, List.set_cons_zero, List.set_cons_succ, List.map_cons, List.map_nil, Bool.false_eq_true, Option.some.injEq, Bool.not_true, Bool.not_false, Nat.reduceAdd, Nat.reduceLT, Nat.reduceLeDiff, z_mpop0, intD_i, e0]⟩
      · rw [decide_eq_false q] at e0
        by_cases q1 : 1 < (pA fs w2).length
        · have e1 : decide ((1 : Int) < ((pA fs w2).length : Int)) = true := decide_eq_true (by omega)
          have hpb : ∀ p ∈ pA fs w2, p.length ≤ 90000 := fun p hp => by
            unfold pA at hp
            split at hp
            · have := pcs_mem hp
              have := hw2.2.2
              omega
            · rw [List.mem_singleton.mp hp]
              have := hw2.2.2
              omega
          obtain ⟨p0, mid, pl, hp⟩ := two_split q1
          obtain ⟨b, hb, hF⟩ := fits_ok g2 p0 pl mid (by have := hg2.2.2; omega) (hpb p0 (by rw [hp]; simp)) (hpb pl (by rw [hp]; simp))
          rw [← hp] at hb hF
          refine ⟨b, ?_, by simp only [z_sseq, z_sset, z_sret, z_sif, z_snx, z_sbk, z_sct, z_sdrop, z_sasg, z_spar, z_sown, z_sfor, z_mop2, z_mc, z_mvar, z_MM_opt, z_MM_map, z_mcons, z_mnil, z_pnil, z_pcim, z_pcow, z_acim, z_acsl, z_anil, z_mif, z_mandB, z_morB, z_mnotB, z_mandV, z_morV, z_mnotV, z_mmeth, z_fmeth, z_fop2, z_mdr, z_mdrNe, z_mdrLen, z_mdrPop, z_sdr, z_mappend, z_mextend, z_mpopAt, z_mlenO, z_mnilO, z_msl, z_mcall, z_saug, z_mmethL, z_sdraws, z_mtrue, slots_nil, slots_im, slots_sl, argsE, updE, List.nodup_nil, List.nodup_cons, List.not_mem_nil, List.mem_singleton, not_false_eq_true, and_self, and_true, List.nil_append, List.append_nil, List.cons_append, mtg, Zf.setL, setsE, few, blD_b, truD_b, truD_i, truD_l, truD_t, intL_i, intL_b, seqD_l, seqD_t, seqD_s, seqD_c, negD_i, DS.at, DS.put, DS.row, addD_i, subD_i, eqD_i, neD_i, ltD_i, leD_i, gtD_i, geD_i, eqD_s, neD_s, out_l, out_d, okS_s, okW_nil, okW_cons, okM_no, okM_im, okM_mf, okM_mt, okN_no, okN_im, okN_mu, wipeE, List.all_cons, List.all_nil, Bool.and_true, Bool.true_and, Bool.and_self, decide_true, decide_false, reduceIte, if_true, if_false, List.length_cons, List.length_nil, List.getElem?_cons_zero, List.getElem?_cons_succ, List.set_cons_zero, List.set_cons_succ, List.map_cons, List.map_nil, Bool.false_eq_true, Option.some.injEq, Bool.not_true, Bool.not_false, Nat.reduceAdd, Nat.reduceLT, Nat.reduceLeDiff, z_mpop0, intD_i, e0, l3, e1, hF]⟩
          rw [hb]
          exact ⟨fun h => .inr ⟨q1, h⟩, fun h => by
            rcases h with h | h
            · exact absurd h q
            · exact h.2⟩
        · have e1 : decide ((1 : Int) < ((pA fs w2).length : Int)) = false := decide_eq_false (by omega)
          refine ⟨false, ⟨fun h => (by cases h), fun h => ?_⟩, by simp only [z_sseq, z_sset, z_sret, z_sif, z_snx, z_sbk, z_sct, z_sdrop, z_sasg, z_spar, z_sown, z_sfor, z_mop2, z_mc, z_mvar, z_MM_opt, z_MM_map, z_mcons, z_mnil, z_pnil, z_pcim, z_pcow, z_acim, z_acsl, z_anil, z_mif, z_mandB, z_morB, z_mnotB, z_mandV, z_morV, z_mnotV, z_mmeth, z_fmeth, z_fop2, z_mdr, z_mdrNe, z_mdrLen, z_mdrPop, z_sdr, z_mappend, z_mextend, z_mpopAt, z_mlenO, z_mnilO, z_msl, z_mcall, z_saug, z_mmethL, z_sdraws, z_mtrue, slots_nil, slots_im, slots_sl, argsE, updE, List.nodup_nil, List.nodup_cons, List.not_mem_nil, List.mem_singleton, not_false_eq_true, and_self, and_true, List.nil_append, List.append_nil, List.cons_append, mtg, Zf.setL, setsE, few, blD_b, truD_b, truD_i, truD_l, truD_t, intL_i, intL_b, seqD_l, seqD_t, seqD_s, seqD_c, negD_i, DS.at, DS.put, DS.row, addD_i, subD_i, eqD_i, neD_i, ltD_i, leD_i, gtD_i, geD_i, eqD_s, neD_s, out_l, out_d, okS_s, okW_nil, okW_cons, okM_no, okM_im, okM_mf, okM_mt, okN_no, okN_im, okN_mu, wipeE, List.all_cons, List.all_nil, Bool.and_true, Bool.true_and, Bool.and_self, decide_true, decide_false, reduceIte, if_true, if_false, List.length_cons, List.length_nil, List.getElem?_cons_zero, List.getElem?_cons_succ, List.set_cons_zero, List.set_cons_succ, List.map_cons, List.map_nil, Bool.false_eq_true, Option.some.injEq, Bool.not_true, Bool.not_false, Nat.reduceAdd, Nat.reduceLT, Nat.reduceLeDiff, z_mpop0, intD_i, e0, l3, e1]⟩
          rcases h with h | h
          · exact absurd h q
          · exact absurd h.1 q1
    obtain ⟨b, hb, hF⟩ := fin
    refine ⟨b, .im (.str (ml w2)), .im (.str (ml g2)), hb.trans hL.symm, ?_⟩
    have st0 : (sif (morB (MM.opt (mop2 eqD (mvar 0) (mvar 1)) blD) (mandB (MM.opt (mop2 ninD (mc (.str "DONT_ACCEPT_TRUE_FOR_1")) (mvar 2)) blD) (mandB (MM.opt (MM.opt (mvar 0) (inTab [("1\n", .str "True\n"), ("0\n", .str "False\n")] false)) blD) (MM.opt (mop2 eqD (MM.opt (mvar 0) (ixTab [("1\n", .str "True\n"), ("0\n", .str "False\n")])) (mvar 1)) blD)))) (sret (mc (.bl true))) (snx)) [.im (.str (ml w)), .im (.str (ml g)), .im d, .no] = some (.nx [.im (.str (ml w)), .im (.str (ml g)), .im d, .no]) := (sif_f t0).trans rfl
    have body : m_is_let_by [.im (.str (ml w)), .im (.str (ml g)), .im d, .no] = some (.rt (.bl b) [.im (.str (ml w2)), .im (.str (ml g2)), .im d, .im (.lst (dlS (pA fs w2)))]) := by
      unfold m_is_let_by
      exact sseq_nx st0 (sseq_nx st1 (sseq_nx st2 (sseq_nx st3 hF)))
    exact fnM_rt (n := 4) (args := [.im (.str (ml w)), .im (.str (ml g)), .im d]) (m := m_is_let_by) body
theorem check_ok (w g : List Nat) (fs : List Str) (d : D) (hd : LT d fs) (hv : ∀ f ∈ fs, f ∈ flagsL) (hl : fs.length ≤ 1000) (hw : GT w) (hg : GT g) : ∃ b : Bool, (b = true ↔ letsP fs w g) ∧ F_check [.im (.str (ml w)), .im (.str (ml g)), .im d] = some (.bl b, [.im (.str (ml w)), .im (.str (ml g)), .im d]) := by
  obtain ⟨b, u, v, hb, h1⟩ := let_by_ok w g fs (.tup (fs.map .str)) (.inr rfl) hw hg
  have h2 := checked_ok d fs hd hv hl
  refine ⟨b, hb, ?_⟩
  have body : m_check [.im (.str (ml w)), .im (.str (ml g)), .im d] = some (.rt (.bl b) [.im (.str (ml w)), .im (.str (ml g)), .im d]) := by
    unfold m_check
    simp only [z_sseq, z_sset, z_sret, z_sif, z_snx, z_sbk, z_sct, z_sdrop, z_sasg, z_spar, z_sown, z_sfor, z_mop2, z_mc, z_mvar, z_MM_opt, z_MM_map, z_mcons, z_mnil, z_pnil, z_pcim, z_pcow, z_acim, z_acsl, z_anil, z_mif, z_mandB, z_morB, z_mnotB, z_mandV, z_morV, z_mnotV, z_mmeth, z_fmeth, z_fop2, z_mdr, z_mdrNe, z_mdrLen, z_mdrPop, z_sdr, z_mappend, z_mextend, z_mpopAt, z_mlenO, z_mnilO, z_msl, z_mcall, z_saug, z_mmethL, z_sdraws, z_mtrue, slots_nil, slots_im, slots_sl, argsE, updE, List.nodup_nil, List.nodup_cons, List.not_mem_nil, List.mem_singleton, not_false_eq_true, and_self, and_true, List.nil_append, List.append_nil, List.cons_append, mtg, Zf.setL, setsE, few, blD_b, truD_b, truD_i, truD_l, truD_t, intL_i, intL_b, seqD_l, seqD_t, seqD_s, seqD_c, negD_i, DS.at, DS.put, DS.row, addD_i, subD_i, eqD_i, neD_i, ltD_i, leD_i, gtD_i, geD_i, eqD_s, neD_s, out_l, out_d, okS_s, okW_nil, okW_cons, okM_no, okM_im, okM_mf, okM_mt, okN_no, okN_im, okN_mu, wipeE, List.all_cons, List.all_nil, Bool.and_true, Bool.true_and, Bool.and_self, decide_true, decide_false, reduceIte, if_true, if_false, List.length_cons, List.length_nil, List.getElem?_cons_zero, List.getElem?_cons_succ, List.set_cons_zero, List.set_cons_succ, List.map_cons, List.map_nil, Bool.false_eq_true, Option.some.injEq, Bool.not_true, Bool.not_false, Nat.reduceAdd, Nat.reduceLT, Nat.reduceLeDiff, z_mpop0, intD_i, h2, h1]
  exact fnM_rt (n := 3) (args := [.im (.str (ml w)), .im (.str (ml g)), .im d]) (m := m_check) body
theorem law_lets_ok (w g : List Nat) (fs : List Str) (d : D) (hd : LT d fs) (hw : GT w) (hg : GT g) : ∃ (b : Bool) (u v : Sl), (b = true ↔ letsP fs w g) ∧ F_law_lets [.im (.str (ml w)), .im (.str (ml g)), .im d] = some (.bl b, [u, v, .im d]) := by
  have eT : ninD (.str ("DONT_ACCEPT_TRUE_FOR_1" : Str)) d = some (.bl (!decide (fT ∈ fs))) := ninD_strs fT hd
  have eB : ninD (.str ("DONT_ACCEPT_BLANKLINE" : Str)) d = some (.bl (!decide (fB_ ∈ fs))) := ninD_strs fB_ hd
  have eN : inD (.str ("NORMALIZE_WHITESPACE" : Str)) d = some (.bl (decide (fN ∈ fs))) := inD_strs fN hd
  have eE : inD (.str ("ELLIPSIS" : Str)) d = some (.bl (decide (fE ∈ fs))) := inD_strs fE hd
  have e0 := eq_ml w g
  by_cases q0 : w = g
  · rw [decide_eq_true q0] at e0
    refine ⟨true, .im (.str (ml w)), .im (.str (ml g)), ⟨fun _ => .inl q0, fun _ => rfl⟩, ?_⟩
    have body : m_law_lets [.im (.str (ml w)), .im (.str (ml g)), .im d, .no] = some (.rt (.bl true) [.im (.str (ml w)), .im (.str (ml g)), .im d, .no]) := by
      unfold m_law_lets
      simp only [z_sseq, z_sset, z_sret, z_sif, z_snx, z_sbk, z_sct, z_sdrop, z_sasg, z_spar, z_sown, z_sfor, z_mop2, z_mc, z_mvar, z_MM_opt, z_MM_map, z_mcons, z_mnil, z_pnil, z_pcim, z_pcow, z_acim, z_acsl, z_anil, z_mif, z_mandB, z_morB, z_mnotB, z_mandV, z_morV, z_mnotV, z_mmeth, z_fmeth, z_fop2, z_mdr, z_mdrNe, z_mdrLen, z_mdrPop, z_sdr, z_mappend, z_mextend, z_mpopAt, z_mlenO, z_mnilO, z_msl, z_mcall, z_saug, z_mmethL, z_sdraws, z_mtrue, slots_nil, slots_im, slots_sl, argsE, updE, List.nodup_nil, List.nodup_cons, List.not_mem_nil, List.mem_singleton, not_false_eq_true, and_self, and_true, List.nil_append, List.append_nil, List.cons_append, mtg, Zf.setL, setsE, few, blD_b, truD_b, truD_i, truD_l, truD_t, intL_i, intL_b, seqD_l, seqD_t, seqD_s, seqD_c, negD_i, DS.at, DS.put, DS.row, addD_i, subD_i, eqD_i, neD_i, ltD_i, leD_i, gtD_i, geD_i, eqD_s, neD_s, out_l, out_d, okS_s, okW_nil, okW_cons, okM_no, okM_im, okM_mf, okM_mt, okN_no, okN_im, okN_mu, wipeE, List.all_cons, List.all_nil, Bool.and_true, Bool.true_and, Bool.and_self, decide_true, decide_false, reduceIte, if_true, if_false, List.length_cons, List.length_nil, List.getElem?_cons_zero, List.getElem?_cons_succ, List.set_cons_zero, List.set_cons_succ, List.map_cons, List.map_nil, Bool.false_eq_true, Option.some.injEq, Bool.not_true, Bool.not_false, Nat.reduceAdd, Nat.reduceLT, Nat.reduceLeDiff, z_mpop0, intD_i, e0]
    exact fnM_rt (n := 4) (args := [.im (.str (ml w)), .im (.str (ml g)), .im d]) (m := m_law_lets) body
  · rw [decide_eq_false q0] at e0
    have st0 : (sif (MM.opt (mop2 eqD (mvar 0) (mvar 1)) blD) (sret (mc (.bl true))) (snx)) [.im (.str (ml w)), .im (.str (ml g)), .im d, .no] = some (.nx [.im (.str (ml w)), .im (.str (ml g)), .im d, .no]) := by simp only [z_sseq, z_sset, z_sret, z_sif, z_snx, z_sbk, z_sct, z_sdrop, z_sasg, z_spar, z_sown, z_sfor, z_mop2, z_mc, z_mvar, z_MM_opt, z_MM_map, z_mcons, z_mnil, z_pnil, z_pcim, z_pcow, z_acim, z_acsl, z_anil, z_mif, z_mandB, z_morB, z_mnotB, z_mandV, z_morV, z_mnotV, z_mmeth, z_fmeth, z_fop2, z_mdr, z_mdrNe, z_mdrLen, z_mdrPop, z_sdr, z_mappend, z_mextend, z_mpopAt, z_mlenO, z_mnilO, z_msl, z_mcall, z_saug, z_mmethL, z_sdraws, z_mtrue, slots_nil, slots_im, slots_sl, argsE, updE, List.nodup_nil, List.nodup_cons, List.not_mem_nil, List.mem_singleton, not_false_eq_true, and_self, and_true, List.nil_append, List.append_nil, List.cons_append, mtg, Zf.setL, setsE, few, blD_b, truD_b, truD_i, truD_l, truD_t, intL_i, intL_b, seqD_l, seqD_t, seqD_s, seqD_c, negD_i, DS.at, DS.put, DS.row, addD_i, subD_i, eqD_i, neD_i, ltD_i, leD_i, gtD_i, geD_i, eqD_s, neD_s, out_l, out_d, okS_s, okW_nil, okW_cons, okM_no, okM_im, okM_mf, okM_mt, okN_no, okN_im, okN_mu, wipeE, List.all_cons, List.all_nil, Bool.and_true, Bool.true_and, Bool.and_self, decide_true, decide_false, reduceIte, if_true, if_false, List.length_cons, List.length_nil, List.getElem?_cons_zero, List.getElem?_cons_succ, List.set_cons_zero, List.set_cons_succ, List.map_cons, List.map_nil, Bool.false_eq_true, Option.some.injEq, Bool.not_true, Bool.not_false, Nat.reduceAdd, Nat.reduceLT, Nat.reduceLeDiff, z_mpop0, intD_i, e0]
    have tl := test_law w g hw.1 hg.1
    have f1 : few [.str (ml w), .str (ml g)] = some [.str (ml w), .str (ml g)] := rfl
    have f2 : few [.str ("1\n" : Str), .str ("True\n" : Str)] = some [.str ("1\n" : Str), .str ("True\n" : Str)] := rfl
    have f3 : few [.str ("0\n" : Str), .str ("False\n" : Str)] = some [.str ("0\n" : Str), .str ("False\n" : Str)] := rfl
    have f4 : few [.tup [.str ("1\n" : Str), .str ("True\n" : Str)], .tup [.str ("0\n" : Str), .str ("False\n" : Str)]] = some [.tup [.str ("1\n" : Str), .str ("True\n" : Str)], .tup [.str ("0\n" : Str), .str ("False\n" : Str)]] := rfl
    have tt : (mandB (MM.opt (mop2 ninD (mc (.str "DONT_ACCEPT_TRUE_FOR_1")) (mvar 2)) blD) (MM.opt (mop2 inTD (MM.map (MM.opt (mcons (mvar 0) (mcons (mvar 1) (mnil))) few) .tup) (MM.map (MM.opt (mcons (MM.map (MM.opt (mcons (mc (.str "1\n")) (mcons (mc (.str "True\n")) (mnil))) few) .tup) (mcons (MM.map (MM.opt (mcons (mc (.str "0\n")) (mcons (mc (.str "False\n")) (mnil))) few) .tup) (mnil))) few) .tup)) blD)) [.im (.str (ml w)), .im (.str (ml g)), .im d, .no] = some (!decide (fT ∈ fs) && tp w g, [.im (.str (ml w)), .im (.str (ml g)), .im d, .no]) := by
      cases q1 : decide (fT ∈ fs) with
      | true =>
        rw [q1] at eT
        simp only [z_sseq, z_sset, z_sret, z_sif, z_snx, z_sbk, z_sct, z_sdrop, z_sasg, z_spar, z_sown, z_sfor, z_mop2, z_mc, z_mvar, z_MM_opt, z_MM_map, z_mcons, z_mnil, z_pnil, z_pcim, z_pcow, z_acim, z_acsl, z_anil, z_mif, z_mandB, z_morB, z_mnotB, z_mandV, z_morV, z_mnotV, z_mmeth, z_fmeth, z_fop2, z_mdr, z_mdrNe, z_mdrLen, z_mdrPop, z_sdr, z_mappend, z_mextend, z_mpopAt, z_mlenO, z_mnilO, z_msl, z_mcall, z_saug, z_mmethL, z_sdraws, z_mtrue, slots_nil, slots_im, slots_sl, argsE, updE, List.nodup_nil, List.nodup_cons, List.not_mem_nil, List.mem_singleton, not_false_eq_true, and_self, and_true, List.nil_append, List.append_nil, List.cons_append, mtg, Zf.setL, setsE, few, blD_b, truD_b, truD_i, truD_l, truD_t, intL_i, intL_b, seqD_l, seqD_t, seqD_s, seqD_c, negD_i, DS.at, DS.put, DS.row, addD_i, subD_i, eqD_i, neD_i, ltD_i, leD_i, gtD_i, geD_i, eqD_s, neD_s, out_l, out_d, okS_s, okW_nil, okW_cons, okM_no, okM_im, okM_mf, okM_mt, okN_no, okN_im, okN_mu, wipeE, List.all_cons, List.all_nil, Bool.and_true, Bool.true_and, Bool.and_self, decide_true, decide_false, reduceIte, if_true, if_false, List.length_cons, List.length_nil, List.getElem?_cons_zero, List.getElem?_cons_succ, List.set_cons_zero, List.set_cons_succ, List.map_cons, List.map_nil, Bool.false_eq_true, Option.some.injEq, Bool.not_true, Bool.not_false, Nat.reduceAdd, Nat.reduceLT, Nat.reduceLeDiff, z_mpop0, intD_i, eT, Bool.false_and]
      | false =>
        rw [q1] at eT
        simp only [z_sseq, z_sset, z_sret, z_sif, z_snx, z_sbk, z_sct, z_sdrop, z_sasg, z_spar, z_sown, z_sfor, z_mop2, z_mc, z_mvar, z_MM_opt, z_MM_map, z_mcons, z_mnil, z_pnil, z_pcim, z_pcow, z_acim, z_acsl, z_anil, z_mif, z_mandB, z_morB, z_mnotB, z_mandV, z_morV, z_mnotV, z_mmeth, z_fmeth, z_fop2, z_mdr, z_mdrNe, z_mdrLen, z_mdrPop, z_sdr, z_mappend, z_mextend, z_mpopAt, z_mlenO, z_mnilO, z_msl, z_mcall, z_saug, z_mmethL, z_sdraws, z_mtrue, slots_nil, slots_im, slots_sl, argsE, updE, List.nodup_nil, List.nodup_cons, List.not_mem_nil, List.mem_singleton, not_false_eq_true, and_self, and_true, List.nil_append, List.append_nil, List.cons_append, mtg, Zf.setL, setsE, few, blD_b, truD_b, truD_i, truD_l, truD_t, intL_i, intL_b, seqD_l, seqD_t, seqD_s, seqD_c, negD_i, DS.at, DS.put, DS.row, addD_i, subD_i, eqD_i, neD_i, ltD_i, leD_i, gtD_i, geD_i, eqD_s, neD_s, out_l, out_d, okS_s, okW_nil, okW_cons, okM_no, okM_im, okM_mf, okM_mt, okN_no, okN_im, okN_mu, wipeE, List.all_cons, List.all_nil, Bool.and_true, Bool.true_and, Bool.and_self, decide_true, decide_false, reduceIte, if_true, if_false, List.length_cons, List.length_nil, List.getElem?_cons_zero, List.getElem?_cons_succ, List.set_cons_zero, List.set_cons_succ, List.map_cons, List.map_nil, Bool.false_eq_true, Option.some.injEq, Bool.not_true, Bool.not_false, Nat.reduceAdd, Nat.reduceLT, Nat.reduceLeDiff, z_mpop0, intD_i, eT, f1, f2, f3, f4, tl]
    by_cases q1 : (!decide (fT ∈ fs) && tp w g) = true
    · rw [q1] at tt
      refine ⟨true, .im (.str (ml w)), .im (.str (ml g)), ⟨fun _ => ?_, fun _ => rfl⟩, ?_⟩
      · rw [Bool.and_eq_true, Bool.not_eq_true', decide_eq_false_iff_not] at q1
        exact .inr (.inl q1)
      · have body : m_law_lets [.im (.str (ml w)), .im (.str (ml g)), .im d, .no] = some (.rt (.bl true) [.im (.str (ml w)), .im (.str (ml g)), .im d, .no]) := by
          unfold m_law_lets
          refine sseq_nx st0 ?_
          unfold sseq
          rw [sif_t tt]
          rfl
        exact fnM_rt (n := 4) (args := [.im (.str (ml w)), .im (.str (ml g)), .im d]) (m := m_law_lets) body
    · have q1' : (!decide (fT ∈ fs) && tp w g) = false := by simpa using q1
      rw [q1'] at tt
      have hL : letsP fs w g ↔ endP fs (nA fs (wA fs w)) (nA fs (gA fs g)) := by
        unfold letsP
        constructor
        · rintro (h | ⟨h1, h2⟩ | h)
          · exact absurd h q0
          · rw [decide_eq_false h1, h2] at q1'; cases q1'
          · exact h
        · exact fun h => .inr (.inr h)
      have hw1 := gt_wA fs hw
      have hg1 := gt_gA fs hg
      have st1 : (sif (MM.opt (mop2 ninD (mc (.str "DONT_ACCEPT_BLANKLINE")) (mvar 2)) blD) (spar [0, 1] (pcim (mcall F_law_cleared [] (acim (mvar 0) (acim (mc (.bl true)) (anil)))) (pcim (mcall F_law_cleared [] (acim (mvar 1) (acim (mc (.bl false)) (anil)))) (pnil)))) (snx)) [.im (.str (ml w)), .im (.str (ml g)), .im d, .no] = some (.nx [.im (.str (ml (wA fs w))), .im (.str (ml (gA fs g))), .im d, .no]) := by
        have c1 := law_cleared_ok w true (by have := hw.2.2; omega) hw.1
        have c2 := law_cleared_ok g false (by have := hg.2.2; omega) hg.1
        have c1 : F_law_cleared [.im (.str (ml w)), .im (.bl true)] = some (.str (ml (cld clw w)), [.im (.str (ml w)), .im (.bl true)]) := c1
        have c2 : F_law_cleared [.im (.str (ml g)), .im (.bl false)] = some (.str (ml (cld clg g)), [.im (.str (ml g)), .im (.bl false)]) := c2
        unfold wA gA
        by_cases q : fB_ ∈ fs
        · rw [decide_eq_true q] at eB
          rw [if_pos q, if_pos q]
          simp only [z_sseq, z_sset, z_sret, z_sif, z_snx, z_sbk, z_sct, z_sdrop, z_sasg, z_spar, z_sown, z_sfor, z_mop2, z_mc, z_mvar, z_MM_opt, z_MM_map, z_mcons, z_mnil, z_pnil, z_pcim, z_pcow, z_acim, z_acsl, z_anil, z_mif, z_mandB, z_morB, z_mnotB, z_mandV, z_morV, z_mnotV, z_mmeth, z_fmeth, z_fop2, z_mdr, z_mdrNe, z_mdrLen, z_mdrPop, z_sdr, z_mappend, z_mextend, z_mpopAt, z_mlenO, z_mnilO, z_msl, z_mcall, z_saug, z_mmethL, z_sdraws, z_mtrue, slots_nil, slots_im, slots_sl, argsE, updE, List.nodup_nil, List.nodup_cons, List.not_mem_nil, List.mem_singleton, not_false_eq_true, and_self, and_true, List.nil_append, List.append_nil, List.cons_append, mtg, Zf.setL, setsE, few, blD_b, truD_b, truD_i, truD_l, truD_t, intL_i, intL_b, seqD_l, seqD_t, seqD_s, seqD_c, negD_i, DS.at, DS.put, DS.row, addD_i, subD_i, eqD_i, neD_i, ltD_i, leD_i, gtD_i, geD_i, eqD_s, neD_s, out_l, out_d, okS_s, okW_nil, okW_cons, okM_no, okM_im, okM_mf, okM_mt, okN_no, okN_im, okN_mu, wipeE, List.all_cons, List.all_nil, Bool.and_true, Bool.true_and, Bool.and_self, decide_true, decide_false, reduceIte, if_true, if_false, List.length_cons, List.length_nil, List.getElem?_cons_zero, List.getElem?_cons_succ, List.set_cons_zero, List.set_cons_succ, List.map_cons, List.map_nil, Bool.false_eq_true, Option.some.injEq, Bool.not_true, Bool.not_false, Nat.reduceAdd, Nat.reduceLT, Nat.reduceLeDiff, z_mpop0, intD_i, eB]
        · rw [decide_eq_false q] at eB
          rw [if_neg q, if_neg q]
          simp only [z_sseq, z_sset, z_sret, z_sif, z_snx, z_sbk, z_sct, z_sdrop, z_sasg, z_spar, z_sown, z_sfor, z_mop2, z_mc, z_mvar, z_MM_opt, z_MM_map, z_mcons, z_mnil, z_pnil, z_pcim, z_pcow, z_acim, z_acsl, z_anil, z_mif, z_mandB, z_morB, z_mnotB, z_mandV, z_morV, z_mnotV, z_mmeth, z_fmeth, z_fop2, z_mdr, z_mdrNe, z_mdrLen, z_mdrPop, z_sdr, z_mappend, z_mextend, z_mpopAt, z_mlenO, z_mnilO, z_msl, z_mcall, z_saug, z_mmethL, z_sdraws, z_mtrue, slots_nil, slots_im, slots_sl, argsE, updE, List.nodup_nil, List.nodup_cons, List.not_mem_nil, List.mem_singleton, not_false_eq_true, and_self, and_true, List.nil_append, List.append_nil, List.cons_append, mtg, Zf.setL, setsE, few, blD_b, truD_b, truD_i, truD_l, truD_t, intL_i, intL_b, seqD_l, seqD_t, seqD_s, seqD_c, negD_i, DS.at, DS.put, DS.row, addD_i, subD_i, eqD_i, neD_i, ltD_i, leD_i, gtD_i, geD_i, eqD_s, neD_s, out_l, out_d, okS_s, okW_nil, okW_cons, okM_no, okM_im, okM_mf, okM_mt, okN_no, okN_im, okN_mu, wipeE, List.all_cons, List.all_nil, Bool.and_true, Bool.true_and, Bool.and_self, decide_true, decide_false, reduceIte, if_true, if_false, List.length_cons, List.length_nil, List.getElem?_cons_zero, List.getElem?_cons_succ, List.set_cons_zero, List.set_cons_succ, List.map_cons, List.map_nil, Bool.false_eq_true, Option.some.injEq, Bool.not_true, Bool.not_false, Nat.reduceAdd, Nat.reduceLT, Nat.reduceLeDiff, z_mpop0, intD_i, eB, c1, c2]
      obtain ⟨w1, hw1e⟩ : ∃ w1, w1 = wA fs w := ⟨_, rfl⟩
      obtain ⟨g1, hg1e⟩ : ∃ g1, g1 = gA fs g := ⟨_, rfl⟩
      rw [← hw1e] at st1 hw1 hL
      rw [← hg1e] at st1 hg1 hL
      have hw2 := gt_nA fs hw1
      have hg2 := gt_nA fs hg1
      have st2 : (sif (MM.opt (mop2 inD (mc (.str "NORMALIZE_WHITESPACE")) (mvar 2)) blD) (spar [0, 1] (pcim (mcall F_law_words [] (acim (mvar 0) (anil))) (pcim (mcall F_law_words [] (acim (mvar 1) (anil))) (pnil)))) (snx)) [.im (.str (ml w1)), .im (.str (ml g1)), .im d, .no] = some (.nx [.im (.str (ml (nA fs w1))), .im (.str (ml (nA fs g1))), .im d, .no]) := by
        have c1 := law_words_ok w1 (by have := hw1.2.2; omega)
        have c2 := law_words_ok g1 (by have := hg1.2.2; omega)
        unfold nA
        by_cases q : fN ∈ fs
        · rw [decide_eq_true q] at eN
          rw [if_pos q, if_pos q]
          simp only [z_sseq, z_sset, z_sret, z_sif, z_snx, z_sbk, z_sct, z_sdrop, z_sasg, z_spar, z_sown, z_sfor, z_mop2, z_mc, z_mvar, z_MM_opt, z_MM_map, z_mcons, z_mnil, z_pnil, z_pcim, z_pcow, z_acim, z_acsl, z_anil, z_mif, z_mandB, z_morB, z_mnotB, z_mandV, z_morV, z_mnotV, z_mmeth, z_fmeth, z_fop2, z_mdr, z_mdrNe, z_mdrLen, z_mdrPop, z_sdr, z_mappend, z_mextend, z_mpopAt, z_mlenO, z_mnilO, z_msl, z_mcall, z_saug, z_mmethL, z_sdraws, z_mtrue, slots_nil, slots_im, slots_sl, argsE, updE, List.nodup_nil, List.nodup_cons, List.not_mem_nil, List.mem_singleton, not_false_eq_true, and_self, and_true, List.nil_append, List.append_nil, List.cons_append, mtg, Zf.setL, setsE, few, blD_b, truD_b, truD_i, truD_l, truD_t, intL_i, intL_b, seqD_l, seqD_t, seqD_s, seqD_c, negD_i, DS.at, DS.put, DS.row, addD_i, subD_i, eqD_i, neD_i, ltD_i, leD_i, gtD_i, geD_i, eqD_s, neD_s, out_l, out_d, okS_s, okW_nil, okW_cons, okM_no, okM_im, okM_mf, okM_mt, okN_no, okN_im, okN_mu, wipeE, List.all_cons, List.all_nil, Bool.and_true, Bool.true_and, Bool.and_self, decide_true, decide_false, reduceIte, if_true, if_false, List.length_cons, List.length_nil, List.getElem?_cons_zero, List.getElem?_cons_succ, List.set_cons_zero, List.set_cons_succ, List.map_cons, List.map_nil, Bool.false_eq_true, Option.some.injEq, Bool.not_true, Bool.not_false, Nat.reduceAdd, Nat.reduceLT, Nat.reduceLeDiff, z_mpop0, intD_i, eN, c1, c2]
        · rw [decide_eq_false q] at eN
          rw [if_neg q, if_neg q]
          simp only [z_sseq, z_sset, z_sret, z_sif, z_snx, z_sbk, z_sct, z_sdrop, z_sasg, z_spar, z_sown, z_sfor, z_mop2, z_mc, z_mvar, z_MM_opt, z_MM_map, z_mcons, z_mnil, z_pnil, z_pcim, z_pcow, z_acim, z_acsl, z_anil, z_mif, z_mandB, z_morB, z_mnotB, z_mandV, z_morV, z_mnotV, z_mmeth, z_fmeth, z_fop2, z_mdr, z_mdrNe, z_mdrLen, z_mdrPop, z_sdr, z_mappend, z_mextend, z_mpopAt, z_mlenO, z_mnilO, z_msl, z_mcall, z_saug, z_mmethL, z_sdraws, z_mtrue, slots_nil, slots_im, slots_sl, argsE, updE, List.nodup_nil, List.nodup_cons, List.not_mem_nil, List.mem_singleton, not_false_eq_true, and_self, and_true, List.nil_append, List.append_nil, List.cons_append, mtg, Zf.setL, setsE, few, blD_b, truD_b, truD_i, truD_l, truD_t, intL_i, intL_b, seqD_l, seqD_t, seqD_s, seqD_c, negD_i, DS.at, DS.put, DS.row, addD_i, subD_i, eqD_i, neD_i, ltD_i, leD_i, gtD_i, geD_i, eqD_s, neD_s, out_l, out_d, okS_s, okW_nil, okW_cons, okM_no, okM_im, okM_mf, okM_mt, okN_no, okN_im, okN_mu, wipeE, List.all_cons, List.all_nil, Bool.and_true, Bool.true_and, Bool.and_self, decide_true, decide_false, reduceIte, if_true, if_false, List.length_cons, List.length_nil, List.getElem?_cons_zero, List.getElem?_cons_succ, List.set_cons_zero, List.set_cons_succ, List.map_cons, List.map_nil, Bool.false_eq_true, Option.some.injEq, Bool.not_true, Bool.not_false, Nat.reduceAdd, Nat.reduceLT, Nat.reduceLeDiff, z_mpop0, intD_i, eN]
      obtain ⟨w2, hw2e⟩ : ∃ w2, w2 = nA fs w1 := ⟨_, rfl⟩
      obtain ⟨g2, hg2e⟩ : ∃ g2, g2 = nA fs g1 := ⟨_, rfl⟩
      rw [← hw2e] at st2 hw2 hL
      rw [← hg2e] at st2 hg2 hL
      have st3 : (sset 3 (mif (MM.opt (mop2 inD (mc (.str "ELLIPSIS")) (mvar 2)) blD) (mcall F_law_pieces [] (acim (mvar 0) (anil))) (MM.map (MM.opt (mcons (mvar 0) (mnil)) few) .lst))) [.im (.str (ml w2)), .im (.str (ml g2)), .im d, .no] = some (.nx [.im (.str (ml w2)), .im (.str (ml g2)), .im d, .im (.lst (dlS (pA fs w2)))]) := by
        have c1 := law_pieces_ok w2 (by have := hw2.2.2; omega)
        have hf : few [.str (ml w2)] = some [.str (ml w2)] := rfl
        unfold pA
        by_cases q : fE ∈ fs
        · rw [decide_eq_true q] at eE
          rw [if_pos q]
          simp only [z_sseq, z_sset, z_sret, z_sif, z_snx, z_sbk, z_sct, z_sdrop, z_sasg, z_spar, z_sown, z_sfor, z_mop2, z_mc, z_mvar, z_MM_opt, z_MM_map, z_mcons, z_mnil, z_pnil, z_pcim, z_pcow, z_acim, z_acsl, z_anil, z_mif, z_mandB, z_morB, z_mnotB, z_mandV, z_morV, z_mnotV, z_mmeth, z_fmeth, z_fop2, z_mdr, z_mdrNe, z_mdrLen, z_mdrPop, z_sdr, z_mappend, z_mextend, z_mpopAt, z_mlenO, z_mnilO, z_msl, z_mcall, z_saug, z_mmethL, z_sdraws, z_mtrue, slots_nil, slots_im, slots_sl, argsE, updE, List.nodup_nil, List.nodup_cons, List.not_mem_nil, List.mem_singleton, not_false_eq_true, and_self, and_true, List.nil_append, List.append_nil, List.cons_append, mtg, Zf.setL, setsE, few, blD_b, truD_b, truD_i, truD_l, truD_t, intL_i, intL_b, seqD_l, seqD_t, seqD_s, seqD_c, negD_i, DS.at, DS.put, DS.row, addD_i, subD_i, eqD_i, neD_i, ltD_i, leD_i, gtD_i, geD_i, eqD_s, neD_s, out_l, out_d, okS_s, okW_nil, okW_cons, okM_no, okM_im, okM_mf, okM_mt, okN_no, okN_im, okN_mu, wipeE, List.all_cons, List.all_nil, Bool.and_true, Bool.true_and, Bool.and_self, decide_true, decide_false, reduceIte, if_true, if_false, List.length_cons, List.length_nil, List.getElem?_cons_zero, List.getElem?_cons_succ, List.set_cons_zero, List.set_cons_succ, List.map_cons, List.map_nil, Bool.false_eq_true, Option.some.injEq, Bool.not_true, Bool.not_false, Nat.reduceAdd, Nat.reduceLT, Nat.reduceLeDiff, z_mpop0, intD_i, eE, c1]
        · rw [decide_eq_false q] at eE
          rw [if_neg q]
          simp only [z_sseq, z_sset, z_sret, z_sif, z_snx, z_sbk, z_sct, z_sdrop, z_sasg, z_spar, z_sown, z_sfor, z_mop2, z_mc, z_mvar, z_MM_opt, z_MM_map, z_mcons, z_mnil, z_pnil, z_pcim, z_pcow, z_acim, z_acsl, z_anil, z_mif, z_mandB, z_morB, z_mnotB, z_mandV, z_morV, z_mnotV, z_mmeth, z_fmeth, z_fop2, z_mdr, z_mdrNe, z_mdrLen, z_mdrPop, z_sdr, z_mappend, z_mextend, z_mpopAt, z_mlenO, z_mnilO, z_msl, z_mcall, z_saug, z_mmethL, z_sdraws, z_mtrue, slots_nil, slots_im, slots_sl, argsE, updE, List.nodup_nil, List.nodup_cons, List.not_mem_nil, List.mem_singleton, not_false_eq_true, and_self, and_true, List.nil_append, List.append_nil, List.cons_append, mtg, Zf.setL, setsE, few, blD_b, truD_b, truD_i, truD_l, truD_t, intL_i, intL_b, seqD_l, seqD_t, seqD_s, seqD_c, negD_i, DS.at, DS.put, DS.row, addD_i, subD_i, eqD_i, neD_i, ltD_i, leD_i, gtD_i, geD_i, eqD_s, neD_s, out_l, out_d, okS_s, okW_nil, okW_cons, okM_no, okM_im, okM_mf, okM_mt, okN_no, okN_im, okN_mu, wipeE, List.all_cons, List.all_nil, Bool.and_true, Bool.true_and, Bool.and_self, decide_true, decide_false, reduceIte, if_true, if_false, List.length_cons, List.length_nil, List.getElem?_cons_zero, List.getElem?_cons_succ, List.set_cons_zero, List.set_cons_succ, List.map_cons, List.map_nil, Bool.false_eq_true, Option.some.injEq, Bool.not_true, Bool.not_false, Nat.reduceAdd, Nat.reduceLT, Nat.reduceLeDiff, z_mpop0, intD_i, eE, hf]
          rfl
      have e0 := eq_ml w2 g2
      have l3 : lenL [.lst (dlS (pA fs w2))] = some (.int ((pA fs w2).length : Int)) := by
        show some (D.int ((dlS (pA fs w2)).length : Int)) = _
        rw [dlS_len]
      have fin : ∃ b : Bool, (b = true ↔ endP fs w2 g2) ∧ (sret (morV (mop2 eqD (mvar 0) (mvar 1)) (mandV (mop2 gtD (MM.opt (mcons (mvar 3) (mnil)) lenL) (mc (.int 1))) (mcall F_law_fits [] (acim (mvar 3) (acim (mvar 1) (anil))))))) [.im (.str (ml w2)), .im (.str (ml g2)), .im d, .im (.lst (dlS (pA fs w2)))] = some (.rt (.bl b) [.im (.str (ml w2)), .im (.str (ml g2)), .im d, .im (.lst (dlS (pA fs w2)))]) := by
        by_cases q : w2 = g2
        · rw [decide_eq_true q] at e0
          exact ⟨true, ⟨fun _ => .inl q, fun _ => rfl⟩, by simp only [z_sseq, z_sset, z_sret, z_sif, z_snx, z_sbk, z_sct, z_sdrop, z_sasg, z_spar, z_sown, z_sfor, z_mop2, z_mc, z_mvar, z_MM_opt, z_MM_map, z_mcons, z_mnil, z_pnil, z_pcim, z_pcow, z_acim, z_acsl, z_anil, z_mif, z_mandB, z_morB, z_mnotB, z_mandV, z_morV, z_mnotV, z_mmeth, z_fmeth, z_fop2, z_mdr, z_mdrNe, z_mdrLen, z_mdrPop, z_sdr, z_mappend, z_mextend, z_mpopAt, z_mlenO, z_mnilO, z_msl, z_mcall, z_saug, z_mmethL, z_sdraws, z_mtrue, slots_nil, slots_im, slots_sl, argsE, updE, List.nodup_nil, List.nodup_cons, List.not_mem_nil, List.mem_singleton, not_false_eq_true, and_self, and_true, List.nil_append, List.append_nil, List.cons_append, mtg, Zf.setL, setsE, few, blD_b, truD_b, truD_i, truD_l, truD_t, intL_i, intL_b, seqD_l, seqD_t, seqD_s, seqD_c, negD_i, DS.at, DS.put, DS.row, addD_i, subD_i, eqD_i, neD_i, ltD_i, leD_i, gtD_i, geD_i, eqD_s, neD_s, out_l, out_d, okS_s, okW_nil, okW_cons, okM_no, okM_im, okM_mf, okM_mt, okN_no, okN_im, okN_mu, wipeE, List.all_cons, List.all_nil, Bool.and_true, Bool.true_and, Bool.and_self, decide_true, decide_false, reduceIte, if_true, if_false, List.length_cons, List.length_nil, List.getElem?_cons_zero, List.getElem?_cons_succ, List.set_cons_zero, List.set_cons_succ, List.map_cons, List.map_nil, Bool.false_eq_true, Option.some.injEq, Bool.not_true, Bool.not_false, Nat.reduceAdd, Nat.reduceLT, Nat.reduceLeDiff, z_mpop0, intD_i, e0]⟩
        · rw [decide_eq_false q] at e0
          by_cases q1 : 1 < (pA fs w2).length
          · have e1 : decide ((1 : Int) < ((pA fs w2).length : Int)) = true := decide_eq_true (by omega)
            have hpb : ∀ p ∈ pA fs w2, p.length ≤ 90000 := fun p hp => by
              unfold pA at hp
              split at hp
              · have := pcs_mem hp
                have := hw2.2.2
                omega
              · rw [List.mem_singleton.mp hp]
                have := hw2.2.2
                omega
            obtain ⟨p0, mid, pl, hp⟩ := two_split q1
            obtain ⟨b, hb, hF⟩ := law_fits_ok g2 p0 (mid ++ [pl]) (by simp) (by have := hg2.2.2; omega) (hpb p0 (by rw [hp]; simp)) (fun p hpm => hpb p (by rw [hp]; exact List.mem_cons_of_mem _ hpm))
            rw [← hp] at hb hF
            refine ⟨b, ?_, by simp only [z_sseq, z_sset, z_sret, z_sif, z_snx, z_sbk, z_sct, z_sdrop, z_sasg, z_spar, z_sown, z_sfor, z_mop2, z_mc, z_mvar, z_MM_opt, z_MM_map, z_mcons, z_mnil, z_pnil, z_pcim, z_pcow, z_acim, z_acsl, z_anil, z_mif, z_mandB, z_morB, z_mnotB, z_mandV, z_morV, z_mnotV, z_mmeth, z_fmeth, z_fop2, z_mdr, z_mdrNe, z_mdrLen, z_mdrPop, z_sdr, z_mappend, z_mextend, z_mpopAt, z_mlenO, z_mnilO, z_msl, z_mcall, z_saug, z_mmethL, z_sdraws, z_mtrue, slots_nil, slots_im, slots_sl, argsE, updE, List.nodup_nil, List.nodup_cons, List.not_mem_nil, List.mem_singleton, not_false_eq_true, and_self, and_true, List.nil_append, List.append_nil, List.cons_append, mtg, Zf.setL, setsE, few, blD_b, truD_b, truD_i, truD_l, truD_t, intL_i, intL_b, seqD_l, seqD_t, seqD_s, seqD_c, negD_i, DS.at, DS.put, DS.row, addD_i, subD_i, eqD_i, neD_i, ltD_i, leD_i, gtD_i, geD_i, eqD_s, neD_s, out_l, out_d, okS_s, okW_nil, okW_cons, okM_no, okM_im, okM_mf, okM_mt, okN_no, okN_im, okN_mu, wipeE, List.all_cons, List.all_nil, Bool.and_true, Bool.true_and, Bool.and_self, decide_true, decide_false, reduceIte, if_true, if_false, List.length_cons, List.length_nil, List.getElem?_cons_zero, List.getElem?_cons_succ, List.set_cons_zero, List.set_cons_succ, List.map_cons, List.map_nil, Bool.false_eq_true, Option.some.injEq, Bool.not_true, Bool.not_false, Nat.reduceAdd, Nat.reduceLT, Nat.reduceLeDiff, z_mpop0, intD_i, e0, l3, e1, hF]⟩
            rw [hb]
            exact ⟨fun h => .inr ⟨q1, h⟩, fun h => by
              rcases h with h | h
              · exact absurd h q
              · exact h.2⟩
          · have e1 : decide ((1 : Int) < ((pA fs w2).length : Int)) = false := decide_eq_false (by omega)
            refine ⟨false, ⟨fun h => (by cases h), fun h => ?_⟩, by simp only [z_sseq, z_sset, z_sret, z_sif, z_snx, z_sbk, z_sct, z_sdrop, z_sasg, z_spar, z_sown, z_sfor, z_mop2, z_mc, z_mvar, z_MM_opt, z_MM_map, z_mcons, z_mnil, z_pnil, z_pcim, z_pcow, z_acim, z_acsl, z_anil, z_mif, z_mandB, z_morB, z_mnotB, z_mandV, z_morV, z_mnotV, z_mmeth, z_fmeth, z_fop2, z_mdr, z_mdrNe, z_mdrLen, z_mdrPop, z_sdr, z_mappend, z_mextend, z_mpopAt, z_mlenO, z_mnilO, z_msl, z_mcall, z_saug, z_mmethL, z_sdraws, z_mtrue, slots_nil, slots_im, slots_sl, argsE, updE, List.nodup_nil, List.nodup_cons, List.not_mem_nil, List.mem_singleton, not_false_eq_true, and_self, and_true, List.nil_append, List.append_nil, List.cons_append, mtg, Zf.setL, setsE, few, blD_b, truD_b, truD_i, truD_l, truD_t, intL_i, intL_b, seqD_l, seqD_t, seqD_s, seqD_c, negD_i, DS.at, DS.put, DS.row, addD_i, subD_i, eqD_i, neD_i, ltD_i, leD_i, gtD_i, geD_i, eqD_s, neD_s, out_l, out_d, okS_s, okW_nil, okW_cons, okM_no, okM_im, okM_mf, okM_mt, okN_no, okN_im, okN_mu, wipeE, List.all_cons, List.all_nil, Bool.and_true, Bool.true_and, Bool.and_self, decide_true, decide_false, reduceIte, if_true, if_false, List.length_cons, List.length_nil, List.getElem?_cons_zero, List.getElem?_cons_succ, List.set_cons_zero, List.set_cons_succ, List.map_cons, List.map_nil, Bool.false_eq_true, Option.some.injEq, Bool.not_true, Bool.not_false, Nat.reduceAdd, Nat.reduceLT, Nat.reduceLeDiff, z_mpop0, intD_i, e0, l3, e1]⟩
            rcases h with h | h
            · exact absurd h q
            · exact absurd h.1 q1
      obtain ⟨b, hb, hF⟩ := fin
      refine ⟨b, .im (.str (ml w2)), .im (.str (ml g2)), hb.trans hL.symm, ?_⟩
      have st01 := (sif_f (a := sret (mc (.bl true))) (b := snx) tt).trans (rfl : _ = some (Out.nx [.im (.str (ml w)), .im (.str (ml g)), .im d, .no]))
      have body : m_law_lets [.im (.str (ml w)), .im (.str (ml g)), .im d, .no] = some (.rt (.bl b) [.im (.str (ml w2)), .im (.str (ml g2)), .im d, .im (.lst (dlS (pA fs w2)))]) := by
        unfold m_law_lets
        exact sseq_nx st0 (sseq_nx st01 (sseq_nx st1 (sseq_nx st2 (sseq_nx st3 hF))))
      exact fnM_rt (n := 4) (args := [.im (.str (ml w)), .im (.str (ml g)), .im d]) (m := m_law_lets) body
end Zz

set_option Elab.async false
set_option linter.all false
set_option maxRecDepth 100000
set_option maxHeartbeats 1000000
/-! tools for the laws: drawn texts -/
namespace Zz
open PySem PySem.Spec L2 Zf
/-- a good text of at most so many signs -/
def GTn (n : Nat) (l : List Nat) : Prop := GoodL l ∧ OkB l ∧ l.length ≤ n
def gtB (n : Nat) (z : Str) : Bool := z.cps.toList.all (fun c => decide (c < 0x110000) && (Unicode.isSpace c == wb c)) && decide (z.length ≤ n)
theorem gt_of {n : Nat} {z : Str} (h : gtB n z = true) : GTn n z.cps.toList := by
  unfold gtB at h
  rw [Bool.and_eq_true, List.all_eq_true, decide_eq_true_eq] at h
  refine ⟨fun c hc => ?_, fun c hc => ?_, by rw [ls_len]; exact h.2⟩
  · have := h.1 c hc
    rw [Bool.and_eq_true] at this
    exact of_decide_eq_true this.1
  · have := h.1 c hc
    rw [Bool.and_eq_true] at this
    exact beq_iff_eq.mp this.2
theorem GTn.gt {n : Nat} {l : List Nat} (h : GTn n l) (hn : n ≤ 80000) : GT l := ⟨h.1, h.2.1, by have := h.2.2; omega⟩
theorem GTn.le {n m : Nat} {l : List Nat} (h : GTn n l) (hn : n ≤ m) : GTn m l := ⟨h.1, h.2.1, by have := h.2.2; omega⟩
theorem GTn.app {n m : Nat} {a b : List Nat} (h : GTn n a) (k : GTn m b) : GTn (n + m) (a ++ b) := by
  refine ⟨fun c hc => ?_, fun c hc => ?_, by rw [List.length_append]; have := h.2.2; have := k.2.2; omega⟩
  · rcases List.mem_append.mp hc with hc | hc
    · exact h.1 c hc
    · exact k.1 c hc
  · rcases List.mem_append.mp hc with hc | hc
    · exact h.2.1 c hc
    · exact k.2.1 c hc
theorem GTn.sub {n : Nat} {a b : List Nat} (h : GTn n a) (k : ∀ c ∈ b, c ∈ a) (hl : b.length ≤ n) : GTn n b := ⟨fun c hc => h.1 c (k c hc), fun c hc => h.2.1 c (k c hc), hl⟩
theorem gt_nil : GTn 0 [] := ⟨fun _ h => (nomatch h), fun _ h => (nomatch h), Nat.le_refl _⟩
theorem gt_rep (n : Nat) : GTn n (List.replicate n 10) := ⟨fun c hc => by rw [List.eq_of_mem_replicate hc]; decide, fun c hc => by rw [List.eq_of_mem_replicate hc]; decide +kernel, by simp⟩
/-- what is drawn of texts that were looked over -/
theorem strs_of {n : Nat} {zs : List Str} (h : zs.all (gtB n) = true) {d : D} (hd : d ∈ zs.map D.str) : ∃ a : List Nat, d = .str (ml a) ∧ GTn n a := by
  obtain ⟨z, hz, rfl⟩ := List.mem_map.mp hd
  exact ⟨z.cps.toList, rfl, gt_of (List.all_eq_true.mp h z hz)⟩
def pD (p : Str × Str) : D := .tup [.str p.1, .str p.2]
theorem pairs_of {n : Nat} {zs : List (Str × Str)} (h : zs.all (fun p => gtB n p.1 && gtB n p.2) = true) {d : D} (hd : d ∈ zs.map pD) : ∃ a b : List Nat, d = .tup [.str (ml a), .str (ml b)] ∧ GTn n a ∧ GTn n b := by
  obtain ⟨z, hz, rfl⟩ := List.mem_map.mp hd
  have := List.all_eq_true.mp h z hz
  rw [Bool.and_eq_true] at this
  exact ⟨z.1.cps.toList, z.2.cps.toList, rfl, gt_of this.1, gt_of this.2⟩
theorem dok_le {s : DS} {c c' : Int} (h : DOk s c) (hc : c ≤ c') : DOk s c' := ⟨h.1, Int.le_trans h.2.1 hc, h.2.2⟩
/-! comprehensions over pairs, that only read -/
theorem lcL_t2 {i j : Nat} {me : MM D} {e : En} (hi : e[i]? = some .no) (hj : e[j]? = some .no) (hij : i ≠ j) (f : D → D) : ∀ ds : List D, (∀ d ∈ ds, ∃ a b, d = .tup [a, b] ∧ me ((e.set i (.im a)).set j (.im b)) = some (f d, (e.set i (.im a)).set j (.im b))) → lcL (.tup [i, j]) [i, j] mtrue me ds e = some (ds.map f, e)
  | [], _ => rfl
  | d :: ds, h => by
    have hl := (List.getElem?_eq_some_iff.mp hi).1
    have hl2 := (List.getElem?_eq_some_iff.mp hj).1
    obtain ⟨a, b, rfl, h2⟩ := h d List.mem_cons_self
    have ih := lcL_t2 hi hj hij f ds (fun x hx => h x (List.mem_cons_of_mem _ hx))
    have ho : okS e i = true := by rw [okS_s, hi]; rfl
    have ho2 : okS (e.set i (.im a)) j = true := by rw [okS_s, List.getElem?_set_ne hij, hj]; rfl
    have ht : mtg (.tup [i, j]) (.tup [a, b]) e = some ((e.set i (.im a)).set j (.im b)) := by
      simp only [mtg, Zf.setL, if_pos ho, if_pos ho2]
    have hw : okW ((e.set i (.im a)).set j (.im b)) [i, j] = true := by
      rw [okW_cons, okW_cons, okW_nil, List.getElem?_set_self (by rw [List.length_set]; exact hl2), List.getElem?_set_ne hij.symm, List.getElem?_set_self hl]; rfl
    have hp : wipeE ((e.set i (.im a)).set j (.im b)) [i, j] = e := by
      show (((e.set i (.im a)).set j (.im b)).set j .no).set i .no = e
      rw [List.set_set, List.set_comm _ _ hij.symm, List.set_set]
      exact (by
        have h1 : e.set i .no = e := by
          have := set_no (s := .no) hi
          rw [List.set_set] at this
          exact this
        have h2 : e.set j .no = e := by
          have := set_no (s := .no) hj
          rw [List.set_set] at this
          exact this
        rw [h1, h2])
    have hm : mtrue ((e.set i (.im a)).set j (.im b)) = some (true, (e.set i (.im a)).set j (.im b)) := rfl
    simp only [lcL, ht, hm, h2, if_pos hw, hp, ih, List.map_cons]
theorem mlc_t2 {i j : Nat} {mi : MM (List D)} {me : MM D} {e e1 e2 : En} {ds : List D} (f : D → D) (hm : mi e = some (ds, e1)) (hn : ds.length ≤ 100000) (hw : okW e1 [i, j] = true) (hp : wipeE e1 [i, j] = e2) (hi : e2[i]? = some .no) (hj : e2[j]? = some .no) (hij : i ≠ j) (h : ∀ d ∈ ds, ∃ a b, d = .tup [a, b] ∧ me ((e2.set i (.im a)).set j (.im b)) = some (f d, (e2.set i (.im a)).set j (.im b))) :
    mlc (.tup [i, j]) [i, j] mi mtrue me e = some (ds.map f, e2) := by
  unfold mlc
  simp only [hm, if_pos (And.intro hn hw), hp, lcL_t2 hi hj hij f ds h]
theorem lcL_t3 {i j k : Nat} {me : MM D} {e : En} (hi : e[i]? = some .no) (hj : e[j]? = some .no) (hk : e[k]? = some .no) (hij : i ≠ j) (hik : i ≠ k) (hjk : j ≠ k) (f : D → D) : ∀ ds : List D, (∀ d ∈ ds, ∃ a b c, d = .tup [a, b, c] ∧ me (((e.set i (.im a)).set j (.im b)).set k (.im c)) = some (f d, ((e.set i (.im a)).set j (.im b)).set k (.im c))) → lcL (.tup [i, j, k]) [i, j, k] mtrue me ds e = some (ds.map f, e)
  | [], _ => rfl
  | d :: ds, h => by
    have hl := (List.getElem?_eq_some_iff.mp hi).1
    have hl2 := (List.getElem?_eq_some_iff.mp hj).1
    have hl3 := (List.getElem?_eq_some_iff.mp hk).1
    obtain ⟨a, b, c, rfl, h2⟩ := h d List.mem_cons_self
    have ih := lcL_t3 hi hj hk hij hik hjk f ds (fun x hx => h x (List.mem_cons_of_mem _ hx))
    have ho : okS e i = true := by rw [okS_s, hi]; rfl
    have ho2 : okS (e.set i (.im a)) j = true := by rw [okS_s, List.getElem?_set_ne hij, hj]; rfl
    have ho3 : okS ((e.set i (.im a)).set j (.im b)) k = true := by rw [okS_s, List.getElem?_set_ne hjk, List.getElem?_set_ne hik, hk]; rfl
    have ht : mtg (.tup [i, j, k]) (.tup [a, b, c]) e = some (((e.set i (.im a)).set j (.im b)).set k (.im c)) := by
      simp only [mtg, Zf.setL, if_pos ho, if_pos ho2, if_pos ho3]
    have hw : okW (((e.set i (.im a)).set j (.im b)).set k (.im c)) [i, j, k] = true := by
      rw [okW_cons, okW_cons, okW_cons, okW_nil, List.getElem?_set_self (by rw [List.length_set, List.length_set]; exact hl3), List.getElem?_set_ne hjk.symm, List.getElem?_set_self (by rw [List.length_set]; exact hl2), List.getElem?_set_ne hik.symm, List.getElem?_set_ne hij.symm, List.getElem?_set_self hl]; rfl
    have hno : ∀ {n : Nat}, e[n]? = some .no → e.set n .no = e := fun {n} h => by
      have := set_no (s := .no) h
      rw [List.set_set] at this
      exact this
    have hp : wipeE (((e.set i (.im a)).set j (.im b)).set k (.im c)) [i, j, k] = e := by
      show (((((e.set i (.im a)).set j (.im b)).set k (.im c)).set k .no).set j .no).set i .no = e
      rw [List.set_set, List.set_comm (i := k) (j := j) _ _ hjk.symm, List.set_set, List.set_comm (i := k) (j := i) _ _ hik.symm, List.set_comm (i := j) (j := i) _ _ hij.symm, List.set_set, hno hi, hno hj, hno hk]
    have hm : mtrue (((e.set i (.im a)).set j (.im b)).set k (.im c)) = some (true, ((e.set i (.im a)).set j (.im b)).set k (.im c)) := rfl
    simp only [lcL, ht, hm, h2, if_pos hw, hp, ih, List.map_cons]
theorem mlc_t3 {i j k : Nat} {mi : MM (List D)} {me : MM D} {e e1 e2 : En} {ds : List D} (f : D → D) (hm : mi e = some (ds, e1)) (hn : ds.length ≤ 100000) (hw : okW e1 [i, j, k] = true) (hp : wipeE e1 [i, j, k] = e2) (hi : e2[i]? = some .no) (hj : e2[j]? = some .no) (hk : e2[k]? = some .no) (hij : i ≠ j) (hik : i ≠ k) (hjk : j ≠ k) (h : ∀ d ∈ ds, ∃ a b c, d = .tup [a, b, c] ∧ me (((e2.set i (.im a)).set j (.im b)).set k (.im c)) = some (f d, ((e2.set i (.im a)).set j (.im b)).set k (.im c))) :
    mlc (.tup [i, j, k]) [i, j, k] mi mtrue me e = some (ds.map f, e2) := by
  unfold mlc
  simp only [hm, if_pos (And.intro hn hw), hp, lcL_t3 hi hj hk hij hik hjk f ds h]
/-- a comprehension of one name, that only reads; the name may hold something -/
theorem mlc_m' {i : Nat} {mi : MM (List D)} {me : MM D} {e e1 e2 : En} {ds : List D} (f : D → D) (hm : mi e = some (ds, e1)) (hn : ds.length ≤ 100000) (hw : okW e1 [i] = true) (hp : wipeE e1 [i] = e2) (hi : e2[i]? = some .no) (h : ∀ d ∈ ds, me (e2.set i (.im d)) = some (f d, e2.set i (.im d))) :
    mlc (.one i) [i] mi mtrue me e = some (ds.map f, e2) := by
  have h0 := lcL_fm hi (mt := mtrue) (fun _ => true) f ds (fun d hd => ⟨rfl, fun _ => h d hd⟩)
  have e3 : ds.filter (fun _ => true) = ds := List.filter_eq_self.mpr fun _ _ => rfl
  rw [e3] at h0
  unfold mlc
  simp only [hm, if_pos (And.intro hn hw), hp, h0]
/-- comprehensions that draw: each thing as it is to be -/
theorem mlc_draw {σ : Type} {i : Nat} {mi : MM (List D)} {me : MM D} {e e0 : En} {n : Nat} (E : σ → En) (I : Nat → σ → Prop) (Q : D → Prop) (s : σ) (hs : I 0 s) (hm : mi e = some (rngD 0 n, e0)) (he0 : wipeE e0 [i] = E s) (hn : n ≤ 100000) (hw : okW e0 [i] = true) (hno : ∀ s, (E s)[i]? = some .no)
    (h : ∀ (s : σ) (m : Nat), m < n → I m s → ∃ d s', me ((E s).set i (.im (.int m))) = some (d, (E s').set i (.im (.int m))) ∧ Q d ∧ I (m + 1) s') :
    ∃ (ys : List D) (s' : σ), mlc (.one i) [i] mi mtrue me e = some (ys, E s') ∧ ys.length = n ∧ (∀ y ∈ ys, Q y) ∧ I n s' := by
  obtain ⟨ys, e', h1, ⟨s', hs', rfl⟩, h3, h4⟩ := lcL_inv (t := .one i) (own := [i]) (mt := mtrue) (me := me) (fun m e => ∃ s', I m s' ∧ e = E s') (fun _ y => Q y) (rngD 0 n) 0 (E s) ⟨s, hs, rfl⟩ (by
    intro m x e hi hp
    obtain ⟨s1, hs1, rfl⟩ := hp
    obtain ⟨rfl, hin⟩ := rng_at hi
    rw [Nat.zero_add] at hs1 ⊢
    obtain ⟨d, s2, h1, h2, h3⟩ := h s1 m hin hs1
    have hl := (List.getElem?_eq_some_iff.mp (hno s1)).1
    have hl2 := (List.getElem?_eq_some_iff.mp (hno s2)).1
    have ho : okS (E s1) i = true := by rw [okS_s, hno s1]; rfl
    refine ⟨_, _, _, d, (by simp only [mtg, if_pos ho]), rfl, h1, ?_, ⟨s2, h3, ?_⟩, h2⟩
    · rw [okW_cons, List.getElem?_set_self hl2, okW_nil]; rfl
    · exact set_no (hno s2))
  rw [rng_len] at hs' h3
  refine ⟨ys, s', ?_, h3, fun y hy => ?_, by simpa using hs'⟩
  · unfold mlc
    have : (rngD 0 n).length ≤ 100000 := by rw [rng_len]; exact hn
    simp only [hm, if_pos (And.intro this hw), he0, h1]
  · obtain ⟨m, hm, rfl⟩ := List.getElem_of_mem hy
    exact h4 m _ (List.getElem?_eq_getElem hm)
/-- a list that is built, or has been looked at -/
def Fz (t : Sl) (P : List D) : Prop := t = .mu false (.ml P) ∨ t = .im (.lst P)
theorem neD_bb (b : Bool) : neD (.bl b) (.bl b) = some (.bl false) := by cases b <;> rfl
theorem eqD_bb (b : Bool) : eqD (.bl b) (.bl b) = some (.bl true) := by cases b <;> rfl
theorem okM_N {t : Sl} (h : okN t = true) : okM t = true := by cases t <;> first | rfl | cases h
/-- a comprehension of one name with a test, that only reads; the name may hold something -/
theorem mlc_fm' {i : Nat} {mi : MM (List D)} {mt : MM Bool} {me : MM D} {e e1 e2 : En} {ds : List D} (p : D → Bool) (f : D → D) (hm : mi e = some (ds, e1)) (hn : ds.length ≤ 100000) (hw : okW e1 [i] = true) (hp : wipeE e1 [i] = e2) (hi : e2[i]? = some .no) (h : ∀ d ∈ ds, mt (e2.set i (.im d)) = some (p d, e2.set i (.im d)) ∧ (p d = true → me (e2.set i (.im d)) = some (f d, e2.set i (.im d)))) :
    mlc (.one i) [i] mi mt me e = some ((ds.filter p).map f, e2) := by
  have h0 := lcL_fm hi p f ds h
  unfold mlc
  simp only [hm, if_pos (And.intro hn hw), hp, h0]
/-- a part of a row of texts -/
theorem sl_dl (ls : List (List Nat)) (lo hi : Option Int) : ∃ ls', slD (.lst (dlS ls)) lo hi = some (.lst (dlS ls')) ∧ (∀ l ∈ ls', l ∈ ls) ∧ ls'.length ≤ ls.length := by
  refine ⟨(ls.drop (HT.sIx ls.length 0 lo)).take (HT.sIx ls.length ls.length hi - HT.sIx ls.length 0 lo), ?_, fun l hl => List.mem_of_mem_drop (List.mem_of_mem_take hl), by rw [List.length_take, List.length_drop]; omega⟩
  show some (D.lst (cutD _ _ _)) = _
  unfold cutD
  rw [dlS_len]
  unfold dlS
  rw [List.map_take, List.map_drop]
/-- a part of a text -/
theorem sl_ml (l : List Nat) (lo hi : Option Int) (h : l.length ≤ 100000) : ∃ l', slD (.str (ml l)) lo hi = some (.str (ml l')) ∧ (∀ c ∈ l', c ∈ l) ∧ l'.length ≤ l.length := by
  refine ⟨(l.drop (HT.sIx l.length 0 lo)).take (HT.sIx l.length l.length hi - HT.sIx l.length 0 lo), ?_, fun c hc => List.mem_of_mem_drop (List.mem_of_mem_take hc), by rw [List.length_take, List.length_drop]; omega⟩
  have : (ml l).length ≤ 100000 := by rw [ml_len]; exact h
  simp only [slD, if_pos this]
  unfold cutS
  rw [ml_len, ls_ml]
  rfl
theorem add_dl (a b : List (List Nat)) (h : a.length + b.length ≤ 1000000) : addD (.lst (dlS a)) (.lst (dlS b)) = some (.lst (dlS (a ++ b))) := by
  have : (dlS a).length + (dlS b).length ≤ 1000000 := by rw [dlS_len, dlS_len]; exact h
  simp only [addD, if_pos this]
  unfold dlS
  rw [List.map_append]
/-! joined texts -/
theorem rows_gt {n : Nat} : ∀ ys : List D, (∀ y ∈ ys, ∃ a : List Nat, y = .str (ml a) ∧ GTn n a) → ∃ ls : List (List Nat), ys = dlS ls ∧ ls.length = ys.length ∧ ∀ l ∈ ls, GTn n l
  | [], _ => ⟨[], rfl, rfl, fun _ h => nomatch h⟩
  | y :: ys, h => by
    obtain ⟨a, rfl, ha⟩ := h y List.mem_cons_self
    obtain ⟨ls, rfl, hs, hl⟩ := rows_gt ys (fun y hy => h y (List.mem_cons_of_mem _ hy))
    refine ⟨a :: ls, rfl, by simp [hs], fun l hl2 => ?_⟩
    rcases List.mem_cons.mp hl2 with rfl | h
    · exact ha
    · exact hl l h
theorem rows_pair {n : Nat} : ∀ ys : List D, (∀ y ∈ ys, ∃ a b : List Nat, y = .tup [.str (ml a), .str (ml b)] ∧ GTn n a ∧ GTn n b) → ∃ ps : List (List Nat × List Nat), ys = ps.map (fun p => D.tup [.str (ml p.1), .str (ml p.2)]) ∧ ps.length = ys.length ∧ ∀ p ∈ ps, GTn n p.1 ∧ GTn n p.2
  | [], _ => ⟨[], rfl, rfl, fun _ h => nomatch h⟩
  | y :: ys, h => by
    obtain ⟨a, b, rfl, ha, hb⟩ := h y List.mem_cons_self
    obtain ⟨ps, rfl, hl, hg⟩ := rows_pair ys (fun d hd => h d (List.mem_cons_of_mem _ hd))
    refine ⟨(a, b) :: ps, rfl, by simp, fun p hp => ?_⟩
    rcases List.mem_cons.mp hp with rfl | hp
    · exact ⟨ha, hb⟩
    · exact hg p hp
theorem sum_gt {n : Nat} : ∀ {ls : List (List Nat)}, (∀ l ∈ ls, GTn n l) → (ls.map List.length).sum ≤ n * ls.length
  | [], _ => by simp
  | l :: ls, h => by
    have := sum_gt (n := n) (ls := ls) fun x hx => h x (List.mem_cons_of_mem _ hx)
    have := (h l List.mem_cons_self).2.2
    simp only [List.map_cons, List.sum_cons, List.length_cons, Nat.mul_succ]
    omega
theorem jn_gt {c n : Nat} {ls : List (List Nat)} (hc : c < 0x110000) (hb : Unicode.isSpace c = wb c) (h : ∀ l ∈ ls, GTn n l) : GTn (n * ls.length + ls.length) (jn [c] ls) := by
  refine ⟨fun d hd => ?_, fun d hd => ?_, ?_⟩
  · rcases jn_mem c ls d hd with rfl | ⟨p, hp, hd⟩
    · exact hc
    · exact (h p hp).1 d hd
  · rcases jn_mem c ls d hd with rfl | ⟨p, hp, hd⟩
    · exact hb
    · exact (h p hp).2.1 d hd
  · have := jn_len c ls
    have := sum_gt h
    omega
theorem flat_gt {n : Nat} {ls : List (List Nat)} (h : ∀ l ∈ ls, GTn n l) : GTn (n * ls.length) ls.flatten := by
  refine ⟨fun d hd => ?_, fun d hd => ?_, ?_⟩
  · obtain ⟨p, hp, hd⟩ := List.mem_flatten.mp hd
    exact (h p hp).1 d hd
  · obtain ⟨p, hp, hd⟩ := List.mem_flatten.mp hd
    exact (h p hp).2.1 d hd
  · rw [List.length_flatten]; exact sum_gt h
theorem join_e (ls : List (List Nat)) (h : (ls.map List.length).sum ≤ 1000000) : joinM ("" : Str) [.lst (dlS ls)] = some (.str (ml ls.flatten)) := by
  rw [dlS_strs, joinM_lst]
  · rw [show ("" : Str).cps.toList = [] by decide, jn_nil, List.map_map, ls_map_ml]
  · rw [List.map_map, List.length_map, show ("" : Str).length = 0 from rfl, len_map_ml]
    omega
theorem addS (a b : List Nat) (h : a.length + b.length ≤ 1000000) : addD (.str (ml a)) (.str (ml b)) = some (.str (ml (a ++ b))) := by
  rw [addD_s (by rw [ml_len, ml_len]; exact h), ml_app]
theorem mul_nl (n : Int) (h : n ≤ 1000) (h0 : 0 ≤ n) : mulD (.str ("\n" : Str)) (.int n) = some (.str (ml (List.replicate n.toNat 10))) := by
  have e := mul_one 10 n
  rw [show (⟨#[10]⟩ : Str) = ("\n" : Str) by decide] at e
  rw [← e]
  have : ("\n" : Str).length = 1 := rfl
  simp only [mulD, this]
  rw [if_pos (by omega)]
theorem nil_app (l : List Nat) : ml l = ml (l ++ []) := by rw [List.append_nil]
theorem join_y (y : List Nat) (ls : List (List Nat)) (h : (ls.map List.length).sum + ls.length * y.length ≤ 1000000) : joinM (ml y) [.lst (dlS ls)] = some (.str (ml (jn y ls))) := by
  rw [dlS_strs, joinM_lst]
  · rw [ls_ml, List.map_map, ls_map_ml]
  · rw [List.map_map, List.length_map, len_map_ml, ml_len]
    omega
theorem jny_mem (y : List Nat) : ∀ (ls : List (List Nat)) (d : Nat), d ∈ jn y ls → d ∈ y ∨ ∃ p ∈ ls, d ∈ p
  | [], d, h => by cases h
  | [p], d, h => .inr ⟨p, List.mem_singleton.mpr rfl, h⟩
  | p :: q :: r, d, h => by
    simp only [jn, List.mem_append] at h
    rcases h with (h | h) | h
    · exact .inr ⟨p, List.mem_cons_self, h⟩
    · exact .inl h
    · rcases jny_mem y (q :: r) d h with h | ⟨p', hp, hd⟩
      · exact .inl h
      · exact .inr ⟨p', List.mem_cons_of_mem _ hp, hd⟩
theorem jny_len (y : List Nat) : ∀ ls : List (List Nat), (jn y ls).length ≤ (ls.map List.length).sum + ls.length * y.length
  | [] => Nat.zero_le _
  | [p] => by simp [jn]
  | p :: q :: r => by
    have := jny_len y (q :: r)
    simp only [jn, List.length_append, List.map_cons, List.sum_cons, List.length_cons, Nat.succ_mul] at this ⊢
    omega
theorem jny_gt {n m : Nat} {y : List Nat} {ls : List (List Nat)} (hy : GTn m y) (h : ∀ l ∈ ls, GTn n l) : GTn (n * ls.length + ls.length * m) (jn y ls) := by
  refine ⟨fun d hd => ?_, fun d hd => ?_, ?_⟩
  · rcases jny_mem y ls d hd with hd | ⟨p, hp, hd⟩
    · exact hy.1 d hd
    · exact (h p hp).1 d hd
  · rcases jny_mem y ls d hd with hd | ⟨p, hp, hd⟩
    · exact hy.2.1 d hd
    · exact (h p hp).2.1 d hd
  · have := jny_len y ls
    have := sum_gt h
    have h3 : ls.length * y.length ≤ ls.length * m := Nat.mul_le_mul_left _ hy.2.2
    omega
/-! the truth of letsP, to be reckoned -/
def fitB (g : List Nat) : Nat → List (List Nat) → Bool
  | _, [] => true
  | a, p :: r => (List.range (g.length + 1)).any fun b => decide (a ≤ b) && (decide (AtL p g g.length b) && (if r = [] then decide (b + p.length = g.length) else fitB g (b + p.length) r))
theorem fitB_iff (g : List Nat) : ∀ (r : List (List Nat)) (a : Nat), fitB g a r = true ↔ FitP g a r
  | [], a => by simp [fitB, FitP]
  | p :: r, a => by
    have ih := fitB_iff g r
    show ((List.range (g.length + 1)).any fun b => decide (a ≤ b) && (decide (AtL p g g.length b) && (if r = [] then decide (b + p.length = g.length) else fitB g (b + p.length) r))) = true ↔ ∃ b, a ≤ b ∧ AtL p g g.length b ∧ (if r = [] then b + p.length = g.length else FitP g (b + p.length) r)
    rw [List.any_eq_true]
    constructor
    · rintro ⟨b, _, h⟩
      rw [Bool.and_eq_true, Bool.and_eq_true, decide_eq_true_eq, decide_eq_true_eq] at h
      refine ⟨b, h.1, h.2.1, ?_⟩
      by_cases q : r = []
      · rw [if_pos q] at h ⊢
        exact of_decide_eq_true h.2.2
      · rw [if_neg q] at h ⊢
        exact (ih _).mp h.2.2
    · rintro ⟨b, h1, h2, h3⟩
      refine ⟨b, List.mem_range.mpr (by have := h2.1; omega), ?_⟩
      rw [Bool.and_eq_true, Bool.and_eq_true, decide_eq_true_eq, decide_eq_true_eq]
      refine ⟨h1, h2, ?_⟩
      by_cases q : r = []
      · rw [if_pos q] at h3 ⊢
        exact decide_eq_true h3
      · rw [if_neg q] at h3 ⊢
        exact (ih _).mpr h3
instance (g : List Nat) (a : Nat) (r : List (List Nat)) : Decidable (FitP g a r) := decidable_of_iff _ (fitB_iff g r a)
instance (g : List Nat) (ps : List (List Nat)) : Decidable (FitA g ps) := match ps with
  | [] => .isTrue trivial
  | p :: r => inferInstanceAs (Decidable (g.take p.length = p ∧ FitP g p.length r))
instance (fs : List Str) (w g : List Nat) : Decidable (endP fs w g) := by unfold endP; infer_instance
instance (fs : List Str) (w g : List Nat) : Decidable (letsP fs w g) := by unfold letsP; infer_instance
theorem check_d (w g : Str) (fs : List Str) (d : D) (hd : LT d fs) (hv : ∀ f ∈ fs, f ∈ flagsL) (hl : fs.length ≤ 1000) (hw : gtB 1000 w = true) (hg : gtB 1000 g = true) : F_check [.im (.str w), .im (.str g), .im d] = some (.bl (decide (letsP fs w.cps.toList g.cps.toList)), [.im (.str w), .im (.str g), .im d]) := by
  obtain ⟨b, h1, h2⟩ := check_ok w.cps.toList g.cps.toList fs d hd hv hl ((gt_of hw).gt (by decide)) ((gt_of hg).gt (by decide))
  have : b = decide (letsP fs w.cps.toList g.cps.toList) := by
    rw [Bool.eq_iff_iff, h1, decide_eq_true_eq]
  rw [this] at h2
  exact h2
theorem spk_sub (y : List Nat) : ∀ (k : Nat) (l p : List Nat), p ∈ spk y k l → ∀ c ∈ p, c ∈ l
  | k, [], p, h, c, hc => by
    rw [spk_nil, List.mem_singleton] at h
    subst h
    cases hc
  | k + 1, d :: l, p, h, c, hc => List.mem_cons_of_mem _ (spk_sub y k l p h c hc)
  | 0, d :: l, p, h, c, hc => by
    rw [spk_cons] at h
    split at h
    · rcases List.mem_cons.mp h with rfl | h
      · cases hc
      · exact List.mem_cons_of_mem _ (spk_sub y _ l p h c hc)
    · have ih := spk_sub y 0 l
      unfold consH at h
      split at h
      · rename_i q r e
        rcases List.mem_cons.mp h with rfl | h
        · rcases List.mem_cons.mp hc with rfl | hc
          · exact List.mem_cons_self
          · exact List.mem_cons_of_mem _ (ih q (e ▸ List.mem_cons_self) c hc)
        · exact List.mem_cons_of_mem _ (ih p (e ▸ List.mem_cons_of_mem _ h) c hc)
      · rename_i e
        exact absurd e (spk_ne y 0 l)
theorem pcs_sub (w p : List Nat) (h : p ∈ pcs w) : ∀ c ∈ p, c ∈ w := spk_sub dots 0 w p h
/-- both say the same of it -/
theorem both_ok (w g : List Nat) (fs rs : List Str) (d d2 : D) (hd : LT d fs) (hd2 : LT d2 rs) (hm : ∀ f ∈ [fT, fB_, fN, fE], f ∈ fs ↔ f ∈ rs) (hv : ∀ f ∈ fs, f ∈ flagsL) (hl : fs.length ≤ 1000) (hw : GT w) (hg : GT g) : ∃ (b : Bool) (u v : Sl), F_check [.im (.str (ml w)), .im (.str (ml g)), .im d] = some (.bl b, [.im (.str (ml w)), .im (.str (ml g)), .im d]) ∧ F_law_lets [.im (.str (ml w)), .im (.str (ml g)), .im d2] = some (.bl b, [u, v, .im d2]) := by
  obtain ⟨b, h1, h2⟩ := check_ok w g fs d hd hv hl hw hg
  obtain ⟨b', u, v, h3, h4⟩ := law_lets_ok w g rs d2 hd2 hw hg
  have hT := hm fT (by simp)
  have hB := hm fB_ (by simp)
  have hN := hm fN (by simp)
  have hE := hm fE (by simp)
  have e1 : ∀ l, wA fs l = wA rs l := fun l => by unfold wA; simp only [hB]
  have e2 : ∀ l, gA fs l = gA rs l := fun l => by unfold gA; simp only [hB]
  have e3 : ∀ l, nA fs l = nA rs l := fun l => by unfold nA; simp only [hN]
  have e4 : ∀ l, pA fs l = pA rs l := fun l => by unfold pA; simp only [hE]
  have : letsP fs w g ↔ letsP rs w g := by
    unfold letsP endP
    simp only [hT, e1, e2, e3, e4]
  have hb : b = b' := by
    rw [Bool.eq_iff_iff, h1, h3, this]
  subst hb
  exact ⟨b, u, v, h2, h4⟩
end Zz

set_option Elab.async false
set_option linter.all false
set_option maxRecDepth 100000
set_option maxHeartbeats 1000000
/-! the law's rules: some of the flags of comparing -/
namespace Zz
open PySem PySem.Spec L2 Zf
def cmpL : List Str := ["DONT_ACCEPT_TRUE_FOR_1", "DONT_ACCEPT_BLANKLINE", "NORMALIZE_WHITESPACE", "ELLIPSIS"]
theorem rules_loop (l : Sl) : ∀ (zs : List Str) (s : DS) (c : Int), DOk s c → c + zs.length ≤ 900000 → ∃ (rs : List Str) (s' : DS), lcL (.one 2) [2] t_law_rules_1 (mvar 2) (zs.map .str) [.mu true (.dr s), l, .no] = some (rs.map .str, [.mu true (.dr s'), l, .no]) ∧ (∀ r ∈ rs, r ∈ zs) ∧ rs.length ≤ zs.length ∧ DOk s' (c + zs.length)
  | [], s, c, hs, _ => ⟨[], s, rfl, (fun _ h => nomatch h), Nat.le_refl _, by simpa using hs⟩
  | z :: zs, s, c, hs, hc => by
    have hc : c + (zs.length + 1 : Nat) ≤ 900000 := hc
    obtain ⟨r, s1, e1, r0, r1, hs1⟩ := take_ok s 2 c hs (by decide) (by decide) (by omega)
    obtain ⟨rs, s2, e2, h2, h3, h4⟩ := rules_loop l zs s1 (c + 1) hs1 (by omega)
    have ht : t_law_rules_1 [.mu true (.dr s), l, .im (.str z)] = some (decide (r = 0), [.mu true (.dr s1), l, .im (.str z)]) := by
      unfold t_law_rules_1
      simp only [z_sseq, z_sset, z_sret, z_sif, z_snx, z_sbk, z_sct, z_sdrop, z_sasg, z_spar, z_sown, z_sfor, z_mop2, z_mc, z_mvar, z_MM_opt, z_MM_map, z_mcons, z_mnil, z_pnil, z_pcim, z_pcow, z_acim, z_acsl, z_anil, z_mif, z_mandB, z_morB, z_mnotB, z_mandV, z_morV, z_mnotV, z_mmeth, z_fmeth, z_fop2, z_mdr, z_mdrNe, z_mdrLen, z_mdrPop, z_sdr, z_mappend, z_mextend, z_mpopAt, z_mlenO, z_mnilO, z_msl, z_mcall, z_saug, z_mmethL, z_sdraws, z_mtrue, slots_nil, slots_im, slots_sl, argsE, updE, List.nodup_nil, List.nodup_cons, List.not_mem_nil, List.mem_singleton, not_false_eq_true, and_self, and_true, List.nil_append, List.append_nil, List.cons_append, mtg, Zf.setL, setsE, few, blD_b, truD_b, truD_i, truD_l, truD_t, intL_i, intL_b, seqD_l, seqD_t, seqD_s, seqD_c, negD_i, DS.at, DS.put, DS.row, addD_i, subD_i, eqD_i, neD_i, ltD_i, leD_i, gtD_i, geD_i, eqD_s, neD_s, out_l, out_d, okS_s, okW_nil, okW_cons, okM_no, okM_im, okM_mf, okM_mt, okN_no, okN_im, okN_mu, wipeE, List.all_cons, List.all_nil, Bool.and_true, Bool.true_and, Bool.and_self, decide_true, decide_false, reduceIte, if_true, if_false, List.length_cons, List.length_nil, List.getElem?_cons_zero, List.getElem?_cons_succ, List.set_cons_zero, List.set_cons_succ, List.map_cons, List.map_nil, Bool.false_eq_true, Option.some.injEq, Bool.not_true, Bool.not_false, Nat.reduceAdd, Nat.reduceLT, Nat.reduceLeDiff, z_mpop0, intD_i, e1]
    have hm : mtg (.one 2) (.str z) [.mu true (.dr s), l, .no] = some [.mu true (.dr s), l, .im (.str z)] := rfl
    have hw : okW [.mu true (.dr s1), l, .im (.str z)] [2] = true := rfl
    have hp : wipeE [.mu true (.dr s1), l, .im (.str z)] [2] = [.mu true (.dr s1), l, .no] := rfl
    have hv : mvar 2 [.mu true (.dr s1), l, .im (.str z)] = some (.str z, [.mu true (.dr s1), l, .im (.str z)]) := rfl
    have hd : DOk s2 (c + ((z :: zs).length : Nat)) := dok_le h4 (by rw [List.length_cons]; omega)
    by_cases q : r = 0
    · rw [decide_eq_true q] at ht
      refine ⟨z :: rs, s2, ?_, fun x hx => ?_, by simp; omega, hd⟩
      · simp only [List.map_cons, lcL, hm, ht, hv, if_pos hw, hp, e2]
      · rcases List.mem_cons.mp hx with rfl | hx
        · exact List.mem_cons_self
        · exact List.mem_cons_of_mem _ (h2 x hx)
    · rw [decide_eq_false q] at ht
      refine ⟨rs, s2, ?_, fun x hx => List.mem_cons_of_mem _ (h2 x hx), by simp; omega, hd⟩
      simp only [List.map_cons, lcL, hm, ht, if_pos hw, hp, e2]
theorem cmp_flags {f : Str} (h : f ∈ cmpL) : f ∈ flagsL := by
  unfold cmpL at h
  simp only [List.mem_cons, List.not_mem_nil, or_false] at h
  rcases h with rfl | rfl | rfl | rfl <;> decide +kernel
theorem OkS_flags {rs : List Str} (h : ∀ f ∈ rs, f ∈ flagsL) : OkS rs := fun s hs => by
  have h1 := h s hs
  have : flagsL.all (fun z => z.cps.toList.all fun c => decide (c < 0x110000)) = true := by decide +kernel
  have h2 := List.all_eq_true.mp this s h1
  exact strOk_ml (l := s.cps.toList) fun c hc => of_decide_eq_true (List.all_eq_true.mp h2 c hc)
theorem rules_ok (s : DS) (c : Int) (hs : DOk s c) (hc : c ≤ 800000) : ∃ (rs : List Str) (s' : DS), F_law_rules [.mu true (.dr s)] = some (.lst (rs.map .str), [.mu true (.dr s')]) ∧ (∀ f ∈ rs, f ∈ flagsL) ∧ rs.length ≤ 4 ∧ DOk s' (c + 4) := by
  obtain ⟨rs, s', e, h1, h2, h3⟩ := rules_loop (.im (.lst (cmpL.map .str))) cmpL s c hs (by show c + 4 ≤ _; omega)
  refine ⟨rs, s', ?_, fun f hf => cmp_flags (h1 f hf), h2, h3⟩
  have hf : few (cmpL.map .str) = some (cmpL.map .str) := rfl
  have hm : mlc (.one 2) [2] (MM.opt (mvar 1) seqD) t_law_rules_1 (mvar 2) [.mu true (.dr s), .im (.lst (cmpL.map .str)), .no] = some (rs.map .str, [.mu true (.dr s'), .im (.lst (cmpL.map .str)), .no]) := by
    have h0 : MM.opt (mvar 1) seqD [.mu true (.dr s), .im (.lst (cmpL.map .str)), .no] = some (cmpL.map .str, [.mu true (.dr s), .im (.lst (cmpL.map .str)), .no]) := rfl
    have hw : (cmpL.map D.str).length ≤ 100000 ∧ okW [.mu true (.dr s), .im (.lst (cmpL.map D.str)), .no] [2] = true := ⟨by decide, rfl⟩
    have hp : wipeE [.mu true (.dr s), .im (.lst (cmpL.map D.str)), .no] [2] = [.mu true (.dr s), .im (.lst (cmpL.map .str)), .no] := rfl
    unfold mlc
    simp only [h0, if_pos hw, hp, e]
  have body : m_law_rules [.mu true (.dr s), .no, .no] = some (.rt (.lst (rs.map .str)) [.mu true (.dr s'), .im (.lst (cmpL.map .str)), .no]) := by
    unfold m_law_rules
    refine sseq_nx (e1 := [.mu true (.dr s), .im (.lst (cmpL.map .str)), .no]) (by rfl) ?_
    simp only [z_sseq, z_sset, z_sret, z_sif, z_snx, z_sbk, z_sct, z_sdrop, z_sasg, z_spar, z_sown, z_sfor, z_mop2, z_mc, z_mvar, z_MM_opt, z_MM_map, z_mcons, z_mnil, z_pnil, z_pcim, z_pcow, z_acim, z_acsl, z_anil, z_mif, z_mandB, z_morB, z_mnotB, z_mandV, z_morV, z_mnotV, z_mmeth, z_fmeth, z_fop2, z_mdr, z_mdrNe, z_mdrLen, z_mdrPop, z_sdr, z_mappend, z_mextend, z_mpopAt, z_mlenO, z_mnilO, z_msl, z_mcall, z_saug, z_mmethL, z_sdraws, z_mtrue, slots_nil, slots_im, slots_sl, argsE, updE, List.nodup_nil, List.nodup_cons, List.not_mem_nil, List.mem_singleton, not_false_eq_true, and_self, and_true, List.nil_append, List.append_nil, List.cons_append, mtg, Zf.setL, setsE, few, blD_b, truD_b, truD_i, truD_l, truD_t, intL_i, intL_b, seqD_l, seqD_t, seqD_s, seqD_c, negD_i, DS.at, DS.put, DS.row, addD_i, subD_i, eqD_i, neD_i, ltD_i, leD_i, gtD_i, geD_i, eqD_s, neD_s, out_l, out_d, okS_s, okW_nil, okW_cons, okM_no, okM_im, okM_mf, okM_mt, okN_no, okN_im, okN_mu, wipeE, List.all_cons, List.all_nil, Bool.and_true, Bool.true_and, Bool.and_self, decide_true, decide_false, reduceIte, if_true, if_false, List.length_cons, List.length_nil, List.getElem?_cons_zero, List.getElem?_cons_succ, List.set_cons_zero, List.set_cons_succ, List.map_cons, List.map_nil, Bool.false_eq_true, Option.some.injEq, Bool.not_true, Bool.not_false, Nat.reduceAdd, Nat.reduceLT, Nat.reduceLeDiff, z_mpop0, intD_i, hm]
  exact fnM_rt (n := 3) (args := [.mu true (.dr s)]) (m := m_law_rules) body
end Zz

set_option Elab.async false
set_option linter.all false
set_option maxRecDepth 100000
set_option maxHeartbeats 1000000
namespace Zz
open PySem PySem.Spec L2 Zf
theorem enum_get {xs : List D} {i : Nat} {x : D} : ∀ {k : Nat}, (enumD k xs)[i]? = some x → ∃ d, xs[i]? = some d ∧ x = .tup [.int ((k + i : Nat) : Int), d] := by
  induction xs generalizing i with
  | nil => intro k h; cases h
  | cons y ys ih =>
    intro k h
    cases i with
    | zero => cases h; exact ⟨y, rfl, rfl⟩
    | succ i =>
      obtain ⟨d, h1, h2⟩ := ih (k := k + 1) h
      refine ⟨d, h1, ?_⟩
      rw [h2, show k + 1 + i = k + (i + 1) by omega]
/-! replaced texts -/
theorem replS_mem (y z : List Nat) : ∀ (l : List Nat) (k : Nat) (c : Nat), c ∈ StrLaws.replS y z k l → c ∈ l ∨ c ∈ z
  | [], 0, c, h => by rw [StrLaws.replS] at h; cases h
  | [], k + 1, c, h => by rw [StrLaws.replS] at h; cases h
  | d :: l, 0, c, h => by
    rw [StrLaws.replS] at h
    split at h
    · rcases List.mem_append.mp h with h | h
      · exact .inr h
      · rcases replS_mem y z l _ c h with h | h
        · exact .inl (List.mem_cons_of_mem _ h)
        · exact .inr h
    · rcases List.mem_cons.mp h with rfl | h
      · exact .inl List.mem_cons_self
      · rcases replS_mem y z l _ c h with h | h
        · exact .inl (List.mem_cons_of_mem _ h)
        · exact .inr h
  | d :: l, k + 1, c, h => by
    rw [StrLaws.replS] at h
    rcases replS_mem y z l _ c h with h | h
    · exact .inl (List.mem_cons_of_mem _ h)
    · exact .inr h
theorem repl_gt {n : Nat} (l : List Nat) (y z : Str) (hy : 1 ≤ y.length) (h : GTn n l) (hz : gtB 12 z = true) : ∃ r, Txt.replace (ml l) y z = ml r ∧ GTn (n + (n + 1) * z.length) r := by
  have gz := gt_of hz
  have e := StrLaws.replace_list (x := ml l) (z := z) hy
  rw [ls_ml] at e
  have hmem := replS_mem y.cps.toList z.cps.toList l 0
  refine ⟨StrLaws.replL y.cps.toList z.cps.toList l, str_ext e, fun c hc => ?_, fun c hc => ?_, ?_⟩
  · rcases hmem c hc with h1 | h1
    · exact h.1 c h1
    · exact gz.1 c h1
  · rcases hmem c hc with h1 | h1
    · exact h.2.1 c h1
    · exact gz.2.1 c h1
  · have h1 := TK.replace_len (ml l) y z
    rw [← ls_len, e, ml_len] at h1
    have h2 : (l.length + 1) * z.length ≤ (n + 1) * z.length := Nat.mul_le_mul_right _ (by have := h.2.2; omega)
    have := h.2.2
    omega
/-! picked of written texts -/
theorem lit_at {xs : List Str} {n : Int} (h0 : 0 ≤ n) (h1 : n < xs.length) : ∃ z, z ∈ xs ∧ xs[n.toNat]? = some z ∧ ixD (.lst (xs.map .str)) (.int n) = some (.str z) := by
  have hlt : n.toNat < xs.length := by omega
  obtain ⟨x, hx, hm, hg⟩ := at_nat (xs := xs.map D.str) h0 (by rw [List.length_map]; exact h1)
  rw [List.getElem?_map] at hg
  obtain ⟨z, hz, rfl⟩ := Option.map_eq_some_iff.mp hg
  exact ⟨z, List.mem_of_getElem? hz, hz, hx⟩
theorem good_of {k : Nat} {xs : List Str} (h : xs.all (gtB k) = true) {z : Str} (hz : z ∈ xs) : GTn k z.cps.toList := gt_of (List.all_eq_true.mp h z hz)
def P12 : List Str := ["a", "b", "a", " ", "\n", "...", "...", "<BLANKLINE>", "\n<BLANKLINE>\n", "\t", " \n", "."]
def L4 : List Str := ["\n", "\n", "\n", ""]
def L6 : List Str := ["", "...", "a", " b ", "\n", "ab\nb"]
def R3 : List Str := ["", " ", "<BLANKLINE>"]
def R4 : List Str := ["  ", "\t", "", "\n"]
def E3 : List Str := ["", "", " "]
def A3 : List Str := ["", "a", " "]
theorem P12_g : P12.all (gtB 13) = true := by decide +kernel
theorem L4_g : L4.all (gtB 1) = true := by decide +kernel
theorem L6_g : L6.all (gtB 4) = true := by decide +kernel
theorem R3_g : R3.all (fun z => gtB 12 z && decide (z.length ≤ 11)) = true := by decide +kernel
theorem R4_g : R4.all (fun z => gtB 12 z && decide (z.length ≤ 2)) = true := by decide +kernel
theorem E3_g : E3.all (gtB 1) = true := by decide +kernel
theorem A3_g : A3.all (gtB 1) = true := by decide +kernel
theorem addg {n m : Nat} {a b : List Nat} (ha : GTn n a) (hb : GTn m b) (h : n + m ≤ 1000000) : addD (.str (ml a)) (.str (ml b)) = some (.str (ml (a ++ b))) := addS a b (by have := ha.2.2; have := hb.2.2; omega)
theorem want_ok (s : DS) (c : Int) (hs : DOk s c) (hc : c ≤ 900000) : ∃ l s', F_law_want [.mu true (.dr s), .im (.int 7), .im (.bl false)] = some (.str (ml l), [.mu true (.dr s'), .im (.int 7), .im (.bl false)]) ∧ GTn 92 l ∧ DOk s' (c + 9) := by
  obtain ⟨n, s1, e1, n0, n1, hs1⟩ := take_ok s 8 c hs (by decide) (by decide) (by omega)
  have er := rng1_n n0 (by omega)
  have e1 : F_law_take [.mu true (.dr s), .im (.int (7 + 1))] = some (.int n, [.mu true (.dr s1), .im (.int (7 + 1))]) := e1
  obtain ⟨ys, s2, e2, hyl, hyq, hs2⟩ := mlc_draw (i := 5) (mi := MM.opt (mcons (mcall F_law_take [] (acsl 0 (acim (mop2 addD (mvar 1) (mc (.int 1))) (anil)))) (mnil)) rng1D) (me := e_law_want_1) (e := [.mu true (.dr s), .im (.int 7), .im (.bl false), .im (.lst (P12.map .str)), .no, .no]) (e0 := [.mu true (.dr s1), .im (.int 7), .im (.bl false), .im (.lst (P12.map .str)), .no, .no]) (n := n.toNat) (fun (q : DS) => [.mu true (.dr q), .im (.int 7), .im (.bl false), .im (.lst (P12.map .str)), .no, .no]) (fun m q => DOk q (c + 1 + m)) (fun d => d ∈ P12.map .str) s1 (by simpa using hs1) (by simp only [z_sseq, z_sset, z_sret, z_sif, z_snx, z_sbk, z_sct, z_sdrop, z_sasg, z_spar, z_sown, z_sfor, z_mop2, z_mc, z_mvar, z_MM_opt, z_MM_map, z_mcons, z_mnil, z_pnil, z_pcim, z_pcow, z_acim, z_acsl, z_anil, z_mif, z_mandB, z_morB, z_mnotB, z_mandV, z_morV, z_mnotV, z_mmeth, z_fmeth, z_fop2, z_mdr, z_mdrNe, z_mdrLen, z_mdrPop, z_sdr, z_mappend, z_mextend, z_mpopAt, z_mlenO, z_mnilO, z_msl, z_mcall, z_saug, z_mmethL, z_sdraws, z_mtrue, slots_nil, slots_im, slots_sl, argsE, updE, List.nodup_nil, List.nodup_cons, List.not_mem_nil, List.mem_singleton, not_false_eq_true, and_self, and_true, List.nil_append, List.append_nil, List.cons_append, mtg, Zf.setL, setsE, few, blD_b, truD_b, truD_i, truD_l, truD_t, intL_i, intL_b, seqD_l, seqD_t, seqD_s, seqD_c, negD_i, DS.at, DS.put, DS.row, addD_i, subD_i, eqD_i, neD_i, ltD_i, leD_i, gtD_i, geD_i, eqD_s, neD_s, out_l, out_d, okS_s, okW_nil, okW_cons, okM_no, okM_im, okM_mf, okM_mt, okN_no, okN_im, okN_mu, wipeE, List.all_cons, List.all_nil, Bool.and_true, Bool.true_and, Bool.and_self, decide_true, decide_false, reduceIte, if_true, if_false, List.length_cons, List.length_nil, List.getElem?_cons_zero, List.getElem?_cons_succ, List.set_cons_zero, List.set_cons_succ, List.map_cons, List.map_nil, Bool.false_eq_true, Option.some.injEq, Bool.not_true, Bool.not_false, Nat.reduceAdd, Nat.reduceLT, Nat.reduceLeDiff, z_mpop0, intD_i, e1, er]) rfl (by omega) rfl (fun _ => rfl) (fun q m hm hs => by
    obtain ⟨d, s', e3, hm3, hs3⟩ := pick_ok q (P12.map D.str) _ hs (by decide) (by decide) (by omega)
    refine ⟨d, s', ?_, hm3, dok_le hs3 (by omega)⟩
    unfold e_law_want_1
    simp only [z_sseq, z_sset, z_sret, z_sif, z_snx, z_sbk, z_sct, z_sdrop, z_sasg, z_spar, z_sown, z_sfor, z_mop2, z_mc, z_mvar, z_MM_opt, z_MM_map, z_mcons, z_mnil, z_pnil, z_pcim, z_pcow, z_acim, z_acsl, z_anil, z_mif, z_mandB, z_morB, z_mnotB, z_mandV, z_morV, z_mnotV, z_mmeth, z_fmeth, z_fop2, z_mdr, z_mdrNe, z_mdrLen, z_mdrPop, z_sdr, z_mappend, z_mextend, z_mpopAt, z_mlenO, z_mnilO, z_msl, z_mcall, z_saug, z_mmethL, z_sdraws, z_mtrue, slots_nil, slots_im, slots_sl, argsE, updE, List.nodup_nil, List.nodup_cons, List.not_mem_nil, List.mem_singleton, not_false_eq_true, and_self, and_true, List.nil_append, List.append_nil, List.cons_append, mtg, Zf.setL, setsE, few, blD_b, truD_b, truD_i, truD_l, truD_t, intL_i, intL_b, seqD_l, seqD_t, seqD_s, seqD_c, negD_i, DS.at, DS.put, DS.row, addD_i, subD_i, eqD_i, neD_i, ltD_i, leD_i, gtD_i, geD_i, eqD_s, neD_s, out_l, out_d, okS_s, okW_nil, okW_cons, okM_no, okM_im, okM_mf, okM_mt, okN_no, okN_im, okN_mu, wipeE, List.all_cons, List.all_nil, Bool.and_true, Bool.true_and, Bool.and_self, decide_true, decide_false, reduceIte, if_true, if_false, List.length_cons, List.length_nil, List.getElem?_cons_zero, List.getElem?_cons_succ, List.set_cons_zero, List.set_cons_succ, List.map_cons, List.map_nil, Bool.false_eq_true, Option.some.injEq, Bool.not_true, Bool.not_false, Nat.reduceAdd, Nat.reduceLT, Nat.reduceLeDiff, z_mpop0, intD_i, e3])
  obtain ⟨ls, rfl, hll, hlg⟩ := rows_gt (n := 13) ys fun y hy => strs_of P12_g (hyq y hy)
  have hn7 : ls.length ≤ 7 := by rw [hll, hyl]; omega
  have hsum := sum_gt hlg
  have j1 := join_e ls (by omega)
  have g1 := flat_gt hlg
  have g1 : GTn 91 ls.flatten := g1.le (by omega)
  obtain ⟨k, s3, e4, k0, k1, hs3⟩ := take_ok s2 4 _ hs2 (by decide) (by decide) (by omega)
  obtain ⟨z, hz, _, hix⟩ := lit_at (xs := L4) k0 (by exact k1)
  have gz := good_of L4_g hz
  have a1 := addg g1 gz (by decide)
  have q1 : few [.str ("a" : Str), .str ("b" : Str), .str ("a" : Str), .str (" " : Str), .str ("\n" : Str), .str ("..." : Str), .str ("..." : Str), .str ("<BLANKLINE>" : Str), .str ("\n<BLANKLINE>\n" : Str), .str ("\t" : Str), .str (" \n" : Str), .str ("." : Str)] = some [.str ("a" : Str), .str ("b" : Str), .str ("a" : Str), .str (" " : Str), .str ("\n" : Str), .str ("..." : Str), .str ("..." : Str), .str ("<BLANKLINE>" : Str), .str ("\n<BLANKLINE>\n" : Str), .str ("\t" : Str), .str (" \n" : Str), .str ("." : Str)] := rfl
  have q2 : few [.str ("\n" : Str), .str ("\n" : Str), .str ("\n" : Str), .str ("" : Str)] = some [.str ("\n" : Str), .str ("\n" : Str), .str ("\n" : Str), .str ("" : Str)] := rfl
  have hix : ixD (.lst [.str ("\n" : Str), .str ("\n" : Str), .str ("\n" : Str), .str ("" : Str)]) (.int k) = some (.str (ml z.cps.toList)) := hix
  refine ⟨ls.flatten ++ z.cps.toList, s3, ?_, g1.app gz, dok_le hs3 (by omega)⟩
  have body : m_law_want [.mu true (.dr s), .im (.int 7), .im (.bl false), .no, .no, .no] = some (.rt (.str (ml (ls.flatten ++ z.cps.toList))) [.mu true (.dr s3), .im (.int 7), .im (.bl false), .im (.lst (P12.map .str)), .im (.str (ml ls.flatten)), .no]) := by
    unfold m_law_want
    refine sseq_nx (e1 := [.mu true (.dr s), .im (.int 7), .im (.bl false), .im (.lst (P12.map .str)), .no, .no]) (by simp only [z_sseq, z_sset, z_sret, z_sif, z_snx, z_sbk, z_sct, z_sdrop, z_sasg, z_spar, z_sown, z_sfor, z_mop2, z_mc, z_mvar, z_MM_opt, z_MM_map, z_mcons, z_mnil, z_pnil, z_pcim, z_pcow, z_acim, z_acsl, z_anil, z_mif, z_mandB, z_morB, z_mnotB, z_mandV, z_morV, z_mnotV, z_mmeth, z_fmeth, z_fop2, z_mdr, z_mdrNe, z_mdrLen, z_mdrPop, z_sdr, z_mappend, z_mextend, z_mpopAt, z_mlenO, z_mnilO, z_msl, z_mcall, z_saug, z_mmethL, z_sdraws, z_mtrue, slots_nil, slots_im, slots_sl, argsE, updE, List.nodup_nil, List.nodup_cons, List.not_mem_nil, List.mem_singleton, not_false_eq_true, and_self, and_true, List.nil_append, List.append_nil, List.cons_append, mtg, Zf.setL, setsE, few, blD_b, truD_b, truD_i, truD_l, truD_t, intL_i, intL_b, seqD_l, seqD_t, seqD_s, seqD_c, negD_i, DS.at, DS.put, DS.row, addD_i, subD_i, eqD_i, neD_i, ltD_i, leD_i, gtD_i, geD_i, eqD_s, neD_s, out_l, out_d, okS_s, okW_nil, okW_cons, okM_no, okM_im, okM_mf, okM_mt, okN_no, okN_im, okN_mu, wipeE, List.all_cons, List.all_nil, Bool.and_true, Bool.true_and, Bool.and_self, decide_true, decide_false, reduceIte, if_true, if_false, List.length_cons, List.length_nil, List.getElem?_cons_zero, List.getElem?_cons_succ, List.set_cons_zero, List.set_cons_succ, List.map_cons, List.map_nil, Bool.false_eq_true, Option.some.injEq, Bool.not_true, Bool.not_false, Nat.reduceAdd, Nat.reduceLT, Nat.reduceLeDiff, z_mpop0, intD_i, q1]; rfl) ?_
    refine sseq_nx (e1 := [.mu true (.dr s), .im (.int 7), .im (.bl false), .im (.lst (P12.map .str)), .no, .no]) (by simp only [z_sseq, z_sset, z_sret, z_sif, z_snx, z_sbk, z_sct, z_sdrop, z_sasg, z_spar, z_sown, z_sfor, z_mop2, z_mc, z_mvar, z_MM_opt, z_MM_map, z_mcons, z_mnil, z_pnil, z_pcim, z_pcow, z_acim, z_acsl, z_anil, z_mif, z_mandB, z_morB, z_mnotB, z_mandV, z_morV, z_mnotV, z_mmeth, z_fmeth, z_fop2, z_mdr, z_mdrNe, z_mdrLen, z_mdrPop, z_sdr, z_mappend, z_mextend, z_mpopAt, z_mlenO, z_mnilO, z_msl, z_mcall, z_saug, z_mmethL, z_sdraws, z_mtrue, slots_nil, slots_im, slots_sl, argsE, updE, List.nodup_nil, List.nodup_cons, List.not_mem_nil, List.mem_singleton, not_false_eq_true, and_self, and_true, List.nil_append, List.append_nil, List.cons_append, mtg, Zf.setL, setsE, few, blD_b, truD_b, truD_i, truD_l, truD_t, intL_i, intL_b, seqD_l, seqD_t, seqD_s, seqD_c, negD_i, DS.at, DS.put, DS.row, addD_i, subD_i, eqD_i, neD_i, ltD_i, leD_i, gtD_i, geD_i, eqD_s, neD_s, out_l, out_d, okS_s, okW_nil, okW_cons, okM_no, okM_im, okM_mf, okM_mt, okN_no, okN_im, okN_mu, wipeE, List.all_cons, List.all_nil, Bool.and_true, Bool.true_and, Bool.and_self, decide_true, decide_false, reduceIte, if_true, if_false, List.length_cons, List.length_nil, List.getElem?_cons_zero, List.getElem?_cons_succ, List.set_cons_zero, List.set_cons_succ, List.map_cons, List.map_nil, Bool.false_eq_true, Option.some.injEq, Bool.not_true, Bool.not_false, Nat.reduceAdd, Nat.reduceLT, Nat.reduceLeDiff, z_mpop0, intD_i]) ?_
    refine sseq_nx (e1 := [.mu true (.dr s2), .im (.int 7), .im (.bl false), .im (.lst (P12.map .str)), .im (.str (ml ls.flatten)), .no]) (by simp only [z_sseq, z_sset, z_sret, z_sif, z_snx, z_sbk, z_sct, z_sdrop, z_sasg, z_spar, z_sown, z_sfor, z_mop2, z_mc, z_mvar, z_MM_opt, z_MM_map, z_mcons, z_mnil, z_pnil, z_pcim, z_pcow, z_acim, z_acsl, z_anil, z_mif, z_mandB, z_morB, z_mnotB, z_mandV, z_morV, z_mnotV, z_mmeth, z_fmeth, z_fop2, z_mdr, z_mdrNe, z_mdrLen, z_mdrPop, z_sdr, z_mappend, z_mextend, z_mpopAt, z_mlenO, z_mnilO, z_msl, z_mcall, z_saug, z_mmethL, z_sdraws, z_mtrue, slots_nil, slots_im, slots_sl, argsE, updE, List.nodup_nil, List.nodup_cons, List.not_mem_nil, List.mem_singleton, not_false_eq_true, and_self, and_true, List.nil_append, List.append_nil, List.cons_append, mtg, Zf.setL, setsE, few, blD_b, truD_b, truD_i, truD_l, truD_t, intL_i, intL_b, seqD_l, seqD_t, seqD_s, seqD_c, negD_i, DS.at, DS.put, DS.row, addD_i, subD_i, eqD_i, neD_i, ltD_i, leD_i, gtD_i, geD_i, eqD_s, neD_s, out_l, out_d, okS_s, okW_nil, okW_cons, okM_no, okM_im, okM_mf, okM_mt, okN_no, okN_im, okN_mu, wipeE, List.all_cons, List.all_nil, Bool.and_true, Bool.true_and, Bool.and_self, decide_true, decide_false, reduceIte, if_true, if_false, List.length_cons, List.length_nil, List.getElem?_cons_zero, List.getElem?_cons_succ, List.set_cons_zero, List.set_cons_succ, List.map_cons, List.map_nil, Bool.false_eq_true, Option.some.injEq, Bool.not_true, Bool.not_false, Nat.reduceAdd, Nat.reduceLT, Nat.reduceLeDiff, z_mpop0, intD_i, e2, j1]) ?_
    simp only [z_sseq, z_sset, z_sret, z_sif, z_snx, z_sbk, z_sct, z_sdrop, z_sasg, z_spar, z_sown, z_sfor, z_mop2, z_mc, z_mvar, z_MM_opt, z_MM_map, z_mcons, z_mnil, z_pnil, z_pcim, z_pcow, z_acim, z_acsl, z_anil, z_mif, z_mandB, z_morB, z_mnotB, z_mandV, z_morV, z_mnotV, z_mmeth, z_fmeth, z_fop2, z_mdr, z_mdrNe, z_mdrLen, z_mdrPop, z_sdr, z_mappend, z_mextend, z_mpopAt, z_mlenO, z_mnilO, z_msl, z_mcall, z_saug, z_mmethL, z_sdraws, z_mtrue, slots_nil, slots_im, slots_sl, argsE, updE, List.nodup_nil, List.nodup_cons, List.not_mem_nil, List.mem_singleton, not_false_eq_true, and_self, and_true, List.nil_append, List.append_nil, List.cons_append, mtg, Zf.setL, setsE, few, blD_b, truD_b, truD_i, truD_l, truD_t, intL_i, intL_b, seqD_l, seqD_t, seqD_s, seqD_c, negD_i, DS.at, DS.put, DS.row, addD_i, subD_i, eqD_i, neD_i, ltD_i, leD_i, gtD_i, geD_i, eqD_s, neD_s, out_l, out_d, okS_s, okW_nil, okW_cons, okM_no, okM_im, okM_mf, okM_mt, okN_no, okN_im, okN_mu, wipeE, List.all_cons, List.all_nil, Bool.and_true, Bool.true_and, Bool.and_self, decide_true, decide_false, reduceIte, if_true, if_false, List.length_cons, List.length_nil, List.getElem?_cons_zero, List.getElem?_cons_succ, List.set_cons_zero, List.set_cons_succ, List.map_cons, List.map_nil, Bool.false_eq_true, Option.some.injEq, Bool.not_true, Bool.not_false, Nat.reduceAdd, Nat.reduceLT, Nat.reduceLeDiff, z_mpop0, intD_i, q2, e4, hix, a1]
  exact fnM_rt (n := 6) (args := [.mu true (.dr s), .im (.int 7), .im (.bl false)]) (m := m_law_want) body
/-! texts near to a want -/
def sum1 (ls : List (List Nat)) : Nat := (ls.map fun l => l.length + 1).sum
theorem sum1_app (a b : List (List Nat)) : sum1 (a ++ b) = sum1 a + sum1 b := by unfold sum1; rw [List.map_append, List.sum_append]
theorem sum1_eq : ∀ ls : List (List Nat), sum1 ls = (ls.map List.length).sum + ls.length
  | [] => rfl
  | l :: ls => by
    have := sum1_eq ls
    unfold sum1 at this ⊢
    simp only [List.map_cons, List.sum_cons, List.length_cons]
    omega
theorem take_s {ls : List (List Nat)} {i : Nat} {p : List Nat} (h : ls[i]? = some p) : sum1 (ls.take (i + 1)) = sum1 (ls.take i) + (p.length + 1) := by
  rw [List.take_add_one, h, sum1_app]; rfl
theorem take_le (ls : List (List Nat)) (i : Nat) : sum1 (ls.take i) ≤ sum1 ls := by
  conv => rhs; rw [← List.take_append_drop i ls, sum1_app]
  omega
theorem int01 (b : Bool) : intL [.bl b] = some (.int (if b then 1 else 0)) := rfl
theorem near1 (s : DS) (c : Int) (w f p : List Nat) (N i : Nat) (t5 : Sl) (h5 : okM t5 = true) (hf : GTn N f) (hp : GTn 100 p) (hN : N ≤ 1000) (hs : DOk s c) (hc : c ≤ 900000) : ∃ f' s' u5, okM u5 = true ∧ b_law_near_1 [.mu true (.dr s), .im (.str (ml w)), .im (.str (ml f)), .im (.int (i : Int)), .im (.str (ml p)), t5, .no, .no, .no, .no] = some (.nx [.mu true (.dr s'), .im (.str (ml w)), .im (.str (ml f')), .im (.int (i : Int)), .im (.str (ml p)), u5, .no, .no, .no, .no]) ∧ GTn (N + 4 + p.length) f' ∧ DOk s' (c + 1) := by
  obtain ⟨k, s1, e1, k0, k1, hs1⟩ := take_ok s 6 c hs (by decide) (by decide) (by omega)
  obtain ⟨z, hz, _, hix⟩ := lit_at (xs := L6) k0 (by exact k1)
  have gz := good_of L6_g hz
  have hix : ixD (.lst [.str ("" : Str), .str ("..." : Str), .str ("a" : Str), .str (" b " : Str), .str ("\n" : Str), .str ("ab\nb" : Str)]) (.int k) = some (.str (ml z.cps.toList)) := hix
  have q1 : few [.str ("" : Str), .str ("..." : Str), .str ("a" : Str), .str (" b " : Str), .str ("\n" : Str), .str ("ab\nb" : Str)] = some [.str ("" : Str), .str ("..." : Str), .str ("a" : Str), .str (" b " : Str), .str ("\n" : Str), .str ("ab\nb" : Str)] := rfl
  obtain ⟨m, hm⟩ : ∃ m, m = z.cps.toList := ⟨_, rfl⟩
  rw [← hm] at hix gz
  have q2 : few [.str (ml m), .str ("" : Str)] = some [.str (ml m), .str ("" : Str)] := rfl
  have hp' : GTn p.length p := ⟨hp.1, hp.2.1, Nat.le_refl _⟩
  have hpl := hp.2.2
  have i1 := int01 (decide ((i : Int) = 0))
  have key : ∃ v, GTn 4 v ∧ ixD (.lst [.str (ml m), .str ("" : Str)]) (.int (if decide ((i : Int) = 0) then 1 else 0)) = some (.str (ml v)) := by
    by_cases q : (i : Int) = 0
    · rw [decide_eq_true q]
      exact ⟨[], gt_nil.le (by decide), rfl⟩
    · rw [decide_eq_false q]
      exact ⟨m, gz, rfl⟩
  obtain ⟨v, gv, hv⟩ := key
  have a1 := addg hf gv (by omega)
  have a2 := addg (hf.app gv) hp' (by omega)
  refine ⟨f ++ v ++ p, s1, .im (.str (ml m)), okM_im, ?_, (hf.app gv).app hp', dok_le hs1 (by omega)⟩
  have e0 : eqD (.int (i : Int)) (.int 0) = some (.bl (decide ((i : Int) = 0))) := rfl
  unfold b_law_near_1
  refine sseq_nx (e1 := [.mu true (.dr s1), .im (.str (ml w)), .im (.str (ml f)), .im (.int (i : Int)), .im (.str (ml p)), .im (.str (ml m)), .no, .no, .no, .no]) (by simp only [z_sseq, z_sset, z_sret, z_sif, z_snx, z_sbk, z_sct, z_sdrop, z_sasg, z_spar, z_sown, z_sfor, z_mop2, z_mc, z_mvar, z_MM_opt, z_MM_map, z_mcons, z_mnil, z_pnil, z_pcim, z_pcow, z_acim, z_acsl, z_anil, z_mif, z_mandB, z_morB, z_mnotB, z_mandV, z_morV, z_mnotV, z_mmeth, z_fmeth, z_fop2, z_mdr, z_mdrNe, z_mdrLen, z_mdrPop, z_sdr, z_mappend, z_mextend, z_mpopAt, z_mlenO, z_mnilO, z_msl, z_mcall, z_saug, z_mmethL, z_sdraws, z_mtrue, slots_nil, slots_im, slots_sl, argsE, updE, List.nodup_nil, List.nodup_cons, List.not_mem_nil, List.mem_singleton, not_false_eq_true, and_self, and_true, List.nil_append, List.append_nil, List.cons_append, mtg, Zf.setL, setsE, few, blD_b, truD_b, truD_i, truD_l, truD_t, intL_i, intL_b, seqD_l, seqD_t, seqD_s, seqD_c, negD_i, DS.at, DS.put, DS.row, addD_i, subD_i, eqD_i, neD_i, ltD_i, leD_i, gtD_i, geD_i, eqD_s, neD_s, out_l, out_d, okS_s, okW_nil, okW_cons, okM_no, okM_im, okM_mf, okM_mt, okN_no, okN_im, okN_mu, wipeE, List.all_cons, List.all_nil, Bool.and_true, Bool.true_and, Bool.and_self, decide_true, decide_false, reduceIte, if_true, if_false, List.length_cons, List.length_nil, List.getElem?_cons_zero, List.getElem?_cons_succ, List.set_cons_zero, List.set_cons_succ, List.map_cons, List.map_nil, Bool.false_eq_true, Option.some.injEq, Bool.not_true, Bool.not_false, Nat.reduceAdd, Nat.reduceLT, Nat.reduceLeDiff, z_mpop0, intD_i, q1, e1, hix, h5]) ?_
  simp only [z_sseq, z_sset, z_sret, z_sif, z_snx, z_sbk, z_sct, z_sdrop, z_sasg, z_spar, z_sown, z_sfor, z_mop2, z_mc, z_mvar, z_MM_opt, z_MM_map, z_mcons, z_mnil, z_pnil, z_pcim, z_pcow, z_acim, z_acsl, z_anil, z_mif, z_mandB, z_morB, z_mnotB, z_mandV, z_morV, z_mnotV, z_mmeth, z_fmeth, z_fop2, z_mdr, z_mdrNe, z_mdrLen, z_mdrPop, z_sdr, z_mappend, z_mextend, z_mpopAt, z_mlenO, z_mnilO, z_msl, z_mcall, z_saug, z_mmethL, z_sdraws, z_mtrue, slots_nil, slots_im, slots_sl, argsE, updE, List.nodup_nil, List.nodup_cons, List.not_mem_nil, List.mem_singleton, not_false_eq_true, and_self, and_true, List.nil_append, List.append_nil, List.cons_append, mtg, Zf.setL, setsE, few, blD_b, truD_b, truD_i, truD_l, truD_t, intL_i, intL_b, seqD_l, seqD_t, seqD_s, seqD_c, negD_i, DS.at, DS.put, DS.row, addD_i, subD_i, eqD_i, neD_i, ltD_i, leD_i, gtD_i, geD_i, eqD_s, neD_s, out_l, out_d, okS_s, okW_nil, okW_cons, okM_no, okM_im, okM_mf, okM_mt, okN_no, okN_im, okN_mu, wipeE, List.all_cons, List.all_nil, Bool.and_true, Bool.true_and, Bool.and_self, decide_true, decide_false, reduceIte, if_true, if_false, List.length_cons, List.length_nil, List.getElem?_cons_zero, List.getElem?_cons_succ, List.set_cons_zero, List.set_cons_succ, List.map_cons, List.map_nil, Bool.false_eq_true, Option.some.injEq, Bool.not_true, Bool.not_false, Nat.reduceAdd, Nat.reduceLT, Nat.reduceLeDiff, z_mpop0, intD_i, q2, e0, i1, hv, a1, a2]
theorem near2 (s : DS) (c : Int) (d1 d2 : D) (t3 t4 t5 t8 : Sl) (Ls : List (List Nat)) (l : List Nat) (n : Nat) (h8 : okM t8 = true) (hl : GTn n l) (hn : n ≤ 600) (hLs : Ls.length ≤ 10000) (hs : DOk s c) (hc : c ≤ 900000) : ∃ r s' u7 u8, okM u7 = true ∧ okM u8 = true ∧ b_law_near_2 [.mu true (.dr s), .im d1, .im d2, t3, t4, t5, .mu false (.ml (dlS Ls)), .im (.str (ml l)), t8, .no] = some (.nx [.mu true (.dr s'), .im d1, .im d2, t3, t4, t5, .mu false (.ml (dlS (Ls ++ [r]))), u7, u8, .no]) ∧ GTn (40 * (n + 1)) r ∧ DOk s' (c + 3) := by
  obtain ⟨k, s1, e1, k0, k1, hs1⟩ := take_ok s 3 c hs (by decide) (by decide) (by omega)
  obtain ⟨z, hz, hzi, _⟩ := lit_at (xs := R3) k0 (by exact k1)
  have gz := List.all_eq_true.mp R3_g z hz
  rw [Bool.and_eq_true, decide_eq_true_eq] at gz
  obtain ⟨r1, hr1, g1⟩ := repl_gt l "<BLANKLINE>" z (by decide) hl gz.1
  have m1 : (n + 1) * z.length ≤ (n + 1) * 11 := Nat.mul_le_mul_left _ gz.2
  have g1 : GTn (12 * (n + 1)) r1 := g1.le (by omega)
  obtain ⟨w, s2, e2, w0, w1, hs2⟩ := take_ok s1 8 _ hs1 (by decide) (by decide) (by omega)
  have st1 : sset 7 (mreplI (mvar 7) (mcall F_law_take [] (acsl 0 (acim (mc (.int 3)) (anil)))) "<BLANKLINE>" ["", " ", "<BLANKLINE>"]) [.mu true (.dr s), .im d1, .im d2, t3, t4, t5, .mu false (.ml (dlS Ls)), .im (.str (ml l)), t8, .no] = some (.nx [.mu true (.dr s1), .im d1, .im d2, t3, t4, t5, .mu false (.ml (dlS Ls)), .im (.str (ml r1)), t8, .no]) := by
    have hv : mvar 7 [.mu true (.dr s), .im d1, .im d2, t3, t4, t5, .mu false (.ml (dlS Ls)), .im (.str (ml l)), t8, .no] = some (.str (ml l), [.mu true (.dr s), .im d1, .im d2, t3, t4, t5, .mu false (.ml (dlS Ls)), .im (.str (ml l)), t8, .no]) := rfl
    have ht : mcall F_law_take [] (acsl 0 (acim (mc (.int 3)) (anil))) [.mu true (.dr s), .im d1, .im d2, t3, t4, t5, .mu false (.ml (dlS Ls)), .im (.str (ml l)), t8, .no] = some (.int k, [.mu true (.dr s1), .im d1, .im d2, t3, t4, t5, .mu false (.ml (dlS Ls)), .im (.str (ml l)), t8, .no]) := by
      simp only [z_sseq, z_sset, z_sret, z_sif, z_snx, z_sbk, z_sct, z_sdrop, z_sasg, z_spar, z_sown, z_sfor, z_mop2, z_mc, z_mvar, z_MM_opt, z_MM_map, z_mcons, z_mnil, z_pnil, z_pcim, z_pcow, z_acim, z_acsl, z_anil, z_mif, z_mandB, z_morB, z_mnotB, z_mandV, z_morV, z_mnotV, z_mmeth, z_fmeth, z_fop2, z_mdr, z_mdrNe, z_mdrLen, z_mdrPop, z_sdr, z_mappend, z_mextend, z_mpopAt, z_mlenO, z_mnilO, z_msl, z_mcall, z_saug, z_mmethL, z_sdraws, z_mtrue, slots_nil, slots_im, slots_sl, argsE, updE, List.nodup_nil, List.nodup_cons, List.not_mem_nil, List.mem_singleton, not_false_eq_true, and_self, and_true, List.nil_append, List.append_nil, List.cons_append, mtg, Zf.setL, setsE, few, blD_b, truD_b, truD_i, truD_l, truD_t, intL_i, intL_b, seqD_l, seqD_t, seqD_s, seqD_c, negD_i, DS.at, DS.put, DS.row, addD_i, subD_i, eqD_i, neD_i, ltD_i, leD_i, gtD_i, geD_i, eqD_s, neD_s, out_l, out_d, okS_s, okW_nil, okW_cons, okM_no, okM_im, okM_mf, okM_mt, okN_no, okN_im, okN_mu, wipeE, List.all_cons, List.all_nil, Bool.and_true, Bool.true_and, Bool.and_self, decide_true, decide_false, reduceIte, if_true, if_false, List.length_cons, List.length_nil, List.getElem?_cons_zero, List.getElem?_cons_succ, List.set_cons_zero, List.set_cons_succ, List.map_cons, List.map_nil, Bool.false_eq_true, Option.some.injEq, Bool.not_true, Bool.not_false, Nat.reduceAdd, Nat.reduceLT, Nat.reduceLeDiff, z_mpop0, intD_i, e1]
    have hb : (ml l).length + ((ml l).length + 1) * z.length ≤ 1000000 := by
      have h1 : ((ml l).length + 1) * z.length ≤ ((ml l).length + 1) * 11 := Nat.mul_le_mul_left _ gz.2
      have := hl.2.2
      rw [ml_len] at h1 ⊢
      omega
    have hzi : (["", " ", "<BLANKLINE>"] : List Str)[k.toNat]? = some z := hzi
    unfold sset mreplI
    simp only [hv, ht, if_pos k0, hzi, if_pos hb, hr1]
    rfl
  have st2 : ∃ r2, GTn (38 * (n + 1)) r2 ∧ sset 7 (mif (MM.opt (mop2 ltD (mvar 8) (mc (.int 4))) blD) (mreplI (mvar 7) (mvar 8) " " ["  ", "\t", "", "\n"]) (mvar 7)) [.mu true (.dr s2), .im d1, .im d2, t3, t4, t5, .mu false (.ml (dlS Ls)), .im (.str (ml r1)), .im (.int w), .no] = some (.nx [.mu true (.dr s2), .im d1, .im d2, t3, t4, t5, .mu false (.ml (dlS Ls)), .im (.str (ml r2)), .im (.int w), .no]) := by
    have hT : MM.opt (mop2 ltD (mvar 8) (mc (.int 4))) blD [.mu true (.dr s2), .im d1, .im d2, t3, t4, t5, .mu false (.ml (dlS Ls)), .im (.str (ml r1)), .im (.int w), .no] = some (decide (w < 4), [.mu true (.dr s2), .im d1, .im d2, t3, t4, t5, .mu false (.ml (dlS Ls)), .im (.str (ml r1)), .im (.int w), .no]) := by
      simp only [z_sseq, z_sset, z_sret, z_sif, z_snx, z_sbk, z_sct, z_sdrop, z_sasg, z_spar, z_sown, z_sfor, z_mop2, z_mc, z_mvar, z_MM_opt, z_MM_map, z_mcons, z_mnil, z_pnil, z_pcim, z_pcow, z_acim, z_acsl, z_anil, z_mif, z_mandB, z_morB, z_mnotB, z_mandV, z_morV, z_mnotV, z_mmeth, z_fmeth, z_fop2, z_mdr, z_mdrNe, z_mdrLen, z_mdrPop, z_sdr, z_mappend, z_mextend, z_mpopAt, z_mlenO, z_mnilO, z_msl, z_mcall, z_saug, z_mmethL, z_sdraws, z_mtrue, slots_nil, slots_im, slots_sl, argsE, updE, List.nodup_nil, List.nodup_cons, List.not_mem_nil, List.mem_singleton, not_false_eq_true, and_self, and_true, List.nil_append, List.append_nil, List.cons_append, mtg, Zf.setL, setsE, few, blD_b, truD_b, truD_i, truD_l, truD_t, intL_i, intL_b, seqD_l, seqD_t, seqD_s, seqD_c, negD_i, DS.at, DS.put, DS.row, addD_i, subD_i, eqD_i, neD_i, ltD_i, leD_i, gtD_i, geD_i, eqD_s, neD_s, out_l, out_d, okS_s, okW_nil, okW_cons, okM_no, okM_im, okM_mf, okM_mt, okN_no, okN_im, okN_mu, wipeE, List.all_cons, List.all_nil, Bool.and_true, Bool.true_and, Bool.and_self, decide_true, decide_false, reduceIte, if_true, if_false, List.length_cons, List.length_nil, List.getElem?_cons_zero, List.getElem?_cons_succ, List.set_cons_zero, List.set_cons_succ, List.map_cons, List.map_nil, Bool.false_eq_true, Option.some.injEq, Bool.not_true, Bool.not_false, Nat.reduceAdd, Nat.reduceLT, Nat.reduceLeDiff, z_mpop0, intD_i]
    have hv : mvar 7 [.mu true (.dr s2), .im d1, .im d2, t3, t4, t5, .mu false (.ml (dlS Ls)), .im (.str (ml r1)), .im (.int w), .no] = some (.str (ml r1), [.mu true (.dr s2), .im d1, .im d2, t3, t4, t5, .mu false (.ml (dlS Ls)), .im (.str (ml r1)), .im (.int w), .no]) := rfl
    have hw : mvar 8 [.mu true (.dr s2), .im d1, .im d2, t3, t4, t5, .mu false (.ml (dlS Ls)), .im (.str (ml r1)), .im (.int w), .no] = some (.int w, [.mu true (.dr s2), .im d1, .im d2, t3, t4, t5, .mu false (.ml (dlS Ls)), .im (.str (ml r1)), .im (.int w), .no]) := rfl
    by_cases q : w < 4
    · obtain ⟨y, hy, hyi, _⟩ := lit_at (xs := R4) w0 (by exact q)
      have gy := List.all_eq_true.mp R4_g y hy
      rw [Bool.and_eq_true, decide_eq_true_eq] at gy
      obtain ⟨r2, hr2, g2⟩ := repl_gt r1 " " y (by decide) g1 gy.1
      have m2 : (12 * (n + 1) + 1) * y.length ≤ (12 * (n + 1) + 1) * 2 := Nat.mul_le_mul_left _ gy.2
      refine ⟨r2, g2.le (by omega), ?_⟩
      have hb : (ml r1).length + ((ml r1).length + 1) * y.length ≤ 1000000 := by
        have h1 : ((ml r1).length + 1) * y.length ≤ ((ml r1).length + 1) * 2 := Nat.mul_le_mul_left _ gy.2
        have := g1.2.2
        rw [ml_len] at h1 ⊢
        omega
      have hyi : (["  ", "\t", "", "\n"] : List Str)[w.toNat]? = some y := hyi
      rw [decide_eq_true q] at hT
      unfold sset mif
      simp only [hT]
      unfold mreplI
      simp only [hv, hw, if_pos w0, hyi, if_pos hb, hr2]
      rfl
    · rw [decide_eq_false q] at hT
      refine ⟨r1, g1.le (by omega), ?_⟩
      unfold sset mif
      simp only [hT, hv]
      rfl
  obtain ⟨r2, g2, st2⟩ := st2
  obtain ⟨j, s3, e3, j0, j1, hs3⟩ := take_ok s2 3 _ hs2 (by decide) (by decide) (by omega)
  obtain ⟨y, hy, _, hix⟩ := lit_at (xs := E3) j0 (by exact j1)
  have gy := good_of E3_g hy
  have hix : ixD (.lst [.str ("" : Str), .str ("" : Str), .str (" " : Str)]) (.int j) = some (.str (ml y.cps.toList)) := hix
  have q1 : few [.str ("" : Str), .str ("" : Str), .str (" " : Str)] = some [.str ("" : Str), .str ("" : Str), .str (" " : Str)] := rfl
  have a1 := addg g2 gy (by omega)
  have hlen : (dlS Ls).length < 1000000 := by rw [dlS_len]; omega
  have hap : dlS Ls ++ [.str (ml (r2 ++ y.cps.toList))] = dlS (Ls ++ [r2 ++ y.cps.toList]) := by unfold dlS; rw [List.map_append]; rfl
  refine ⟨r2 ++ y.cps.toList, s3, .im (.str (ml r2)), .im (.int w), okM_im, okM_im, ?_, (g2.app gy).le (by omega), dok_le hs3 (by omega)⟩
  unfold b_law_near_2
  refine sseq_nx st1 (sseq_nx (e1 := [.mu true (.dr s2), .im d1, .im d2, t3, t4, t5, .mu false (.ml (dlS Ls)), .im (.str (ml r1)), .im (.int w), .no]) (by simp only [z_sseq, z_sset, z_sret, z_sif, z_snx, z_sbk, z_sct, z_sdrop, z_sasg, z_spar, z_sown, z_sfor, z_mop2, z_mc, z_mvar, z_MM_opt, z_MM_map, z_mcons, z_mnil, z_pnil, z_pcim, z_pcow, z_acim, z_acsl, z_anil, z_mif, z_mandB, z_morB, z_mnotB, z_mandV, z_morV, z_mnotV, z_mmeth, z_fmeth, z_fop2, z_mdr, z_mdrNe, z_mdrLen, z_mdrPop, z_sdr, z_mappend, z_mextend, z_mpopAt, z_mlenO, z_mnilO, z_msl, z_mcall, z_saug, z_mmethL, z_sdraws, z_mtrue, slots_nil, slots_im, slots_sl, argsE, updE, List.nodup_nil, List.nodup_cons, List.not_mem_nil, List.mem_singleton, not_false_eq_true, and_self, and_true, List.nil_append, List.append_nil, List.cons_append, mtg, Zf.setL, setsE, few, blD_b, truD_b, truD_i, truD_l, truD_t, intL_i, intL_b, seqD_l, seqD_t, seqD_s, seqD_c, negD_i, DS.at, DS.put, DS.row, addD_i, subD_i, eqD_i, neD_i, ltD_i, leD_i, gtD_i, geD_i, eqD_s, neD_s, out_l, out_d, okS_s, okW_nil, okW_cons, okM_no, okM_im, okM_mf, okM_mt, okN_no, okN_im, okN_mu, wipeE, List.all_cons, List.all_nil, Bool.and_true, Bool.true_and, Bool.and_self, decide_true, decide_false, reduceIte, if_true, if_false, List.length_cons, List.length_nil, List.getElem?_cons_zero, List.getElem?_cons_succ, List.set_cons_zero, List.set_cons_succ, List.map_cons, List.map_nil, Bool.false_eq_true, Option.some.injEq, Bool.not_true, Bool.not_false, Nat.reduceAdd, Nat.reduceLT, Nat.reduceLeDiff, z_mpop0, intD_i, e2, h8]) (sseq_nx st2 ?_))
  simp only [z_sseq, z_sset, z_sret, z_sif, z_snx, z_sbk, z_sct, z_sdrop, z_sasg, z_spar, z_sown, z_sfor, z_mop2, z_mc, z_mvar, z_MM_opt, z_MM_map, z_mcons, z_mnil, z_pnil, z_pcim, z_pcow, z_acim, z_acsl, z_anil, z_mif, z_mandB, z_morB, z_mnotB, z_mandV, z_morV, z_mnotV, z_mmeth, z_fmeth, z_fop2, z_mdr, z_mdrNe, z_mdrLen, z_mdrPop, z_sdr, z_mappend, z_mextend, z_mpopAt, z_mlenO, z_mnilO, z_msl, z_mcall, z_saug, z_mmethL, z_sdraws, z_mtrue, slots_nil, slots_im, slots_sl, argsE, updE, List.nodup_nil, List.nodup_cons, List.not_mem_nil, List.mem_singleton, not_false_eq_true, and_self, and_true, List.nil_append, List.append_nil, List.cons_append, mtg, Zf.setL, setsE, few, blD_b, truD_b, truD_i, truD_l, truD_t, intL_i, intL_b, seqD_l, seqD_t, seqD_s, seqD_c, negD_i, DS.at, DS.put, DS.row, addD_i, subD_i, eqD_i, neD_i, ltD_i, leD_i, gtD_i, geD_i, eqD_s, neD_s, out_l, out_d, okS_s, okW_nil, okW_cons, okM_no, okM_im, okM_mf, okM_mt, okN_no, okN_im, okN_mu, wipeE, List.all_cons, List.all_nil, Bool.and_true, Bool.true_and, Bool.and_self, decide_true, decide_false, reduceIte, if_true, if_false, List.length_cons, List.length_nil, List.getElem?_cons_zero, List.getElem?_cons_succ, List.set_cons_zero, List.set_cons_succ, List.map_cons, List.map_nil, Bool.false_eq_true, Option.some.injEq, Bool.not_true, Bool.not_false, Nat.reduceAdd, Nat.reduceLT, Nat.reduceLeDiff, z_mpop0, intD_i, q1, e3, hix, a1, hlen, hap]
theorem spl_sub (c : Nat) : ∀ (l p : List Nat) (d : Nat), p ∈ sp c l → d ∈ p → d ∈ l
  | [], p, d, h, hd => by rw [sp, List.mem_singleton] at h; subst h; cases hd
  | e :: l, p, d, h, hd => by
    unfold sp at h
    split at h
    · rcases List.mem_cons.mp h with rfl | h
      · cases hd
      · exact List.mem_cons_of_mem _ (spl_sub c l p d h hd)
    · split at h
      · rename_i p0 r q
        rcases List.mem_cons.mp h with rfl | h
        · rcases List.mem_cons.mp hd with rfl | hd
          · exact List.mem_cons_self
          · exact List.mem_cons_of_mem _ (spl_sub c l p0 d (q ▸ List.mem_cons_self) hd)
        · exact List.mem_cons_of_mem _ (spl_sub c l p d (q ▸ List.mem_cons_of_mem _ h) hd)
      · rename_i q
        exact absurd q (sp_ne c l)
theorem spl_sum (c : Nat) : ∀ l : List Nat, sum1 (sp c l) = l.length + 1
  | [] => rfl
  | d :: l => by
    have ih := spl_sum c l
    unfold sp
    split
    · show 0 + 1 + sum1 (sp c l) = _
      rw [ih, List.length_cons]; omega
    · split
      · rename_i p r e
        rw [e] at ih
        have h1 : sum1 (p :: r) = p.length + 1 + sum1 r := rfl
        have h2 : sum1 ((d :: p) :: r) = (d :: p).length + 1 + sum1 r := rfl
        rw [h2, List.length_cons, List.length_cons]
        omega
      · rename_i e
        exact absurd e (sp_ne c l)
theorem mem_sum1 {l : List Nat} : ∀ {ls : List (List Nat)}, l ∈ ls → l.length + 1 ≤ sum1 ls
  | q :: ls, h => by
    have e : sum1 (q :: ls) = q.length + 1 + sum1 ls := rfl
    rw [e]
    rcases List.mem_cons.mp h with rfl | h
    · omega
    · have := mem_sum1 h; omega
theorem near_ok (s : DS) (c : Int) (w : List Nat) (hw : GTn 92 w) (hs : DOk s c) (hc : c ≤ 800000) : ∃ v s', F_law_near [.mu true (.dr s), .im (.str (ml w))] = some (.str (ml v), [.mu true (.dr s'), .im (.str (ml w))]) ∧ GTn 40000 v ∧ DOk s' (c + 3000) := by
  have hwl := hw.2.2
  have hps : sum1 (pcs w) ≤ 93 := by rw [sum1_eq]; have := pcs_sum w; omega
  have hpn : (pcs w).length ≤ 93 := by have := pcs_len w; omega
  have p1 := law_pieces_ok w (by omega)
  -- the pieces with something between
  obtain ⟨e1, f1, s1, f, t3, t4, t5, k3, k4, k5, hf, hs1, rfl⟩ := forL_inv (t := .tup [3, 4]) (mb := b_law_near_1) (fun k e => ∃ s' f t3 t4 t5, okM t3 = true ∧ okM t4 = true ∧ okM t5 = true ∧ GTn (4 * sum1 ((pcs w).take k)) f ∧ DOk s' (c + (k : Nat)) ∧ e = [.mu true (.dr s'), .im (.str (ml w)), .im (.str (ml f)), t3, t4, t5, .no, .no, .no, .no]) (enumD 0 (dlS (pcs w))) 0 [.mu true (.dr s), .im (.str (ml w)), .im (.str (ml [])), .no, .no, .no, .no, .no, .no, .no] ⟨s, [], .no, .no, .no, rfl, rfl, rfl, gt_nil.le (Nat.zero_le _), by simpa using hs, rfl⟩ (by
    intro i x e hi hp
    rw [Nat.zero_add] at hp ⊢
    obtain ⟨s', f, t3, t4, t5, k3, k4, k5, hf, hs', rfl⟩ := hp
    obtain ⟨d, hd, rfl⟩ := enum_get hi
    unfold dlS at hd
    rw [List.getElem?_map] at hd
    obtain ⟨p, hp, rfl⟩ := Option.map_eq_some_iff.mp hd
    have hpm := List.mem_of_getElem? hp
    have hil := (List.getElem?_eq_some_iff.mp hp).1
    have gp : GTn 100 p := hw.le (m := 100) (by decide) |>.sub (pcs_sub w p hpm) (by have := pcs_mem hpm; omega)
    have h1 := take_s hp
    have h2 := take_le (pcs w) (i + 1)
    obtain ⟨f', s'', u5, g5, eb, gf, hs''⟩ := near1 s' _ w f p (4 * sum1 ((pcs w).take i)) (0 + i) t5 k5 hf gp (by omega) hs' (by omega)
    refine ⟨_, _, ?_, .inl eb, s'', f', _, _, u5, okM_im, okM_im, g5, gf.le (by omega), dok_le hs'' (by omega), rfl⟩
    simp only [z_sseq, z_sset, z_sret, z_sif, z_snx, z_sbk, z_sct, z_sdrop, z_sasg, z_spar, z_sown, z_sfor, z_mop2, z_mc, z_mvar, z_MM_opt, z_MM_map, z_mcons, z_mnil, z_pnil, z_pcim, z_pcow, z_acim, z_acsl, z_anil, z_mif, z_mandB, z_morB, z_mnotB, z_mandV, z_morV, z_mnotV, z_mmeth, z_fmeth, z_fop2, z_mdr, z_mdrNe, z_mdrLen, z_mdrPop, z_sdr, z_mappend, z_mextend, z_mpopAt, z_mlenO, z_mnilO, z_msl, z_mcall, z_saug, z_mmethL, z_sdraws, z_mtrue, slots_nil, slots_im, slots_sl, argsE, updE, List.nodup_nil, List.nodup_cons, List.not_mem_nil, List.mem_singleton, not_false_eq_true, and_self, and_true, List.nil_append, List.append_nil, List.cons_append, mtg, Zf.setL, setsE, few, blD_b, truD_b, truD_i, truD_l, truD_t, intL_i, intL_b, seqD_l, seqD_t, seqD_s, seqD_c, negD_i, DS.at, DS.put, DS.row, addD_i, subD_i, eqD_i, neD_i, ltD_i, leD_i, gtD_i, geD_i, eqD_s, neD_s, out_l, out_d, okS_s, okW_nil, okW_cons, okM_no, okM_im, okM_mf, okM_mt, okN_no, okN_im, okN_mu, wipeE, List.all_cons, List.all_nil, Bool.and_true, Bool.true_and, Bool.and_self, decide_true, decide_false, reduceIte, if_true, if_false, List.length_cons, List.length_nil, List.getElem?_cons_zero, List.getElem?_cons_succ, List.set_cons_zero, List.set_cons_succ, List.map_cons, List.map_nil, Bool.false_eq_true, Option.some.injEq, Bool.not_true, Bool.not_false, Nat.reduceAdd, Nat.reduceLT, Nat.reduceLeDiff, z_mpop0, intD_i, k3, k4])
  have hen : (enumD 0 (dlS (pcs w))).length = (pcs w).length := by
    have : ∀ (xs : List D) (k : Nat), (enumD k xs).length = xs.length := fun xs => by
      induction xs with
      | nil => intro k; rfl
      | cons y ys ih => intro k; show (enumD (k + 1) ys).length + 1 = _; rw [ih, List.length_cons]
    rw [this]
    unfold dlS
    rw [List.length_map]
  rw [Nat.zero_add, hen] at hs1 hf
  rw [List.take_length] at hf
  have hf : GTn 372 f := hf.le (by omega)
  have hfl := hf.2.2
  -- the lines
  have sp1 : splitM (ml f) [.str ("\n" : Str)] = some (dlS (sp 10 f)) := by
    rw [show ("\n" : Str) = ⟨#[10]⟩ by decide, splitM_one (by rw [ml_len]; omega), ls_ml]; rfl
  have hss := spl_sum 10 f
  have hsn : (sp 10 f).length ≤ 373 := by have := sum1_eq (sp 10 f); omega
  obtain ⟨e2, f2, s2, Ls, t7, t8, k7, k8, hLn, hLg, hLs, hs2, rfl⟩ := forL_inv (t := .one 7) (mb := b_law_near_2) (fun k e => ∃ s' Ls t7 t8, okM t7 = true ∧ okM t8 = true ∧ Ls.length = k ∧ (∀ l ∈ Ls, GoodL l ∧ OkB l) ∧ (Ls.map List.length).sum ≤ 40 * sum1 ((sp 10 f).take k) ∧ DOk s' (c + 93 + 3 * (k : Nat)) ∧ e = [.mu true (.dr s'), .im (.str (ml w)), .im (.str (ml f)), t3, t4, t5, .mu false (.ml (dlS Ls)), t7, t8, .no]) (dlS (sp 10 f)) 0 [.mu true (.dr s1), .im (.str (ml w)), .im (.str (ml f)), t3, t4, t5, .mu false (.ml (dlS [])), .no, .no, .no] ⟨s1, [], .no, .no, rfl, rfl, rfl, (fun _ h => nomatch h), Nat.zero_le _, dok_le hs1 (by omega), rfl⟩ (by
    intro i x e hi hp
    rw [Nat.zero_add] at hp ⊢
    obtain ⟨s', Ls, t7, t8, k7, k8, hLn, hLg, hLs, hs', rfl⟩ := hp
    unfold dlS at hi
    rw [List.getElem?_map] at hi
    obtain ⟨p, hp, rfl⟩ := Option.map_eq_some_iff.mp hi
    have hpm := List.mem_of_getElem? hp
    have hil := (List.getElem?_eq_some_iff.mp hp).1
    have hpl := mem_sum1 hpm
    have gp : GTn p.length p := ⟨fun c hc => hf.1 c (spl_sub 10 f p c hpm hc), fun c hc => hf.2.1 c (spl_sub 10 f p c hpm hc), Nat.le_refl _⟩
    have h1 := take_s hp
    obtain ⟨r, s'', u7, u8, g7, g8, eb, gr, hs''⟩ := near2 s' _ (.str (ml w)) (.str (ml f)) t3 t4 t5 t8 Ls p p.length k8 gp (by omega) (by omega) hs' (by omega)
    refine ⟨_, _, ?_, .inl eb, s'', Ls ++ [r], u7, u8, g7, g8, by rw [List.length_append, List.length_singleton, hLn], fun l hl => ?_, ?_, dok_le hs'' (by omega), rfl⟩
    · simp only [z_sseq, z_sset, z_sret, z_sif, z_snx, z_sbk, z_sct, z_sdrop, z_sasg, z_spar, z_sown, z_sfor, z_mop2, z_mc, z_mvar, z_MM_opt, z_MM_map, z_mcons, z_mnil, z_pnil, z_pcim, z_pcow, z_acim, z_acsl, z_anil, z_mif, z_mandB, z_morB, z_mnotB, z_mandV, z_morV, z_mnotV, z_mmeth, z_fmeth, z_fop2, z_mdr, z_mdrNe, z_mdrLen, z_mdrPop, z_sdr, z_mappend, z_mextend, z_mpopAt, z_mlenO, z_mnilO, z_msl, z_mcall, z_saug, z_mmethL, z_sdraws, z_mtrue, slots_nil, slots_im, slots_sl, argsE, updE, List.nodup_nil, List.nodup_cons, List.not_mem_nil, List.mem_singleton, not_false_eq_true, and_self, and_true, List.nil_append, List.append_nil, List.cons_append, mtg, Zf.setL, setsE, few, blD_b, truD_b, truD_i, truD_l, truD_t, intL_i, intL_b, seqD_l, seqD_t, seqD_s, seqD_c, negD_i, DS.at, DS.put, DS.row, addD_i, subD_i, eqD_i, neD_i, ltD_i, leD_i, gtD_i, geD_i, eqD_s, neD_s, out_l, out_d, okS_s, okW_nil, okW_cons, okM_no, okM_im, okM_mf, okM_mt, okN_no, okN_im, okN_mu, wipeE, List.all_cons, List.all_nil, Bool.and_true, Bool.true_and, Bool.and_self, decide_true, decide_false, reduceIte, if_true, if_false, List.length_cons, List.length_nil, List.getElem?_cons_zero, List.getElem?_cons_succ, List.set_cons_zero, List.set_cons_succ, List.map_cons, List.map_nil, Bool.false_eq_true, Option.some.injEq, Bool.not_true, Bool.not_false, Nat.reduceAdd, Nat.reduceLT, Nat.reduceLeDiff, z_mpop0, intD_i, k7]
    · rcases List.mem_append.mp hl with hl | hl
      · exact hLg l hl
      · rw [List.mem_singleton.mp hl]; exact ⟨gr.1, gr.2.1⟩
    · rw [List.map_append, List.sum_append]
      have := gr.2.2
      simp only [List.map_cons, List.map_nil, List.sum_cons, List.sum_nil]
      omega)
  have hdl : (dlS (sp 10 f)).length = (sp 10 f).length := dlS_len _
  rw [Nat.zero_add, hdl] at hLn hLs hs2
  rw [List.take_length] at hLs
  have j1 := join_y [10] Ls (by rw [List.length_singleton]; omega)
  have j1 : joinM ("\n" : Str) [.lst (dlS Ls)] = some (.str (ml (jn [10] Ls))) := j1
  have gj : GTn 15400 (jn [10] Ls) := by
    refine ⟨fun d hd => ?_, fun d hd => ?_, ?_⟩
    · rcases jn_mem 10 Ls d hd with rfl | ⟨p, hp, hd⟩
      · decide
      · exact (hLg p hp).1 d hd
    · rcases jn_mem 10 Ls d hd with rfl | ⟨p, hp, hd⟩
      · decide +kernel
      · exact (hLg p hp).2 d hd
    · have h1 := jn_len 10 Ls
      omega
  obtain ⟨g, hg⟩ : ∃ g, g = jn [10] Ls := ⟨_, rfl⟩
  rw [← hg] at j1 gj
  have hgl := gj.2.2
  obtain ⟨a, s3, e3, a0, a1, hs3⟩ := take_ok s2 ((g.length : Int) + 1) _ hs2 (by omega) (by omega) (by omega)
  obtain ⟨b, s4, e4, b0, b1, hs4⟩ := take_ok s3 6 _ hs3 (by decide) (by decide) (by omega)
  have l1 := lenL_ml (l := g) (by omega)
  have st : ∃ g2, GTn 31000 g2 ∧ sif (MM.opt (mop2 ltD (mvar 8) (mc (.int 3))) blD) (sset 2 (mop2 addD (mop2 addD (msl (mvar 2) (fun env => some (none, env)) (MM.opt (mvar 9) intD)) (mop2 ixD (MM.map (MM.opt (mcons (mc (.str "")) (mcons (mc (.str "a")) (mcons (mc (.str " ")) (mnil)))) few) .lst) (mvar 8))) (msl (mvar 2) (MM.opt (mop2 addD (mvar 9) (mop2 ixD (MM.map (MM.opt (mcons (mc (.int 1)) (mcons (mc (.int 0)) (mcons (mc (.int 1)) (mnil)))) few) .lst) (mvar 8))) intD) (fun env => some (none, env))))) (snx) [.mu true (.dr s4), .im (.str (ml w)), .im (.str (ml g)), t3, t4, t5, .im (.lst (dlS Ls)), t7, .im (.int b), .im (.int a)] = some (.nx [.mu true (.dr s4), .im (.str (ml w)), .im (.str (ml g2)), t3, t4, t5, .im (.lst (dlS Ls)), t7, .im (.int b), .im (.int a)]) := by
    have hT : MM.opt (mop2 ltD (mvar 8) (mc (.int 3))) blD [.mu true (.dr s4), .im (.str (ml w)), .im (.str (ml g)), t3, t4, t5, .im (.lst (dlS Ls)), t7, .im (.int b), .im (.int a)] = some (decide (b < 3), [.mu true (.dr s4), .im (.str (ml w)), .im (.str (ml g)), t3, t4, t5, .im (.lst (dlS Ls)), t7, .im (.int b), .im (.int a)]) := by
      simp only [z_sseq, z_sset, z_sret, z_sif, z_snx, z_sbk, z_sct, z_sdrop, z_sasg, z_spar, z_sown, z_sfor, z_mop2, z_mc, z_mvar, z_MM_opt, z_MM_map, z_mcons, z_mnil, z_pnil, z_pcim, z_pcow, z_acim, z_acsl, z_anil, z_mif, z_mandB, z_morB, z_mnotB, z_mandV, z_morV, z_mnotV, z_mmeth, z_fmeth, z_fop2, z_mdr, z_mdrNe, z_mdrLen, z_mdrPop, z_sdr, z_mappend, z_mextend, z_mpopAt, z_mlenO, z_mnilO, z_msl, z_mcall, z_saug, z_mmethL, z_sdraws, z_mtrue, slots_nil, slots_im, slots_sl, argsE, updE, List.nodup_nil, List.nodup_cons, List.not_mem_nil, List.mem_singleton, not_false_eq_true, and_self, and_true, List.nil_append, List.append_nil, List.cons_append, mtg, Zf.setL, setsE, few, blD_b, truD_b, truD_i, truD_l, truD_t, intL_i, intL_b, seqD_l, seqD_t, seqD_s, seqD_c, negD_i, DS.at, DS.put, DS.row, addD_i, subD_i, eqD_i, neD_i, ltD_i, leD_i, gtD_i, geD_i, eqD_s, neD_s, out_l, out_d, okS_s, okW_nil, okW_cons, okM_no, okM_im, okM_mf, okM_mt, okN_no, okN_im, okN_mu, wipeE, List.all_cons, List.all_nil, Bool.and_true, Bool.true_and, Bool.and_self, decide_true, decide_false, reduceIte, if_true, if_false, List.length_cons, List.length_nil, List.getElem?_cons_zero, List.getElem?_cons_succ, List.set_cons_zero, List.set_cons_succ, List.map_cons, List.map_nil, Bool.false_eq_true, Option.some.injEq, Bool.not_true, Bool.not_false, Nat.reduceAdd, Nat.reduceLT, Nat.reduceLeDiff, z_mpop0, intD_i]
    by_cases q : b < 3
    · rw [decide_eq_true q] at hT
      obtain ⟨y, hy, _, hix⟩ := lit_at (xs := A3) b0 (by exact q)
      have gy := good_of A3_g hy
      have hix : ixD (.lst [.str ("" : Str), .str ("a" : Str), .str (" " : Str)]) (.int b) = some (.str (ml y.cps.toList)) := hix
      obtain ⟨m, hm, _, hmi⟩ := at_nat (xs := [D.int 1, D.int 0, D.int 1]) b0 (by exact q)
      have hmm : ∃ k : Int, m = .int k := by
        have h1 := List.mem_of_getElem? hmi
        simp only [List.mem_cons, List.not_mem_nil, or_false] at h1
        rcases h1 with rfl | rfl | rfl <;> exact ⟨_, rfl⟩
      obtain ⟨k, rfl⟩ := hmm
      have hm : ixD (.lst [.int 1, .int 0, .int 1]) (.int b) = some (.int k) := hm
      obtain ⟨l2, x1, x2, x3⟩ := sl_ml g none (some a) (by omega)
      obtain ⟨l3, x4, x5, x6⟩ := sl_ml g (some (a + k)) none (by omega)
      have g2 : GTn 15400 l2 := gj.sub x2 (by omega)
      have g3 : GTn 15400 l3 := gj.sub x5 (by omega)
      have d1 := addg g2 gy (by decide)
      have d2 := addg (g2.app gy) g3 (by decide)
      have q1 : few [.str ("" : Str), .str ("a" : Str), .str (" " : Str)] = some [.str ("" : Str), .str ("a" : Str), .str (" " : Str)] := rfl
      have q2 : few [.int 1, .int 0, .int 1] = some [.int 1, .int 0, .int 1] := rfl
      refine ⟨l2 ++ y.cps.toList ++ l3, ((g2.app gy).app g3).le (by decide), ?_⟩
      rw [sif_t hT]
      simp only [z_sseq, z_sset, z_sret, z_sif, z_snx, z_sbk, z_sct, z_sdrop, z_sasg, z_spar, z_sown, z_sfor, z_mop2, z_mc, z_mvar, z_MM_opt, z_MM_map, z_mcons, z_mnil, z_pnil, z_pcim, z_pcow, z_acim, z_acsl, z_anil, z_mif, z_mandB, z_morB, z_mnotB, z_mandV, z_morV, z_mnotV, z_mmeth, z_fmeth, z_fop2, z_mdr, z_mdrNe, z_mdrLen, z_mdrPop, z_sdr, z_mappend, z_mextend, z_mpopAt, z_mlenO, z_mnilO, z_msl, z_mcall, z_saug, z_mmethL, z_sdraws, z_mtrue, slots_nil, slots_im, slots_sl, argsE, updE, List.nodup_nil, List.nodup_cons, List.not_mem_nil, List.mem_singleton, not_false_eq_true, and_self, and_true, List.nil_append, List.append_nil, List.cons_append, mtg, Zf.setL, setsE, few, blD_b, truD_b, truD_i, truD_l, truD_t, intL_i, intL_b, seqD_l, seqD_t, seqD_s, seqD_c, negD_i, DS.at, DS.put, DS.row, addD_i, subD_i, eqD_i, neD_i, ltD_i, leD_i, gtD_i, geD_i, eqD_s, neD_s, out_l, out_d, okS_s, okW_nil, okW_cons, okM_no, okM_im, okM_mf, okM_mt, okN_no, okN_im, okN_mu, wipeE, List.all_cons, List.all_nil, Bool.and_true, Bool.true_and, Bool.and_self, decide_true, decide_false, reduceIte, if_true, if_false, List.length_cons, List.length_nil, List.getElem?_cons_zero, List.getElem?_cons_succ, List.set_cons_zero, List.set_cons_succ, List.map_cons, List.map_nil, Bool.false_eq_true, Option.some.injEq, Bool.not_true, Bool.not_false, Nat.reduceAdd, Nat.reduceLT, Nat.reduceLeDiff, z_mpop0, intD_i, q1, q2, hix, hm, x1, x4, d1, d2, intD]
    · rw [decide_eq_false q] at hT
      exact ⟨g, gj.le (by decide), by rw [sif_f hT]; rfl⟩
  obtain ⟨g2, hg2, st⟩ := st
  obtain ⟨z, s5, e5, z0, z1, hs5⟩ := take_ok s4 3 _ hs4 (by decide) (by decide) (by omega)
  have hg2l := hg2.2.2
  obtain ⟨l4, x7, x8, x9⟩ := sl_ml g2 (some (-1)) none (by omega)
  have hneg : negD (.int 1) = some (.int (-1)) := rfl
  have q7 : eqD (.str (ml l4)) (.str ("\n" : Str)) = some (.bl (decide (ml l4 = ("\n" : Str)))) := rfl
  have gn : GTn 1 [10] := gt_rep 1
  have a9 := addg hg2 gn (by decide)
  have a9 : addD (.str (ml g2)) (.str ("\n" : Str)) = some (.str (ml (g2 ++ [10]))) := a9
  have hq0 : few [] = some [] := rfl
  have fin : ∃ v s', GTn 40000 v ∧ DOk s' (c + 3000) ∧ mif (morB (MM.opt (mop2 eqD (msl (mvar 2) (MM.opt (MM.opt (mc (.int 1)) negD) intD) (fun env => some (none, env))) (mc (.str "\n"))) blD) (MM.opt (mop2 eqD (mcall F_law_take [] (acsl 0 (acim (mc (.int 3)) (anil)))) (mc (.int 0))) blD)) (mvar 2) (mop2 addD (mvar 2) (mc (.str "\n"))) [.mu true (.dr s4), .im (.str (ml w)), .im (.str (ml g2)), t3, t4, t5, .im (.lst (dlS Ls)), t7, .im (.int b), .im (.int a)] = some (.str (ml v), [.mu true (.dr s'), .im (.str (ml w)), .im (.str (ml g2)), t3, t4, t5, .im (.lst (dlS Ls)), t7, .im (.int b), .im (.int a)]) := by
    by_cases q : ml l4 = ("\n" : Str)
    · rw [decide_eq_true q] at q7
      exact ⟨g2, s4, hg2.le (by decide), dok_le hs4 (by omega), by simp only [z_sseq, z_sset, z_sret, z_sif, z_snx, z_sbk, z_sct, z_sdrop, z_sasg, z_spar, z_sown, z_sfor, z_mop2, z_mc, z_mvar, z_MM_opt, z_MM_map, z_mcons, z_mnil, z_pnil, z_pcim, z_pcow, z_acim, z_acsl, z_anil, z_mif, z_mandB, z_morB, z_mnotB, z_mandV, z_morV, z_mnotV, z_mmeth, z_fmeth, z_fop2, z_mdr, z_mdrNe, z_mdrLen, z_mdrPop, z_sdr, z_mappend, z_mextend, z_mpopAt, z_mlenO, z_mnilO, z_msl, z_mcall, z_saug, z_mmethL, z_sdraws, z_mtrue, slots_nil, slots_im, slots_sl, argsE, updE, List.nodup_nil, List.nodup_cons, List.not_mem_nil, List.mem_singleton, not_false_eq_true, and_self, and_true, List.nil_append, List.append_nil, List.cons_append, mtg, Zf.setL, setsE, few, blD_b, truD_b, truD_i, truD_l, truD_t, intL_i, intL_b, seqD_l, seqD_t, seqD_s, seqD_c, negD_i, DS.at, DS.put, DS.row, addD_i, subD_i, eqD_i, neD_i, ltD_i, leD_i, gtD_i, geD_i, eqD_s, neD_s, out_l, out_d, okS_s, okW_nil, okW_cons, okM_no, okM_im, okM_mf, okM_mt, okN_no, okN_im, okN_mu, wipeE, List.all_cons, List.all_nil, Bool.and_true, Bool.true_and, Bool.and_self, decide_true, decide_false, reduceIte, if_true, if_false, List.length_cons, List.length_nil, List.getElem?_cons_zero, List.getElem?_cons_succ, List.set_cons_zero, List.set_cons_succ, List.map_cons, List.map_nil, Bool.false_eq_true, Option.some.injEq, Bool.not_true, Bool.not_false, Nat.reduceAdd, Nat.reduceLT, Nat.reduceLeDiff, z_mpop0, intD_i, x7, q7, hneg, intD]⟩
    · rw [decide_eq_false q] at q7
      by_cases q8 : z = 0
      · subst q8
        have e6 : eqD (.int 0) (.int 0) = some (.bl true) := rfl
        exact ⟨g2, s5, hg2.le (by decide), dok_le hs5 (by omega), by simp only [z_sseq, z_sset, z_sret, z_sif, z_snx, z_sbk, z_sct, z_sdrop, z_sasg, z_spar, z_sown, z_sfor, z_mop2, z_mc, z_mvar, z_MM_opt, z_MM_map, z_mcons, z_mnil, z_pnil, z_pcim, z_pcow, z_acim, z_acsl, z_anil, z_mif, z_mandB, z_morB, z_mnotB, z_mandV, z_morV, z_mnotV, z_mmeth, z_fmeth, z_fop2, z_mdr, z_mdrNe, z_mdrLen, z_mdrPop, z_sdr, z_mappend, z_mextend, z_mpopAt, z_mlenO, z_mnilO, z_msl, z_mcall, z_saug, z_mmethL, z_sdraws, z_mtrue, slots_nil, slots_im, slots_sl, argsE, updE, List.nodup_nil, List.nodup_cons, List.not_mem_nil, List.mem_singleton, not_false_eq_true, and_self, and_true, List.nil_append, List.append_nil, List.cons_append, mtg, Zf.setL, setsE, few, blD_b, truD_b, truD_i, truD_l, truD_t, intL_i, intL_b, seqD_l, seqD_t, seqD_s, seqD_c, negD_i, DS.at, DS.put, DS.row, addD_i, subD_i, eqD_i, neD_i, ltD_i, leD_i, gtD_i, geD_i, eqD_s, neD_s, out_l, out_d, okS_s, okW_nil, okW_cons, okM_no, okM_im, okM_mf, okM_mt, okN_no, okN_im, okN_mu, wipeE, List.all_cons, List.all_nil, Bool.and_true, Bool.true_and, Bool.and_self, decide_true, decide_false, reduceIte, if_true, if_false, List.length_cons, List.length_nil, List.getElem?_cons_zero, List.getElem?_cons_succ, List.set_cons_zero, List.set_cons_succ, List.map_cons, List.map_nil, Bool.false_eq_true, Option.some.injEq, Bool.not_true, Bool.not_false, Nat.reduceAdd, Nat.reduceLT, Nat.reduceLeDiff, z_mpop0, intD_i, x7, q7, hneg, intD, e5]⟩
      · have e6 : eqD (.int z) (.int 0) = some (.bl false) := by
          show some (D.bl (decide (z = 0))) = _
          rw [decide_eq_false q8]
        exact ⟨g2 ++ [10], s5, (hg2.app gn).le (by decide), dok_le hs5 (by omega), by simp only [z_sseq, z_sset, z_sret, z_sif, z_snx, z_sbk, z_sct, z_sdrop, z_sasg, z_spar, z_sown, z_sfor, z_mop2, z_mc, z_mvar, z_MM_opt, z_MM_map, z_mcons, z_mnil, z_pnil, z_pcim, z_pcow, z_acim, z_acsl, z_anil, z_mif, z_mandB, z_morB, z_mnotB, z_mandV, z_morV, z_mnotV, z_mmeth, z_fmeth, z_fop2, z_mdr, z_mdrNe, z_mdrLen, z_mdrPop, z_sdr, z_mappend, z_mextend, z_mpopAt, z_mlenO, z_mnilO, z_msl, z_mcall, z_saug, z_mmethL, z_sdraws, z_mtrue, slots_nil, slots_im, slots_sl, argsE, updE, List.nodup_nil, List.nodup_cons, List.not_mem_nil, List.mem_singleton, not_false_eq_true, and_self, and_true, List.nil_append, List.append_nil, List.cons_append, mtg, Zf.setL, setsE, few, blD_b, truD_b, truD_i, truD_l, truD_t, intL_i, intL_b, seqD_l, seqD_t, seqD_s, seqD_c, negD_i, DS.at, DS.put, DS.row, addD_i, subD_i, eqD_i, neD_i, ltD_i, leD_i, gtD_i, geD_i, eqD_s, neD_s, out_l, out_d, okS_s, okW_nil, okW_cons, okM_no, okM_im, okM_mf, okM_mt, okN_no, okN_im, okN_mu, wipeE, List.all_cons, List.all_nil, Bool.and_true, Bool.true_and, Bool.and_self, decide_true, decide_false, reduceIte, if_true, if_false, List.length_cons, List.length_nil, List.getElem?_cons_zero, List.getElem?_cons_succ, List.set_cons_zero, List.set_cons_succ, List.map_cons, List.map_nil, Bool.false_eq_true, Option.some.injEq, Bool.not_true, Bool.not_false, Nat.reduceAdd, Nat.reduceLT, Nat.reduceLeDiff, z_mpop0, intD_i, x7, q7, hneg, intD, e5, e6, a9, q8, decide_false]⟩
  obtain ⟨v, s6, gv, hs6, fin⟩ := fin
  refine ⟨v, s6, ?_, gv, hs6⟩
  have body : m_law_near [.mu true (.dr s), .im (.str (ml w)), .no, .no, .no, .no, .no, .no, .no, .no] = some (.rt (.str (ml v)) [.mu true (.dr s6), .im (.str (ml w)), .im (.str (ml g2)), t3, t4, t5, .im (.lst (dlS Ls)), t7, .im (.int b), .im (.int a)]) := by
    unfold m_law_near
    refine sseq_nx (e1 := [.mu true (.dr s), .im (.str (ml w)), .im (.str (ml [])), .no, .no, .no, .no, .no, .no, .no]) (by simp only [z_sseq, z_sset, z_sret, z_sif, z_snx, z_sbk, z_sct, z_sdrop, z_sasg, z_spar, z_sown, z_sfor, z_mop2, z_mc, z_mvar, z_MM_opt, z_MM_map, z_mcons, z_mnil, z_pnil, z_pcim, z_pcow, z_acim, z_acsl, z_anil, z_mif, z_mandB, z_morB, z_mnotB, z_mandV, z_morV, z_mnotV, z_mmeth, z_fmeth, z_fop2, z_mdr, z_mdrNe, z_mdrLen, z_mdrPop, z_sdr, z_mappend, z_mextend, z_mpopAt, z_mlenO, z_mnilO, z_msl, z_mcall, z_saug, z_mmethL, z_sdraws, z_mtrue, slots_nil, slots_im, slots_sl, argsE, updE, List.nodup_nil, List.nodup_cons, List.not_mem_nil, List.mem_singleton, not_false_eq_true, and_self, and_true, List.nil_append, List.append_nil, List.cons_append, mtg, Zf.setL, setsE, few, blD_b, truD_b, truD_i, truD_l, truD_t, intL_i, intL_b, seqD_l, seqD_t, seqD_s, seqD_c, negD_i, DS.at, DS.put, DS.row, addD_i, subD_i, eqD_i, neD_i, ltD_i, leD_i, gtD_i, geD_i, eqD_s, neD_s, out_l, out_d, okS_s, okW_nil, okW_cons, okM_no, okM_im, okM_mf, okM_mt, okN_no, okN_im, okN_mu, wipeE, List.all_cons, List.all_nil, Bool.and_true, Bool.true_and, Bool.and_self, decide_true, decide_false, reduceIte, if_true, if_false, List.length_cons, List.length_nil, List.getElem?_cons_zero, List.getElem?_cons_succ, List.set_cons_zero, List.set_cons_succ, List.map_cons, List.map_nil, Bool.false_eq_true, Option.some.injEq, Bool.not_true, Bool.not_false, Nat.reduceAdd, Nat.reduceLT, Nat.reduceLeDiff, z_mpop0, intD_i]; rfl) ?_
    refine sseq_nx (e1 := [.mu true (.dr s1), .im (.str (ml w)), .im (.str (ml f)), t3, t4, t5, .no, .no, .no, .no]) (by
      rw [z_sfor]
      have : MM.opt (mcons (mcall F_law_pieces [] (acim (mvar 1) (anil))) (mnil)) lstD [.mu true (.dr s), .im (.str (ml w)), .im (.str (ml [])), .no, .no, .no, .no, .no, .no, .no] = some (enumD 0 (dlS (pcs w)), [.mu true (.dr s), .im (.str (ml w)), .im (.str (ml [])), .no, .no, .no, .no, .no, .no, .no]) := by
        simp only [z_sseq, z_sset, z_sret, z_sif, z_snx, z_sbk, z_sct, z_sdrop, z_sasg, z_spar, z_sown, z_sfor, z_mop2, z_mc, z_mvar, z_MM_opt, z_MM_map, z_mcons, z_mnil, z_pnil, z_pcim, z_pcow, z_acim, z_acsl, z_anil, z_mif, z_mandB, z_morB, z_mnotB, z_mandV, z_morV, z_mnotV, z_mmeth, z_fmeth, z_fop2, z_mdr, z_mdrNe, z_mdrLen, z_mdrPop, z_sdr, z_mappend, z_mextend, z_mpopAt, z_mlenO, z_mnilO, z_msl, z_mcall, z_saug, z_mmethL, z_sdraws, z_mtrue, slots_nil, slots_im, slots_sl, argsE, updE, List.nodup_nil, List.nodup_cons, List.not_mem_nil, List.mem_singleton, not_false_eq_true, and_self, and_true, List.nil_append, List.append_nil, List.cons_append, mtg, Zf.setL, setsE, few, blD_b, truD_b, truD_i, truD_l, truD_t, intL_i, intL_b, seqD_l, seqD_t, seqD_s, seqD_c, negD_i, DS.at, DS.put, DS.row, addD_i, subD_i, eqD_i, neD_i, ltD_i, leD_i, gtD_i, geD_i, eqD_s, neD_s, out_l, out_d, okS_s, okW_nil, okW_cons, okM_no, okM_im, okM_mf, okM_mt, okN_no, okN_im, okN_mu, wipeE, List.all_cons, List.all_nil, Bool.and_true, Bool.true_and, Bool.and_self, decide_true, decide_false, reduceIte, if_true, if_false, List.length_cons, List.length_nil, List.getElem?_cons_zero, List.getElem?_cons_succ, List.set_cons_zero, List.set_cons_succ, List.map_cons, List.map_nil, Bool.false_eq_true, Option.some.injEq, Bool.not_true, Bool.not_false, Nat.reduceAdd, Nat.reduceLT, Nat.reduceLeDiff, z_mpop0, intD_i, p1, lstD]
      rw [this]
      exact f1) ?_
    refine sseq_nx (e1 := [.mu true (.dr s1), .im (.str (ml w)), .im (.str (ml f)), t3, t4, t5, .mu false (.ml (dlS [])), .no, .no, .no]) (by simp only [z_sseq, z_sset, z_sret, z_sif, z_snx, z_sbk, z_sct, z_sdrop, z_sasg, z_spar, z_sown, z_sfor, z_mop2, z_mc, z_mvar, z_MM_opt, z_MM_map, z_mcons, z_mnil, z_pnil, z_pcim, z_pcow, z_acim, z_acsl, z_anil, z_mif, z_mandB, z_morB, z_mnotB, z_mandV, z_morV, z_mnotV, z_mmeth, z_fmeth, z_fop2, z_mdr, z_mdrNe, z_mdrLen, z_mdrPop, z_sdr, z_mappend, z_mextend, z_mpopAt, z_mlenO, z_mnilO, z_msl, z_mcall, z_saug, z_mmethL, z_sdraws, z_mtrue, slots_nil, slots_im, slots_sl, argsE, updE, List.nodup_nil, List.nodup_cons, List.not_mem_nil, List.mem_singleton, not_false_eq_true, and_self, and_true, List.nil_append, List.append_nil, List.cons_append, mtg, Zf.setL, setsE, few, blD_b, truD_b, truD_i, truD_l, truD_t, intL_i, intL_b, seqD_l, seqD_t, seqD_s, seqD_c, negD_i, DS.at, DS.put, DS.row, addD_i, subD_i, eqD_i, neD_i, ltD_i, leD_i, gtD_i, geD_i, eqD_s, neD_s, out_l, out_d, okS_s, okW_nil, okW_cons, okM_no, okM_im, okM_mf, okM_mt, okN_no, okN_im, okN_mu, wipeE, List.all_cons, List.all_nil, Bool.and_true, Bool.true_and, Bool.and_self, decide_true, decide_false, reduceIte, if_true, if_false, List.length_cons, List.length_nil, List.getElem?_cons_zero, List.getElem?_cons_succ, List.set_cons_zero, List.set_cons_succ, List.map_cons, List.map_nil, Bool.false_eq_true, Option.some.injEq, Bool.not_true, Bool.not_false, Nat.reduceAdd, Nat.reduceLT, Nat.reduceLeDiff, z_mpop0, intD_i, hq0]; rfl) ?_
    refine sseq_nx (e1 := [.mu true (.dr s2), .im (.str (ml w)), .im (.str (ml f)), t3, t4, t5, .mu false (.ml (dlS Ls)), t7, t8, .no]) (by
      rw [z_sfor]
      have : MM.opt (MM.map (fmeth splitM (mvar 2) (mcons (mc (.str "\n")) (mnil))) .lst) seqD [.mu true (.dr s1), .im (.str (ml w)), .im (.str (ml f)), t3, t4, t5, .mu false (.ml (dlS [])), .no, .no, .no] = some (dlS (sp 10 f), [.mu true (.dr s1), .im (.str (ml w)), .im (.str (ml f)), t3, t4, t5, .mu false (.ml (dlS [])), .no, .no, .no]) := by
        simp only [z_sseq, z_sset, z_sret, z_sif, z_snx, z_sbk, z_sct, z_sdrop, z_sasg, z_spar, z_sown, z_sfor, z_mop2, z_mc, z_mvar, z_MM_opt, z_MM_map, z_mcons, z_mnil, z_pnil, z_pcim, z_pcow, z_acim, z_acsl, z_anil, z_mif, z_mandB, z_morB, z_mnotB, z_mandV, z_morV, z_mnotV, z_mmeth, z_fmeth, z_fop2, z_mdr, z_mdrNe, z_mdrLen, z_mdrPop, z_sdr, z_mappend, z_mextend, z_mpopAt, z_mlenO, z_mnilO, z_msl, z_mcall, z_saug, z_mmethL, z_sdraws, z_mtrue, slots_nil, slots_im, slots_sl, argsE, updE, List.nodup_nil, List.nodup_cons, List.not_mem_nil, List.mem_singleton, not_false_eq_true, and_self, and_true, List.nil_append, List.append_nil, List.cons_append, mtg, Zf.setL, setsE, few, blD_b, truD_b, truD_i, truD_l, truD_t, intL_i, intL_b, seqD_l, seqD_t, seqD_s, seqD_c, negD_i, DS.at, DS.put, DS.row, addD_i, subD_i, eqD_i, neD_i, ltD_i, leD_i, gtD_i, geD_i, eqD_s, neD_s, out_l, out_d, okS_s, okW_nil, okW_cons, okM_no, okM_im, okM_mf, okM_mt, okN_no, okN_im, okN_mu, wipeE, List.all_cons, List.all_nil, Bool.and_true, Bool.true_and, Bool.and_self, decide_true, decide_false, reduceIte, if_true, if_false, List.length_cons, List.length_nil, List.getElem?_cons_zero, List.getElem?_cons_succ, List.set_cons_zero, List.set_cons_succ, List.map_cons, List.map_nil, Bool.false_eq_true, Option.some.injEq, Bool.not_true, Bool.not_false, Nat.reduceAdd, Nat.reduceLT, Nat.reduceLeDiff, z_mpop0, intD_i, sp1, seqD]
      rw [this]
      exact f2) ?_
    refine sseq_nx (e1 := [.mu true (.dr s2), .im (.str (ml w)), .im (.str (ml g)), t3, t4, t5, .im (.lst (dlS Ls)), t7, t8, .no]) (by simp only [z_sseq, z_sset, z_sret, z_sif, z_snx, z_sbk, z_sct, z_sdrop, z_sasg, z_spar, z_sown, z_sfor, z_mop2, z_mc, z_mvar, z_MM_opt, z_MM_map, z_mcons, z_mnil, z_pnil, z_pcim, z_pcow, z_acim, z_acsl, z_anil, z_mif, z_mandB, z_morB, z_mnotB, z_mandV, z_morV, z_mnotV, z_mmeth, z_fmeth, z_fop2, z_mdr, z_mdrNe, z_mdrLen, z_mdrPop, z_sdr, z_mappend, z_mextend, z_mpopAt, z_mlenO, z_mnilO, z_msl, z_mcall, z_saug, z_mmethL, z_sdraws, z_mtrue, slots_nil, slots_im, slots_sl, argsE, updE, List.nodup_nil, List.nodup_cons, List.not_mem_nil, List.mem_singleton, not_false_eq_true, and_self, and_true, List.nil_append, List.append_nil, List.cons_append, mtg, Zf.setL, setsE, few, blD_b, truD_b, truD_i, truD_l, truD_t, intL_i, intL_b, seqD_l, seqD_t, seqD_s, seqD_c, negD_i, DS.at, DS.put, DS.row, addD_i, subD_i, eqD_i, neD_i, ltD_i, leD_i, gtD_i, geD_i, eqD_s, neD_s, out_l, out_d, okS_s, okW_nil, okW_cons, okM_no, okM_im, okM_mf, okM_mt, okN_no, okN_im, okN_mu, wipeE, List.all_cons, List.all_nil, Bool.and_true, Bool.true_and, Bool.and_self, decide_true, decide_false, reduceIte, if_true, if_false, List.length_cons, List.length_nil, List.getElem?_cons_zero, List.getElem?_cons_succ, List.set_cons_zero, List.set_cons_succ, List.map_cons, List.map_nil, Bool.false_eq_true, Option.some.injEq, Bool.not_true, Bool.not_false, Nat.reduceAdd, Nat.reduceLT, Nat.reduceLeDiff, z_mpop0, intD_i, j1]) ?_
    refine sseq_nx (e1 := [.mu true (.dr s3), .im (.str (ml w)), .im (.str (ml g)), t3, t4, t5, .im (.lst (dlS Ls)), t7, t8, .im (.int a)]) (by simp only [z_sseq, z_sset, z_sret, z_sif, z_snx, z_sbk, z_sct, z_sdrop, z_sasg, z_spar, z_sown, z_sfor, z_mop2, z_mc, z_mvar, z_MM_opt, z_MM_map, z_mcons, z_mnil, z_pnil, z_pcim, z_pcow, z_acim, z_acsl, z_anil, z_mif, z_mandB, z_morB, z_mnotB, z_mandV, z_morV, z_mnotV, z_mmeth, z_fmeth, z_fop2, z_mdr, z_mdrNe, z_mdrLen, z_mdrPop, z_sdr, z_mappend, z_mextend, z_mpopAt, z_mlenO, z_mnilO, z_msl, z_mcall, z_saug, z_mmethL, z_sdraws, z_mtrue, slots_nil, slots_im, slots_sl, argsE, updE, List.nodup_nil, List.nodup_cons, List.not_mem_nil, List.mem_singleton, not_false_eq_true, and_self, and_true, List.nil_append, List.append_nil, List.cons_append, mtg, Zf.setL, setsE, few, blD_b, truD_b, truD_i, truD_l, truD_t, intL_i, intL_b, seqD_l, seqD_t, seqD_s, seqD_c, negD_i, DS.at, DS.put, DS.row, addD_i, subD_i, eqD_i, neD_i, ltD_i, leD_i, gtD_i, geD_i, eqD_s, neD_s, out_l, out_d, okS_s, okW_nil, okW_cons, okM_no, okM_im, okM_mf, okM_mt, okN_no, okN_im, okN_mu, wipeE, List.all_cons, List.all_nil, Bool.and_true, Bool.true_and, Bool.and_self, decide_true, decide_false, reduceIte, if_true, if_false, List.length_cons, List.length_nil, List.getElem?_cons_zero, List.getElem?_cons_succ, List.set_cons_zero, List.set_cons_succ, List.map_cons, List.map_nil, Bool.false_eq_true, Option.some.injEq, Bool.not_true, Bool.not_false, Nat.reduceAdd, Nat.reduceLT, Nat.reduceLeDiff, z_mpop0, intD_i, l1, e3]) ?_
    refine sseq_nx (e1 := [.mu true (.dr s4), .im (.str (ml w)), .im (.str (ml g)), t3, t4, t5, .im (.lst (dlS Ls)), t7, .im (.int b), .im (.int a)]) (by simp only [z_sseq, z_sset, z_sret, z_sif, z_snx, z_sbk, z_sct, z_sdrop, z_sasg, z_spar, z_sown, z_sfor, z_mop2, z_mc, z_mvar, z_MM_opt, z_MM_map, z_mcons, z_mnil, z_pnil, z_pcim, z_pcow, z_acim, z_acsl, z_anil, z_mif, z_mandB, z_morB, z_mnotB, z_mandV, z_morV, z_mnotV, z_mmeth, z_fmeth, z_fop2, z_mdr, z_mdrNe, z_mdrLen, z_mdrPop, z_sdr, z_mappend, z_mextend, z_mpopAt, z_mlenO, z_mnilO, z_msl, z_mcall, z_saug, z_mmethL, z_sdraws, z_mtrue, slots_nil, slots_im, slots_sl, argsE, updE, List.nodup_nil, List.nodup_cons, List.not_mem_nil, List.mem_singleton, not_false_eq_true, and_self, and_true, List.nil_append, List.append_nil, List.cons_append, mtg, Zf.setL, setsE, few, blD_b, truD_b, truD_i, truD_l, truD_t, intL_i, intL_b, seqD_l, seqD_t, seqD_s, seqD_c, negD_i, DS.at, DS.put, DS.row, addD_i, subD_i, eqD_i, neD_i, ltD_i, leD_i, gtD_i, geD_i, eqD_s, neD_s, out_l, out_d, okS_s, okW_nil, okW_cons, okM_no, okM_im, okM_mf, okM_mt, okN_no, okN_im, okN_mu, wipeE, List.all_cons, List.all_nil, Bool.and_true, Bool.true_and, Bool.and_self, decide_true, decide_false, reduceIte, if_true, if_false, List.length_cons, List.length_nil, List.getElem?_cons_zero, List.getElem?_cons_succ, List.set_cons_zero, List.set_cons_succ, List.map_cons, List.map_nil, Bool.false_eq_true, Option.some.injEq, Bool.not_true, Bool.not_false, Nat.reduceAdd, Nat.reduceLT, Nat.reduceLeDiff, z_mpop0, intD_i, e4, k8]) ?_
    refine sseq_nx st ?_
    rw [z_sret, fin]
  exact fnM_rt (n := 10) (args := [.mu true (.dr s), .im (.str (ml w))]) (m := m_law_near) body
theorem same_bl (b : Bool) : F_law_same [.im (.bl b), .im (.bl b)] = some (.bl true, [.im (.bl b), .im (.bl b)]) := by
  have i1 : isiDs ["list", "tuple"] (.bl b) = some (.bl false) := rfl
  have i2 : isiDs ["bool", "int"] (.bl b) = some (.bl true) := rfl
  have i3 : isiD "int" (.bl b) = some (.bl true) := rfl
  have i4 : isiD "bool" (.bl b) = some (.bl true) := rfl
  have e1 := eqD_bb b
  have e2 := eqD_bb true
  have body : m_law_same [.im (.bl b), .im (.bl b), .no, .no] = some (.rt (.bl true) [.im (.bl b), .im (.bl b), .no, .no]) := by
    unfold m_law_same
    simp only [z_sseq, z_sset, z_sret, z_sif, z_snx, z_sbk, z_sct, z_sdrop, z_sasg, z_spar, z_sown, z_sfor, z_mop2, z_mc, z_mvar, z_MM_opt, z_MM_map, z_mcons, z_mnil, z_pnil, z_pcim, z_pcow, z_acim, z_acsl, z_anil, z_mif, z_mandB, z_morB, z_mnotB, z_mandV, z_morV, z_mnotV, z_mmeth, z_fmeth, z_fop2, z_mdr, z_mdrNe, z_mdrLen, z_mdrPop, z_sdr, z_mappend, z_mextend, z_mpopAt, z_mlenO, z_mnilO, z_msl, z_mcall, z_saug, z_mmethL, z_sdraws, z_mtrue, slots_nil, slots_im, slots_sl, argsE, updE, List.nodup_nil, List.nodup_cons, List.not_mem_nil, List.mem_singleton, not_false_eq_true, and_self, and_true, List.nil_append, List.append_nil, List.cons_append, mtg, Zf.setL, setsE, few, blD_b, truD_b, truD_i, truD_l, truD_t, intL_i, intL_b, seqD_l, seqD_t, seqD_s, seqD_c, negD_i, DS.at, DS.put, DS.row, addD_i, subD_i, eqD_i, neD_i, ltD_i, leD_i, gtD_i, geD_i, eqD_s, neD_s, out_l, out_d, okS_s, okW_nil, okW_cons, okM_no, okM_im, okM_mf, okM_mt, okN_no, okN_im, okN_mu, wipeE, List.all_cons, List.all_nil, Bool.and_true, Bool.true_and, Bool.and_self, decide_true, decide_false, reduceIte, if_true, if_false, List.length_cons, List.length_nil, List.getElem?_cons_zero, List.getElem?_cons_succ, List.set_cons_zero, List.set_cons_succ, List.map_cons, List.map_nil, Bool.false_eq_true, Option.some.injEq, Bool.not_true, Bool.not_false, Nat.reduceAdd, Nat.reduceLT, Nat.reduceLeDiff, z_mpop0, intD_i, i1, i2, i3, i4, e1, e2]
  exact fnM_rt (n := 4) (args := [.im (.bl b), .im (.bl b)]) (m := m_law_same) body
theorem rules_ok' (s : DS) (c : Int) (hs : DOk s c) (hc : c ≤ 800000) : ∃ (rs : List Str) (s' : DS), F_law_rules [.mu true (.dr s)] = some (.lst (rs.map .str), [.mu true (.dr s')]) ∧ (∀ f ∈ rs, f ∈ cmpL) ∧ rs.length ≤ 4 ∧ DOk s' (c + 4) := by
  obtain ⟨rs, s', e, h1, h2, h3⟩ := rules_loop (.im (.lst (cmpL.map .str))) cmpL s c hs (by show c + 4 ≤ _; omega)
  refine ⟨rs, s', ?_, h1, h2, h3⟩
  have hm : mlc (.one 2) [2] (MM.opt (mvar 1) seqD) t_law_rules_1 (mvar 2) [.mu true (.dr s), .im (.lst (cmpL.map .str)), .no] = some (rs.map .str, [.mu true (.dr s'), .im (.lst (cmpL.map .str)), .no]) := by
    have h0 : MM.opt (mvar 1) seqD [.mu true (.dr s), .im (.lst (cmpL.map .str)), .no] = some (cmpL.map .str, [.mu true (.dr s), .im (.lst (cmpL.map .str)), .no]) := rfl
    have hw : (cmpL.map D.str).length ≤ 100000 ∧ okW [.mu true (.dr s), .im (.lst (cmpL.map D.str)), .no] [2] = true := ⟨by decide, rfl⟩
    have hp : wipeE [.mu true (.dr s), .im (.lst (cmpL.map D.str)), .no] [2] = [.mu true (.dr s), .im (.lst (cmpL.map .str)), .no] := rfl
    unfold mlc
    simp only [h0, if_pos hw, hp, e]
  have body : m_law_rules [.mu true (.dr s), .no, .no] = some (.rt (.lst (rs.map .str)) [.mu true (.dr s'), .im (.lst (cmpL.map .str)), .no]) := by
    unfold m_law_rules
    refine sseq_nx (e1 := [.mu true (.dr s), .im (.lst (cmpL.map .str)), .no]) (by rfl) ?_
    simp only [z_sseq, z_sset, z_sret, z_sif, z_snx, z_sbk, z_sct, z_sdrop, z_sasg, z_spar, z_sown, z_sfor, z_mop2, z_mc, z_mvar, z_MM_opt, z_MM_map, z_mcons, z_mnil, z_pnil, z_pcim, z_pcow, z_acim, z_acsl, z_anil, z_mif, z_mandB, z_morB, z_mnotB, z_mandV, z_morV, z_mnotV, z_mmeth, z_fmeth, z_fop2, z_mdr, z_mdrNe, z_mdrLen, z_mdrPop, z_sdr, z_mappend, z_mextend, z_mpopAt, z_mlenO, z_mnilO, z_msl, z_mcall, z_saug, z_mmethL, z_sdraws, z_mtrue, slots_nil, slots_im, slots_sl, argsE, updE, List.nodup_nil, List.nodup_cons, List.not_mem_nil, List.mem_singleton, not_false_eq_true, and_self, and_true, List.nil_append, List.append_nil, List.cons_append, mtg, Zf.setL, setsE, few, blD_b, truD_b, truD_i, truD_l, truD_t, intL_i, intL_b, seqD_l, seqD_t, seqD_s, seqD_c, negD_i, DS.at, DS.put, DS.row, addD_i, subD_i, eqD_i, neD_i, ltD_i, leD_i, gtD_i, geD_i, eqD_s, neD_s, out_l, out_d, okS_s, okW_nil, okW_cons, okM_no, okM_im, okM_mf, okM_mt, okN_no, okN_im, okN_mu, wipeE, List.all_cons, List.all_nil, Bool.and_true, Bool.true_and, Bool.and_self, decide_true, decide_false, reduceIte, if_true, if_false, List.length_cons, List.length_nil, List.getElem?_cons_zero, List.getElem?_cons_succ, List.set_cons_zero, List.set_cons_succ, List.map_cons, List.map_nil, Bool.false_eq_true, Option.some.injEq, Bool.not_true, Bool.not_false, Nat.reduceAdd, Nat.reduceLT, Nat.reduceLeDiff, z_mpop0, intD_i, hm]
  exact fnM_rt (n := 3) (args := [.mu true (.dr s)]) (m := m_law_rules) body

def O4 : List Str := ["SKIP", "IGNORE_EXCEPTION_DETAIL", "REPORT_ONLY_FIRST_FAILURE", "FAIL_FAST"]
theorem O4_flags : ∀ f ∈ O4, f ∈ flagsL := by decide +kernel
theorem O4_no : ∀ f ∈ [fT, fB_, fN, fE], f ∉ O4 := by decide +kernel
def E6 (ns : List Int) (s : DS) (t2 t3 t4 t5 t6 t7 t8 : Sl) : En := [.im (.scr ns), .mu false (.dr s), t2, t3, t4, t5, t6, t7, t8]
theorem tup_of {f : D} {fs : List Str} (h : LT f fs) : tupleL [f] = some (.tup (fs.map .str)) := by
  rcases h with rfl | rfl <;> rfl
theorem one_ok (ns : List Int) (s : DS) (c : Int) (t2 t7 t8 : Sl) (w g : List Nat) (rs os : List Str) (h7 : okM t7 = true) (h8 : okM t8 = true) (hr : ∀ f ∈ rs, f ∈ cmpL) (hl : rs.length ≤ 4) (ho : ∀ f ∈ os, f ∈ O4) (hol : os.length ≤ 4) (hw : GT w) (hg : GT g) (hs : DOk s c) (hc : c ≤ 700000) :
    ∃ s' u7 u8, okM u7 = true ∧ okM u8 = true ∧ DOk s' (c + 20) ∧ b_law_1 (E6 ns s t2 (.im (.str (ml w))) (.im (.lst (rs.map .str))) (.im (.lst (os.map .str))) (.im (.str (ml g))) t7 t8) = some (.nx (E6 ns s' t2 (.im (.str (ml w))) (.im (.lst (rs.map .str))) (.im (.lst (os.map .str))) (.im (.str (ml g))) u7 u8)) := by
  have hv : ∀ x ∈ rs ++ os, x ∈ flagsL := fun x hx => by
    rcases List.mem_append.mp hx with hx | hx
    · exact cmp_flags (hr x hx)
    · exact O4_flags x (ho x hx)
  obtain ⟨f, fs, s', e1, hf, hm, hfl, hs'⟩ := handed_ok (.lst ((rs ++ os).map .str)) (rs ++ os) s c (.inl rfl) (by rw [List.length_append]; omega) (OkS_flags hv) hs (by omega)
  rw [List.length_append] at hs'
  have hsame : ∀ x ∈ [fT, fB_, fN, fE], x ∈ fs ↔ x ∈ rs := fun x hx => by
    rw [hm x, List.mem_append]
    exact ⟨fun z => z.elim id fun z => absurd (ho x z) (O4_no x hx), .inl⟩
  have hvf : ∀ x ∈ fs, x ∈ flagsL := fun x hx => hv x ((hm x).mp hx)
  obtain ⟨b, u, v, c1, l1⟩ := both_ok w g fs rs f (.lst (rs.map .str)) hf (.inl rfl) hsame hvf hfl hw hg
  obtain ⟨b2, u2, v2, c2, l2⟩ := both_ok w g fs rs (.tup (fs.map .str)) (.lst (rs.map .str)) (.inr rfl) (.inl rfl) hsame hvf hfl hw hg
  have hbb : b2 = b := by
    rw [l1] at l2
    injection l2 with l3
    injection l3 with l4 _
    injection l4 with l5
    exact l5.symm
  subst hbb
  have a1 : addD (.lst (rs.map .str)) (.lst (os.map .str)) = some (.lst ((rs ++ os).map .str)) := by
    have : (rs.map D.str).length + (os.map D.str).length ≤ 1000000 := by rw [List.length_map, List.length_map]; omega
    simp only [addD, if_pos this, List.map_append]
  have tu := tup_of hf
  have sm := same_bl b2
  obtain ⟨R, hR⟩ : ∃ R, R = rs.map D.str := ⟨_, rfl⟩
  obtain ⟨O, hO⟩ : ∃ O, O = os.map D.str := ⟨_, rfl⟩
  obtain ⟨RO, hRO⟩ : ∃ RO, RO = (rs ++ os).map D.str := ⟨_, rfl⟩
  obtain ⟨T, hT⟩ : ∃ T, T = fs.map D.str := ⟨_, rfl⟩
  rw [← hRO] at e1 a1
  rw [← hT] at tu c2
  rw [← hR] at l1 a1 ⊢
  rw [← hO] at a1 ⊢
  refine ⟨s', .im (.bl b2), .im f, okM_im, okM_im, dok_le hs' (by omega), ?_⟩
  unfold b_law_1
  refine sseq_nx (e1 := E6 ns s' t2 (.im (.str (ml w))) (.im (.lst R)) (.im (.lst O)) (.im (.str (ml g))) (.im (.bl b2)) (.im f)) (by unfold E6; simp only [z_sseq, z_sset, z_sret, z_sif, z_snx, z_sbk, z_sct, z_sdrop, z_sasg, z_spar, z_sown, z_sfor, z_mop2, z_mc, z_mvar, z_MM_opt, z_MM_map, z_mcons, z_mnil, z_pnil, z_pcim, z_pcow, z_acim, z_acsl, z_anil, z_mif, z_mandB, z_morB, z_mnotB, z_mandV, z_morV, z_mnotV, z_mmeth, z_fmeth, z_fop2, z_mdr, z_mdrNe, z_mdrLen, z_mdrPop, z_sdr, z_mappend, z_mextend, z_mpopAt, z_mlenO, z_mnilO, z_msl, z_mcall, z_saug, z_mmethL, z_sdraws, z_mtrue, slots_nil, slots_im, slots_sl, argsE, updE, List.nodup_nil, List.nodup_cons, List.not_mem_nil, List.mem_singleton, not_false_eq_true, and_self, and_true, List.nil_append, List.append_nil, List.cons_append, mtg, Zf.setL, setsE, few, blD_b, truD_b, truD_i, truD_l, truD_t, intL_i, intL_b, seqD_l, seqD_t, seqD_s, seqD_c, negD_i, DS.at, DS.put, DS.row, addD_i, subD_i, eqD_i, neD_i, ltD_i, leD_i, gtD_i, geD_i, eqD_s, neD_s, out_l, out_d, okS_s, okW_nil, okW_cons, okM_no, okM_im, okM_mf, okM_mt, okN_no, okN_im, okN_mu, wipeE, List.all_cons, List.all_nil, Bool.and_true, Bool.true_and, Bool.and_self, decide_true, decide_false, reduceIte, if_true, if_false, List.length_cons, List.length_nil, List.getElem?_cons_zero, List.getElem?_cons_succ, List.set_cons_zero, List.set_cons_succ, List.map_cons, List.map_nil, Bool.false_eq_true, Option.some.injEq, Bool.not_true, Bool.not_false, Nat.reduceAdd, Nat.reduceLT, Nat.reduceLeDiff, z_mpop0, intD_i, l1, a1, e1, h7, h8]) ?_
  unfold E6
  simp only [z_sseq, z_sset, z_sret, z_sif, z_snx, z_sbk, z_sct, z_sdrop, z_sasg, z_spar, z_sown, z_sfor, z_mop2, z_mc, z_mvar, z_MM_opt, z_MM_map, z_mcons, z_mnil, z_pnil, z_pcim, z_pcow, z_acim, z_acsl, z_anil, z_mif, z_mandB, z_morB, z_mnotB, z_mandV, z_morV, z_mnotV, z_mmeth, z_fmeth, z_fop2, z_mdr, z_mdrNe, z_mdrLen, z_mdrPop, z_sdr, z_mappend, z_mextend, z_mpopAt, z_mlenO, z_mnilO, z_msl, z_mcall, z_saug, z_mmethL, z_sdraws, z_mtrue, slots_nil, slots_im, slots_sl, argsE, updE, List.nodup_nil, List.nodup_cons, List.not_mem_nil, List.mem_singleton, not_false_eq_true, and_self, and_true, List.nil_append, List.append_nil, List.cons_append, mtg, Zf.setL, setsE, few, blD_b, truD_b, truD_i, truD_l, truD_t, intL_i, intL_b, seqD_l, seqD_t, seqD_s, seqD_c, negD_i, DS.at, DS.put, DS.row, addD_i, subD_i, eqD_i, neD_i, ltD_i, leD_i, gtD_i, geD_i, eqD_s, neD_s, out_l, out_d, okS_s, okW_nil, okW_cons, okM_no, okM_im, okM_mf, okM_mt, okN_no, okN_im, okN_mu, wipeE, List.all_cons, List.all_nil, Bool.and_true, Bool.true_and, Bool.and_self, decide_true, decide_false, reduceIte, if_true, if_false, List.length_cons, List.length_nil, List.getElem?_cons_zero, List.getElem?_cons_succ, List.set_cons_zero, List.set_cons_succ, List.map_cons, List.map_nil, Bool.false_eq_true, Option.some.injEq, Bool.not_true, Bool.not_false, Nat.reduceAdd, Nat.reduceLT, Nat.reduceLeDiff, z_mpop0, intD_i, c1, c2, tu, sm]
theorem turn_ok (ns : List Int) (s : DS) (c : Int) (t2 t3 t4 t5 t6 t7 t8 : Sl) (h3 : okM t3 = true) (h4 : okM t4 = true) (h5 : okM t5 = true) (h6 : okM t6 = true) (h7 : okM t7 = true) (h8 : okM t8 = true) (hs : DOk s c) (hc : c ≤ 600000) :
    ∃ s' u3 u4 u5 u6 u7 u8, (okM u3 = true ∧ okM u4 = true ∧ okM u5 = true ∧ okM u6 = true ∧ okM u7 = true ∧ okM u8 = true) ∧ DOk s' (c + 7000) ∧ b_law_2 (E6 ns s t2 t3 t4 t5 t6 t7 t8) = some (.nx (E6 ns s' t2 u3 u4 u5 u6 u7 u8)) := by
  obtain ⟨w, s1, e1, gw, hs1⟩ := want_ok s c hs (by omega)
  obtain ⟨rs, s2, e2, hr, hl, hs2⟩ := rules_ok' s1 _ hs1 (by omega)
  obtain ⟨n, s3, e3, n0, n1, hs3⟩ := take_ok s2 5 _ hs2 (by decide) (by decide) (by omega)
  obtain ⟨g1, s4, e4, gg1, hs4⟩ := near_ok s3 _ w gw hs3 (by omega)
  obtain ⟨g2, s5, e5, gg2, hs5⟩ := near_ok s4 _ w gw hs4 (by omega)
  obtain ⟨os, hos⟩ : ∃ os, os = O4.take n.toNat := ⟨_, rfl⟩
  have ho : ∀ f ∈ os, f ∈ O4 := fun f hf => by rw [hos] at hf; exact List.mem_of_mem_take hf
  have hol : os.length ≤ 4 := by rw [hos, List.length_take]; exact Nat.min_le_right _ _
  have sl : slD (.lst [.str ("SKIP" : Str), .str ("IGNORE_EXCEPTION_DETAIL" : Str), .str ("REPORT_ONLY_FIRST_FAILURE" : Str), .str ("FAIL_FAST" : Str)]) none (some n) = some (.lst (os.map .str)) := by
    show some (D.lst (cutD _ none (some n))) = _
    rw [cut2 _ _ n0, hos, List.map_take]; rfl
  have q1 : few [.str ("SKIP" : Str), .str ("IGNORE_EXCEPTION_DETAIL" : Str), .str ("REPORT_ONLY_FIRST_FAILURE" : Str), .str ("FAIL_FAST" : Str)] = some [.str ("SKIP" : Str), .str ("IGNORE_EXCEPTION_DETAIL" : Str), .str ("REPORT_ONLY_FIRST_FAILURE" : Str), .str ("FAIL_FAST" : Str)] := rfl
  have q2 : few [.str (ml g1), .str (ml g2), .str (ml w)] = some [.str (ml g1), .str (ml g2), .str (ml w)] := rfl
  obtain ⟨e', f1, s6, u6, u7, u8, k6, k7, k8, hs6, rfl⟩ := forL_inv (t := .one 6) (mb := b_law_1) (fun k e => ∃ s' u6 u7 u8, okM u6 = true ∧ okM u7 = true ∧ okM u8 = true ∧ DOk s' (c + 6100 + 20 * (k : Nat)) ∧ e = E6 ns s' t2 (.im (.str (ml w))) (.im (.lst (rs.map .str))) (.im (.lst (os.map .str))) u6 u7 u8) [.str (ml g1), .str (ml g2), .str (ml w)] 0 (E6 ns s5 t2 (.im (.str (ml w))) (.im (.lst (rs.map .str))) (.im (.lst (os.map .str))) t6 t7 t8) ⟨_, _, _, _, h6, h7, h8, dok_le hs5 (by omega), rfl⟩ (by
    intro i x e hi hp
    obtain ⟨s', u6, u7, u8, k6, k7, k8, hs', rfl⟩ := hp
    have hil := (List.getElem?_eq_some_iff.mp hi).1
    have hil : i < 3 := hil
    have hx : ∃ g, x = .str (ml g) ∧ GT g := by
      have hx := List.mem_of_getElem? hi
      simp only [List.mem_cons, List.not_mem_nil, or_false] at hx
      rcases hx with rfl | rfl | rfl
      · exact ⟨_, rfl, gg1.gt (by decide)⟩
      · exact ⟨_, rfl, gg2.gt (by decide)⟩
      · exact ⟨_, rfl, gw.gt (by decide)⟩
    obtain ⟨g, rfl, gg⟩ := hx
    obtain ⟨s'', v7, v8, z7, z8, hs'', eb⟩ := one_ok ns s' _ t2 u7 u8 w g rs os k7 k8 hr hl ho hol (gw.gt (by decide)) gg hs' (by omega)
    refine ⟨_, _, ?_, .inl eb, s'', _, v7, v8, okM_im, z7, z8, dok_le hs'' (by omega), rfl⟩
    unfold E6
    simp only [z_sseq, z_sset, z_sret, z_sif, z_snx, z_sbk, z_sct, z_sdrop, z_sasg, z_spar, z_sown, z_sfor, z_mop2, z_mc, z_mvar, z_MM_opt, z_MM_map, z_mcons, z_mnil, z_pnil, z_pcim, z_pcow, z_acim, z_acsl, z_anil, z_mif, z_mandB, z_morB, z_mnotB, z_mandV, z_morV, z_mnotV, z_mmeth, z_fmeth, z_fop2, z_mdr, z_mdrNe, z_mdrLen, z_mdrPop, z_sdr, z_mappend, z_mextend, z_mpopAt, z_mlenO, z_mnilO, z_msl, z_mcall, z_saug, z_mmethL, z_sdraws, z_mtrue, slots_nil, slots_im, slots_sl, argsE, updE, List.nodup_nil, List.nodup_cons, List.not_mem_nil, List.mem_singleton, not_false_eq_true, and_self, and_true, List.nil_append, List.append_nil, List.cons_append, mtg, Zf.setL, setsE, few, blD_b, truD_b, truD_i, truD_l, truD_t, intL_i, intL_b, seqD_l, seqD_t, seqD_s, seqD_c, negD_i, DS.at, DS.put, DS.row, addD_i, subD_i, eqD_i, neD_i, ltD_i, leD_i, gtD_i, geD_i, eqD_s, neD_s, out_l, out_d, okS_s, okW_nil, okW_cons, okM_no, okM_im, okM_mf, okM_mt, okN_no, okN_im, okN_mu, wipeE, List.all_cons, List.all_nil, Bool.and_true, Bool.true_and, Bool.and_self, decide_true, decide_false, reduceIte, if_true, if_false, List.length_cons, List.length_nil, List.getElem?_cons_zero, List.getElem?_cons_succ, List.set_cons_zero, List.set_cons_succ, List.map_cons, List.map_nil, Bool.false_eq_true, Option.some.injEq, Bool.not_true, Bool.not_false, Nat.reduceAdd, Nat.reduceLT, Nat.reduceLeDiff, z_mpop0, intD_i, k6])
  refine ⟨s6, .im (.str (ml w)), .im (.lst (rs.map .str)), .im (.lst (os.map .str)), u6, u7, u8, ⟨okM_im, okM_im, okM_im, k6, k7, k8⟩, dok_le hs6 (by simp; omega), ?_⟩
  unfold b_law_2
  refine sseq_nx (e1 := E6 ns s2 t2 (.im (.str (ml w))) (.im (.lst (rs.map .str))) t5 t6 t7 t8) (by unfold E6; simp only [z_sseq, z_sset, z_sret, z_sif, z_snx, z_sbk, z_sct, z_sdrop, z_sasg, z_spar, z_sown, z_sfor, z_mop2, z_mc, z_mvar, z_MM_opt, z_MM_map, z_mcons, z_mnil, z_pnil, z_pcim, z_pcow, z_acim, z_acsl, z_anil, z_mif, z_mandB, z_morB, z_mnotB, z_mandV, z_morV, z_mnotV, z_mmeth, z_fmeth, z_fop2, z_mdr, z_mdrNe, z_mdrLen, z_mdrPop, z_sdr, z_mappend, z_mextend, z_mpopAt, z_mlenO, z_mnilO, z_msl, z_mcall, z_saug, z_mmethL, z_sdraws, z_mtrue, slots_nil, slots_im, slots_sl, argsE, updE, List.nodup_nil, List.nodup_cons, List.not_mem_nil, List.mem_singleton, not_false_eq_true, and_self, and_true, List.nil_append, List.append_nil, List.cons_append, mtg, Zf.setL, setsE, few, blD_b, truD_b, truD_i, truD_l, truD_t, intL_i, intL_b, seqD_l, seqD_t, seqD_s, seqD_c, negD_i, DS.at, DS.put, DS.row, addD_i, subD_i, eqD_i, neD_i, ltD_i, leD_i, gtD_i, geD_i, eqD_s, neD_s, out_l, out_d, okS_s, okW_nil, okW_cons, okM_no, okM_im, okM_mf, okM_mt, okN_no, okN_im, okN_mu, wipeE, List.all_cons, List.all_nil, Bool.and_true, Bool.true_and, Bool.and_self, decide_true, decide_false, reduceIte, if_true, if_false, List.length_cons, List.length_nil, List.getElem?_cons_zero, List.getElem?_cons_succ, List.set_cons_zero, List.set_cons_succ, List.map_cons, List.map_nil, Bool.false_eq_true, Option.some.injEq, Bool.not_true, Bool.not_false, Nat.reduceAdd, Nat.reduceLT, Nat.reduceLeDiff, z_mpop0, intD_i, e1, e2, h3, h4]) ?_
  refine sseq_nx (e1 := E6 ns s3 t2 (.im (.str (ml w))) (.im (.lst (rs.map .str))) (.im (.lst (os.map .str))) t6 t7 t8) (by unfold E6; simp only [z_sseq, z_sset, z_sret, z_sif, z_snx, z_sbk, z_sct, z_sdrop, z_sasg, z_spar, z_sown, z_sfor, z_mop2, z_mc, z_mvar, z_MM_opt, z_MM_map, z_mcons, z_mnil, z_pnil, z_pcim, z_pcow, z_acim, z_acsl, z_anil, z_mif, z_mandB, z_morB, z_mnotB, z_mandV, z_morV, z_mnotV, z_mmeth, z_fmeth, z_fop2, z_mdr, z_mdrNe, z_mdrLen, z_mdrPop, z_sdr, z_mappend, z_mextend, z_mpopAt, z_mlenO, z_mnilO, z_msl, z_mcall, z_saug, z_mmethL, z_sdraws, z_mtrue, slots_nil, slots_im, slots_sl, argsE, updE, List.nodup_nil, List.nodup_cons, List.not_mem_nil, List.mem_singleton, not_false_eq_true, and_self, and_true, List.nil_append, List.append_nil, List.cons_append, mtg, Zf.setL, setsE, few, blD_b, truD_b, truD_i, truD_l, truD_t, intL_i, intL_b, seqD_l, seqD_t, seqD_s, seqD_c, negD_i, DS.at, DS.put, DS.row, addD_i, subD_i, eqD_i, neD_i, ltD_i, leD_i, gtD_i, geD_i, eqD_s, neD_s, out_l, out_d, okS_s, okW_nil, okW_cons, okM_no, okM_im, okM_mf, okM_mt, okN_no, okN_im, okN_mu, wipeE, List.all_cons, List.all_nil, Bool.and_true, Bool.true_and, Bool.and_self, decide_true, decide_false, reduceIte, if_true, if_false, List.length_cons, List.length_nil, List.getElem?_cons_zero, List.getElem?_cons_succ, List.set_cons_zero, List.set_cons_succ, List.map_cons, List.map_nil, Bool.false_eq_true, Option.some.injEq, Bool.not_true, Bool.not_false, Nat.reduceAdd, Nat.reduceLT, Nat.reduceLeDiff, z_mpop0, intD_i, q1, e3, sl, intD, h5]) ?_
  have : MM.opt (MM.map (MM.opt (mcons (mcall F_law_near [] (acsl 1 (acim (mvar 3) (anil)))) (mcons (mcall F_law_near [] (acsl 1 (acim (mvar 3) (anil)))) (mcons (mvar 3) (mnil)))) few) .tup) seqD (E6 ns s3 t2 (.im (.str (ml w))) (.im (.lst (rs.map .str))) (.im (.lst (os.map .str))) t6 t7 t8) = some ([.str (ml g1), .str (ml g2), .str (ml w)], E6 ns s5 t2 (.im (.str (ml w))) (.im (.lst (rs.map .str))) (.im (.lst (os.map .str))) t6 t7 t8) := by
    unfold E6
    simp only [z_sseq, z_sset, z_sret, z_sif, z_snx, z_sbk, z_sct, z_sdrop, z_sasg, z_spar, z_sown, z_sfor, z_mop2, z_mc, z_mvar, z_MM_opt, z_MM_map, z_mcons, z_mnil, z_pnil, z_pcim, z_pcow, z_acim, z_acsl, z_anil, z_mif, z_mandB, z_morB, z_mnotB, z_mandV, z_morV, z_mnotV, z_mmeth, z_fmeth, z_fop2, z_mdr, z_mdrNe, z_mdrLen, z_mdrPop, z_sdr, z_mappend, z_mextend, z_mpopAt, z_mlenO, z_mnilO, z_msl, z_mcall, z_saug, z_mmethL, z_sdraws, z_mtrue, slots_nil, slots_im, slots_sl, argsE, updE, List.nodup_nil, List.nodup_cons, List.not_mem_nil, List.mem_singleton, not_false_eq_true, and_self, and_true, List.nil_append, List.append_nil, List.cons_append, mtg, Zf.setL, setsE, few, blD_b, truD_b, truD_i, truD_l, truD_t, intL_i, intL_b, seqD_l, seqD_t, seqD_s, seqD_c, negD_i, DS.at, DS.put, DS.row, addD_i, subD_i, eqD_i, neD_i, ltD_i, leD_i, gtD_i, geD_i, eqD_s, neD_s, out_l, out_d, okS_s, okW_nil, okW_cons, okM_no, okM_im, okM_mf, okM_mt, okN_no, okN_im, okN_mu, wipeE, List.all_cons, List.all_nil, Bool.and_true, Bool.true_and, Bool.and_self, decide_true, decide_false, reduceIte, if_true, if_false, List.length_cons, List.length_nil, List.getElem?_cons_zero, List.getElem?_cons_succ, List.set_cons_zero, List.set_cons_succ, List.map_cons, List.map_nil, Bool.false_eq_true, Option.some.injEq, Bool.not_true, Bool.not_false, Nat.reduceAdd, Nat.reduceLT, Nat.reduceLeDiff, z_mpop0, intD_i, e4, e5, q2, seqD]
  rw [z_sfor, this]
  exact f1
theorem law_true : ∀ ns : List Int, ns.length ≤ 63 → ∃ news, F_law [.im (.scr ns)] = some (.bl true, news) := fun ns hl => by
  have hd0 : DOk ⟨fA ns, 0, fB ns, 0⟩ 0 := ⟨Int.le_refl _, Int.le_refl _, Nat.le_trans (List.length_filter_le _ _) hl⟩
  obtain ⟨e', h1, ⟨s', u2, u3, u4, u5, u6, u7, u8, -, ⟨k3, k4, k5, k6, k7, k8⟩, -, rfl⟩⟩ := forL_inv (t := .one 2) (mb := b_law_2) (fun k e => ∃ s' u2 u3 u4 u5 u6 u7 u8, okM u2 = true ∧ (okM u3 = true ∧ okM u4 = true ∧ okM u5 = true ∧ okM u6 = true ∧ okM u7 = true ∧ okM u8 = true) ∧ DOk s' (7000 * (k : Nat)) ∧ e = E6 ns s' u2 u3 u4 u5 u6 u7 u8) (rngD 0 14) 0 (E6 ns ⟨fA ns, 0, fB ns, 0⟩ .no .no .no .no .no .no .no) ⟨_, _, _, _, _, _, _, _, rfl, ⟨rfl, rfl, rfl, rfl, rfl, rfl⟩, hd0, rfl⟩ (by
    intro i x e hi hp
    obtain ⟨s, u2, u3, u4, u5, u6, u7, u8, h2, ⟨h3, h4, h5, h6, h7, h8⟩, hs, rfl⟩ := hp
    obtain ⟨rfl, hin⟩ := rng_at hi
    obtain ⟨s', v3, v4, v5, v6, v7, v8, g, hs', eb⟩ := turn_ok ns s _ (.im (.int i)) u3 u4 u5 u6 u7 u8 h3 h4 h5 h6 h7 h8 hs (by omega)
    refine ⟨_, _, ?_, .inl eb, s', _, _, _, _, _, _, _, okM_im, g, dok_le hs' (by omega), rfl⟩
    unfold E6
    simp only [z_sseq, z_sset, z_sret, z_sif, z_snx, z_sbk, z_sct, z_sdrop, z_sasg, z_spar, z_sown, z_sfor, z_mop2, z_mc, z_mvar, z_MM_opt, z_MM_map, z_mcons, z_mnil, z_pnil, z_pcim, z_pcow, z_acim, z_acsl, z_anil, z_mif, z_mandB, z_morB, z_mnotB, z_mandV, z_morV, z_mnotV, z_mmeth, z_fmeth, z_fop2, z_mdr, z_mdrNe, z_mdrLen, z_mdrPop, z_sdr, z_mappend, z_mextend, z_mpopAt, z_mlenO, z_mnilO, z_msl, z_mcall, z_saug, z_mmethL, z_sdraws, z_mtrue, slots_nil, slots_im, slots_sl, argsE, updE, List.nodup_nil, List.nodup_cons, List.not_mem_nil, List.mem_singleton, not_false_eq_true, and_self, and_true, List.nil_append, List.append_nil, List.cons_append, mtg, Zf.setL, setsE, few, blD_b, truD_b, truD_i, truD_l, truD_t, intL_i, intL_b, seqD_l, seqD_t, seqD_s, seqD_c, negD_i, DS.at, DS.put, DS.row, addD_i, subD_i, eqD_i, neD_i, ltD_i, leD_i, gtD_i, geD_i, eqD_s, neD_s, out_l, out_d, okS_s, okW_nil, okW_cons, okM_no, okM_im, okM_mf, okM_mt, okN_no, okN_im, okN_mu, wipeE, List.all_cons, List.all_nil, Bool.and_true, Bool.true_and, Bool.and_self, decide_true, decide_false, reduceIte, if_true, if_false, List.length_cons, List.length_nil, List.getElem?_cons_zero, List.getElem?_cons_succ, List.set_cons_zero, List.set_cons_succ, List.map_cons, List.map_nil, Bool.false_eq_true, Option.some.injEq, Bool.not_true, Bool.not_false, Nat.reduceAdd, Nat.reduceLT, Nat.reduceLeDiff, z_mpop0, intD_i, h2])
  have c1 := check_d "a ...\n" "a \n" ["ELLIPSIS"] (.lst [.str ("ELLIPSIS" : Str)]) (.inl rfl) (by decide +kernel) (by decide) (by decide +kernel) (by decide +kernel)
  have c2 := check_d "a ...\n" "a \n" ["ELLIPSIS", "NORMALIZE_WHITESPACE"] (.lst [.str ("ELLIPSIS" : Str), .str ("NORMALIZE_WHITESPACE" : Str)]) (.inl rfl) (by decide +kernel) (by decide) (by decide +kernel) (by decide +kernel)
  rw [show decide (letsP ["ELLIPSIS"] ("a ...\n" : Str).cps.toList ("a \n" : Str).cps.toList) = true by decide +kernel] at c1
  rw [show decide (letsP ["ELLIPSIS", "NORMALIZE_WHITESPACE"] ("a ...\n" : Str).cps.toList ("a \n" : Str).cps.toList) = false by decide +kernel] at c2
  have sl : slD (.lst [.str ("ELLIPSIS" : Str), .str ("NORMALIZE_WHITESPACE" : Str)]) none (some 1) = some (.lst [.str ("ELLIPSIS" : Str)]) := rfl
  have i1 : isBD (.bl true) (.bl true) = some (.bl true) := rfl
  have i2 : isBD (.bl false) (.bl false) = some (.bl true) := rfl
  have rg : rng1D [.int 14] = some (rngD 0 14) := rng1_n (n := 14) (by decide) (by decide)
  have qI : few [.str ("ELLIPSIS" : Str), .str ("NORMALIZE_WHITESPACE" : Str)] = some [.str ("ELLIPSIS" : Str), .str ("NORMALIZE_WHITESPACE" : Str)] := rfl
  have body : m_law [.im (.scr ns), .no, .no, .no, .no, .no, .no, .no, .no] = some (.rt (.bl true) (E6 ns s' u2 u3 (.im (.lst [.str ("ELLIPSIS" : Str), .str ("NORMALIZE_WHITESPACE" : Str)])) u5 u6 u7 u8)) := by
    unfold m_law
    refine sseq_nx (e1 := E6 ns ⟨fA ns, 0, fB ns, 0⟩ .no .no .no .no .no .no .no) (by unfold E6; simp only [z_sseq, z_sset, z_sret, z_sif, z_snx, z_sbk, z_sct, z_sdrop, z_sasg, z_spar, z_sown, z_sfor, z_mop2, z_mc, z_mvar, z_MM_opt, z_MM_map, z_mcons, z_mnil, z_pnil, z_pcim, z_pcow, z_acim, z_acsl, z_anil, z_mif, z_mandB, z_morB, z_mnotB, z_mandV, z_morV, z_mnotV, z_mmeth, z_fmeth, z_fop2, z_mdr, z_mdrNe, z_mdrLen, z_mdrPop, z_sdr, z_mappend, z_mextend, z_mpopAt, z_mlenO, z_mnilO, z_msl, z_mcall, z_saug, z_mmethL, z_sdraws, z_mtrue, slots_nil, slots_im, slots_sl, argsE, updE, List.nodup_nil, List.nodup_cons, List.not_mem_nil, List.mem_singleton, not_false_eq_true, and_self, and_true, List.nil_append, List.append_nil, List.cons_append, mtg, Zf.setL, setsE, few, blD_b, truD_b, truD_i, truD_l, truD_t, intL_i, intL_b, seqD_l, seqD_t, seqD_s, seqD_c, negD_i, DS.at, DS.put, DS.row, addD_i, subD_i, eqD_i, neD_i, ltD_i, leD_i, gtD_i, geD_i, eqD_s, neD_s, out_l, out_d, okS_s, okW_nil, okW_cons, okM_no, okM_im, okM_mf, okM_mt, okN_no, okN_im, okN_mu, wipeE, List.all_cons, List.all_nil, Bool.and_true, Bool.true_and, Bool.and_self, decide_true, decide_false, reduceIte, if_true, if_false, List.length_cons, List.length_nil, List.getElem?_cons_zero, List.getElem?_cons_succ, List.set_cons_zero, List.set_cons_succ, List.map_cons, List.map_nil, Bool.false_eq_true, Option.some.injEq, Bool.not_true, Bool.not_false, Nat.reduceAdd, Nat.reduceLT, Nat.reduceLeDiff, z_mpop0, intD_i, hl]) ?_
    refine sseq_nx (e1 := E6 ns s' u2 u3 u4 u5 u6 u7 u8) (by
      rw [z_sfor]
      have : MM.opt (mcons (mc (.int 14)) (mnil)) rng1D (E6 ns ⟨fA ns, 0, fB ns, 0⟩ .no .no .no .no .no .no .no) = some (rngD 0 14, E6 ns ⟨fA ns, 0, fB ns, 0⟩ .no .no .no .no .no .no .no) := by
        simp only [z_sseq, z_sset, z_sret, z_sif, z_snx, z_sbk, z_sct, z_sdrop, z_sasg, z_spar, z_sown, z_sfor, z_mop2, z_mc, z_mvar, z_MM_opt, z_MM_map, z_mcons, z_mnil, z_pnil, z_pcim, z_pcow, z_acim, z_acsl, z_anil, z_mif, z_mandB, z_morB, z_mnotB, z_mandV, z_morV, z_mnotV, z_mmeth, z_fmeth, z_fop2, z_mdr, z_mdrNe, z_mdrLen, z_mdrPop, z_sdr, z_mappend, z_mextend, z_mpopAt, z_mlenO, z_mnilO, z_msl, z_mcall, z_saug, z_mmethL, z_sdraws, z_mtrue, slots_nil, slots_im, slots_sl, argsE, updE, List.nodup_nil, List.nodup_cons, List.not_mem_nil, List.mem_singleton, not_false_eq_true, and_self, and_true, List.nil_append, List.append_nil, List.cons_append, mtg, Zf.setL, setsE, few, blD_b, truD_b, truD_i, truD_l, truD_t, intL_i, intL_b, seqD_l, seqD_t, seqD_s, seqD_c, negD_i, DS.at, DS.put, DS.row, addD_i, subD_i, eqD_i, neD_i, ltD_i, leD_i, gtD_i, geD_i, eqD_s, neD_s, out_l, out_d, okS_s, okW_nil, okW_cons, okM_no, okM_im, okM_mf, okM_mt, okN_no, okN_im, okN_mu, wipeE, List.all_cons, List.all_nil, Bool.and_true, Bool.true_and, Bool.and_self, decide_true, decide_false, reduceIte, if_true, if_false, List.length_cons, List.length_nil, List.getElem?_cons_zero, List.getElem?_cons_succ, List.set_cons_zero, List.set_cons_succ, List.map_cons, List.map_nil, Bool.false_eq_true, Option.some.injEq, Bool.not_true, Bool.not_false, Nat.reduceAdd, Nat.reduceLT, Nat.reduceLeDiff, z_mpop0, intD_i, rg]
      rw [this]
      exact h1) ?_
    refine sseq_nx (e1 := E6 ns s' u2 u3 (.im (.lst [.str ("ELLIPSIS" : Str), .str ("NORMALIZE_WHITESPACE" : Str)])) u5 u6 u7 u8) (by unfold E6; simp only [z_sseq, z_sset, z_sret, z_sif, z_snx, z_sbk, z_sct, z_sdrop, z_sasg, z_spar, z_sown, z_sfor, z_mop2, z_mc, z_mvar, z_MM_opt, z_MM_map, z_mcons, z_mnil, z_pnil, z_pcim, z_pcow, z_acim, z_acsl, z_anil, z_mif, z_mandB, z_morB, z_mnotB, z_mandV, z_morV, z_mnotV, z_mmeth, z_fmeth, z_fop2, z_mdr, z_mdrNe, z_mdrLen, z_mdrPop, z_sdr, z_mappend, z_mextend, z_mpopAt, z_mlenO, z_mnilO, z_msl, z_mcall, z_saug, z_mmethL, z_sdraws, z_mtrue, slots_nil, slots_im, slots_sl, argsE, updE, List.nodup_nil, List.nodup_cons, List.not_mem_nil, List.mem_singleton, not_false_eq_true, and_self, and_true, List.nil_append, List.append_nil, List.cons_append, mtg, Zf.setL, setsE, few, blD_b, truD_b, truD_i, truD_l, truD_t, intL_i, intL_b, seqD_l, seqD_t, seqD_s, seqD_c, negD_i, DS.at, DS.put, DS.row, addD_i, subD_i, eqD_i, neD_i, ltD_i, leD_i, gtD_i, geD_i, eqD_s, neD_s, out_l, out_d, okS_s, okW_nil, okW_cons, okM_no, okM_im, okM_mf, okM_mt, okN_no, okN_im, okN_mu, wipeE, List.all_cons, List.all_nil, Bool.and_true, Bool.true_and, Bool.and_self, decide_true, decide_false, reduceIte, if_true, if_false, List.length_cons, List.length_nil, List.getElem?_cons_zero, List.getElem?_cons_succ, List.set_cons_zero, List.set_cons_succ, List.map_cons, List.map_nil, Bool.false_eq_true, Option.some.injEq, Bool.not_true, Bool.not_false, Nat.reduceAdd, Nat.reduceLT, Nat.reduceLeDiff, z_mpop0, intD_i, qI, k4]) ?_
    unfold E6
    simp only [z_sseq, z_sset, z_sret, z_sif, z_snx, z_sbk, z_sct, z_sdrop, z_sasg, z_spar, z_sown, z_sfor, z_mop2, z_mc, z_mvar, z_MM_opt, z_MM_map, z_mcons, z_mnil, z_pnil, z_pcim, z_pcow, z_acim, z_acsl, z_anil, z_mif, z_mandB, z_morB, z_mnotB, z_mandV, z_morV, z_mnotV, z_mmeth, z_fmeth, z_fop2, z_mdr, z_mdrNe, z_mdrLen, z_mdrPop, z_sdr, z_mappend, z_mextend, z_mpopAt, z_mlenO, z_mnilO, z_msl, z_mcall, z_saug, z_mmethL, z_sdraws, z_mtrue, slots_nil, slots_im, slots_sl, argsE, updE, List.nodup_nil, List.nodup_cons, List.not_mem_nil, List.mem_singleton, not_false_eq_true, and_self, and_true, List.nil_append, List.append_nil, List.cons_append, mtg, Zf.setL, setsE, few, blD_b, truD_b, truD_i, truD_l, truD_t, intL_i, intL_b, seqD_l, seqD_t, seqD_s, seqD_c, negD_i, DS.at, DS.put, DS.row, addD_i, subD_i, eqD_i, neD_i, ltD_i, leD_i, gtD_i, geD_i, eqD_s, neD_s, out_l, out_d, okS_s, okW_nil, okW_cons, okM_no, okM_im, okM_mf, okM_mt, okN_no, okN_im, okN_mu, wipeE, List.all_cons, List.all_nil, Bool.and_true, Bool.true_and, Bool.and_self, decide_true, decide_false, reduceIte, if_true, if_false, List.length_cons, List.length_nil, List.getElem?_cons_zero, List.getElem?_cons_succ, List.set_cons_zero, List.set_cons_succ, List.map_cons, List.map_nil, Bool.false_eq_true, Option.some.injEq, Bool.not_true, Bool.not_false, Nat.reduceAdd, Nat.reduceLT, Nat.reduceLeDiff, z_mpop0, intD_i, c1, c2, sl, intD, i1, i2]
  exact ⟨_, fnM_rt (n := 9) (args := [.im (.scr ns)]) (m := m_law) body⟩
end Zz

set_option Elab.async false
set_option linter.all false
set_option maxRecDepth 100000
set_option maxHeartbeats 0
namespace Zz
open PySem PySem.Spec L2 Zf
def top (i : Nat) : Stmt := PySem.Challenge.pw_promptyard_k06_whole_stages_together.main.body.getD i (.Pass ⟨0, 0, 0, 0⟩)
abbrev s0 : Stmt := top 1
def d0 : He.DefD := ⟨("frozen", none), "frozen", "frozen", defArgs s0, defBody s0, defScope s0, [], []⟩
abbrev s1 : Stmt := inClass (top 3) 0
def d1 : He.DefD := ⟨("BadFlag", some "__init__"), "__init__", "BadFlag.__init__", defArgs s1, defBody s1, defScope s1, [], []⟩
abbrev s2 : Stmt := top 15
def d2 : He.DefD := ⟨("checked_flags", none), "checked_flags", "checked_flags", defArgs s2, defBody s2, defScope s2, [], []⟩
abbrev s3 : Stmt := top 20
def d3 : He.DefD := ⟨("is_blank", none), "is_blank", "is_blank", defArgs s3, defBody s3, defScope s3, [], []⟩
abbrev s4 : Stmt := top 21
def d4 : He.DefD := ⟨("markers_cleared", none), "markers_cleared", "markers_cleared", defArgs s4, defBody s4, defScope s4, [], []⟩
abbrev s5 : Stmt := top 22
def d5 : He.DefD := ⟨("blanks_cleared", none), "blanks_cleared", "blanks_cleared", defArgs s5, defBody s5, defScope s5, [], []⟩
abbrev s6 : Stmt := top 23
def d6 : He.DefD := ⟨("words_joined", none), "words_joined", "words_joined", defArgs s6, defBody s6, defScope s6, [], []⟩
abbrev s7 : Stmt := top 24
def d7 : He.DefD := ⟨("fits_pieces", none), "fits_pieces", "fits_pieces", defArgs s7, defBody s7, defScope s7, [], []⟩
abbrev s8 : Stmt := top 25
def d8 : He.DefD := ⟨("is_let_by", none), "is_let_by", "is_let_by", defArgs s8, defBody s8, defScope s8, [], []⟩
abbrev s9 : Stmt := top 26
def d9 : He.DefD := ⟨("check", none), "check", "check", defArgs s9, defBody s9, defScope s9, [.adr (He.dflAt ("check", none) 0)], []⟩
abbrev s10 : Stmt := top 28
def d10 : He.DefD := ⟨("_law_draws", none), "_law_draws", "_law_draws", defArgs s10, defBody s10, defScope s10, [], []⟩
abbrev s11 : Stmt := top 29
def d11 : He.DefD := ⟨("_law_mixed", none), "_law_mixed", "_law_mixed", defArgs s11, defBody s11, defScope s11, [], []⟩
abbrev s12 : Stmt := top 30
def d12 : He.DefD := ⟨("_law_take", none), "_law_take", "_law_take", defArgs s12, defBody s12, defScope s12, [], []⟩
abbrev s13 : Stmt := top 31
def d13 : He.DefD := ⟨("_law_same", none), "_law_same", "_law_same", defArgs s13, defBody s13, defScope s13, [], []⟩
abbrev s14 : Stmt := top 32
def d14 : He.DefD := ⟨("_law_pick", none), "_law_pick", "_law_pick", defArgs s14, defBody s14, defScope s14, [], []⟩
abbrev s15 : Stmt := top 33
def d15 : He.DefD := ⟨("_law_cleared", none), "_law_cleared", "_law_cleared", defArgs s15, defBody s15, defScope s15, [], []⟩
abbrev s16 : Stmt := top 34
def d16 : He.DefD := ⟨("_law_words", none), "_law_words", "_law_words", defArgs s16, defBody s16, defScope s16, [], []⟩
abbrev s17 : Stmt := top 35
def d17 : He.DefD := ⟨("_law_pieces", none), "_law_pieces", "_law_pieces", defArgs s17, defBody s17, defScope s17, [], []⟩
abbrev s18 : Stmt := top 36
def d18 : He.DefD := ⟨("_law_fits", none), "_law_fits", "_law_fits", defArgs s18, defBody s18, defScope s18, [], []⟩
abbrev s19 : Stmt := top 37
def d19 : He.DefD := ⟨("_law_lets", none), "_law_lets", "_law_lets", defArgs s19, defBody s19, defScope s19, [], []⟩
abbrev s20 : Stmt := top 38
def d20 : He.DefD := ⟨("_law_rules", none), "_law_rules", "_law_rules", defArgs s20, defBody s20, defScope s20, [], []⟩
abbrev s21 : Stmt := top 39
def d21 : He.DefD := ⟨("_law_handed", none), "_law_handed", "_law_handed", defArgs s21, defBody s21, defScope s21, [], []⟩
abbrev s22 : Stmt := top 40
def d22 : He.DefD := ⟨("_law_want", none), "_law_want", "_law_want", defArgs s22, defBody s22, defScope s22, [], []⟩
abbrev s23 : Stmt := top 41
def d23 : He.DefD := ⟨("_law_near", none), "_law_near", "_law_near", defArgs s23, defBody s23, defScope s23, [], []⟩
abbrev s24 : Stmt := top 42
def d24 : He.DefD := ⟨("law", none), "law", "law", defArgs s24, defBody s24, defScope s24, [], []⟩
def fn : List He.DefD := [d0, d1, d2, d3, d4, d5, d6, d7, d8, d9, d10, d11, d12, d13, d14, d15, d16, d17, d18, d19, d20, d21, d22, d23, d24]
def fa : List He.Fa := [.free "isinstance", .free "dict", .free "list", .free "tuple", .glo "frozen", .free "str", .glo "FLAGS", .glo "checked_flags", .glo "is_blank", .str "MARKER" "<BLANKLINE>", .free "len", .glo "markers_cleared", .glo "blanks_cleared", .glo "words_joined", .glo "fits_pieces", .str "TRUE_FOR_1" "DONT_ACCEPT_TRUE_FOR_1", .glo "TRUTHS", .str "BLANK_LINE" "DONT_ACCEPT_BLANKLINE", .str "WHITE_SPACE" "NORMALIZE_WHITESPACE", .str "ELLIPSIS" "ELLIPSIS", .str "DOTS" "...", .glo "is_let_by", .glo "check", .glo "_law_draws", .free "int", .glo "_law_mixed", .glo "_law_take", .free "zip", .free "all", .free "bool", .glo "_law_same", .glo "_law_pick", .glo "_law_cleared", .glo "_law_words", .glo "_law_pieces", .free "enumerate", .free "min", .free "range", .glo "_law_fits", .glo "_law_lets", .glo "_law_rules", .glo "_law_handed", .glo "_law_want", .glo "_law_near", .glo "law"]
def ts : List He.Tab := [(fun K => He.ga K "TRUTHS", ["1\n", "0\n"])]
def cl (K : PySem.W.Frag) (n : Nat) : Addr := 0
def exL (K : PySem.W.Frag) : List Bool := [He.tupB K "FLAGS" [.str "DONT_ACCEPT_TRUE_FOR_1", .str "DONT_ACCEPT_BLANKLINE", .str "NORMALIZE_WHITESPACE", .str "ELLIPSIS", .str "SKIP", .str "IGNORE_EXCEPTION_DETAIL", .str "REPORT_ONLY_FIRST_FAILURE", .str "FAIL_FAST"], tabB K "TRUTHS" [("1\n", .str "True\n"), ("0\n", .str "False\n")], emptB K (He.dflAt ("check", none) 0 K), noneB K]
def exK (K : PySem.W.Frag) : Bool := (exL K).all id
def loose0 : List PySem.Str := ["__name__", "frozen", "PromptError", "BadFlag", "TRUE_FOR_1", "BLANK_LINE", "WHITE_SPACE", "ELLIPSIS", "SKIP", "NO_DETAIL", "FIRST_ONLY", "FAIL_FAST", "COMPARING", "FLAGS", "checked_flags", "MARKER", "DOTS", "TRUTHS", "is_blank", "markers_cleared", "blanks_cleared", "words_joined", "fits_pieces", "is_let_by", "check", "_law_draws", "_law_mixed", "_law_take", "_law_same", "_law_pick"]
def loose1 : List PySem.Str := ["_law_cleared", "_law_words", "_law_pieces", "_law_fits", "_law_lets", "_law_rules", "_law_handed", "_law_want", "_law_near"]
def loose : List PySem.Str := loose0 ++ loose1
section
variable {P : Program} {w : World} {K : PySem.W.Frag} {base : Heap}
theorem f_frozen_r0 {h : Heap} {mg : Str → Option Value} (KX : K.In h) (G : h.Ns mainGlobals mg) (c : He.SaysX fa fn ts [] exK w h K) : ∃ fd : FuncData, FunD K "frozen" "frozen" (defArgs s0) (defBody s0) (defScope s0) ([]) ([]) (He.fAd K ("frozen", none)) fd ∧ FnOk P w K mg base CX0 2 (He.fAd K ("frozen", none)) fd ["thing"] (spM K (cl K) 1 F_frozen_r0) := by
  obtain ⟨fd, F⟩ := c.t.d.def_ 0 (d := d0) rfl
  have F : FunD K "frozen" "frozen" (defArgs s0) (defBody s0) (defScope s0) ([]) ([]) (He.fAd K ("frozen", none)) fd := F
  have nd : (["thing", "key", "part"] : List Str).Nodup := by decide +kernel
  have sc : FnScope ["thing", "key", "part"] ["thing"] (defScope s0) := ⟨rfl, rfl, rfl, nd, rfl, by decide +kernel, by decide +kernel⟩
  refine ⟨fd, F, fn_ok (cl := cl K) (n := 1) (nN := 3) (sm := m_frozen_r0) F sc (by decide) rfl rfl (fun cdv A outer s H E hr =>
    ess_cons (es_if (eb_tru (em_isi "dict" (He.free_ok KX G (c.t.d.fact 0 (f := .free "isinstance") rfl)) (He.free_ok KX G (c.t.d.fact 1 (f := .free "dict") rfl)) (em_var 0))) (ess_one (es_ret (em_bad))) (ess_nil)) <|
    ess_one (es_ret (em_if (eb_tru (em_isiT "list" "tuple" (He.free_ok KX G (c.t.d.fact 0 (f := .free "isinstance") rfl)) (He.free_ok KX G (c.t.d.fact 2 (f := .free "list") rfl)) (He.free_ok KX G (c.t.d.fact 3 (f := .free "tuple") rfl)) (em_var 0))) (em_callTy call_tuple_of ok_tuple (He.free_ok KX G (c.t.d.fact 3 (f := .free "tuple") rfl)) (by decide +kernel) (ea_cons (em_ef (ef_lc (own := [("part", 2)]) nd (ei_any (em_var 0)) (by kernel_rfl) (fun _ _ _ _ _ => (pg_name (i := 2) nd rfl (by first | exact Or.inl rfl | exact Or.inr rfl))) (fun _ _ _ _ _ => ets_nil) (fun _ _ _ _ _ => em_bad))) (ea_nil))) (em_var 0))))⟩
theorem c_frozen_r0 {h : Heap} {mg : Str → Option Value} (KX : K.In h) (G : h.Ns mainGlobals mg) (c : He.SaysX fa fn ts [] exK w h K) : Cal P w K mg base (cl K) "frozen" 2 1 [] F_frozen_r0 := by
  obtain ⟨fd, F, h⟩ := f_frozen_r0 (P := P) (base := base) KX G c
  exact ⟨_, fd, _, [], [], h, He.glo_ok KX G (c.t.d.fact 4 (f := .glo "frozen") rfl), F.kp, F.bindsN (fun _ _ _ _ _ _ us hl => match us, hl with | [_], _ => rfl), .nil, fun _ => .nil⟩
theorem f_frozen_r1 {h : Heap} {mg : Str → Option Value} (KX : K.In h) (G : h.Ns mainGlobals mg) (c : He.SaysX fa fn ts [] exK w h K) : ∃ fd : FuncData, FunD K "frozen" "frozen" (defArgs s0) (defBody s0) (defScope s0) ([]) ([]) (He.fAd K ("frozen", none)) fd ∧ FnOk P w K mg base CX0 4 (He.fAd K ("frozen", none)) fd ["thing"] (spM K (cl K) 1 F_frozen_r1) := by
  obtain ⟨fd, F⟩ := c.t.d.def_ 0 (d := d0) rfl
  have F : FunD K "frozen" "frozen" (defArgs s0) (defBody s0) (defScope s0) ([]) ([]) (He.fAd K ("frozen", none)) fd := F
  have nd : (["thing", "key", "part"] : List Str).Nodup := by decide +kernel
  have sc : FnScope ["thing", "key", "part"] ["thing"] (defScope s0) := ⟨rfl, rfl, rfl, nd, rfl, by decide +kernel, by decide +kernel⟩
  refine ⟨fd, F, fn_ok (cl := cl K) (n := 1) (nN := 3) (sm := m_frozen_r1) F sc (by decide) rfl rfl (fun cdv A outer s H E hr =>
    ess_cons (es_if (eb_tru (em_isi "dict" (He.free_ok KX G (c.t.d.fact 0 (f := .free "isinstance") rfl)) (He.free_ok KX G (c.t.d.fact 1 (f := .free "dict") rfl)) (em_var 0))) (ess_one (es_ret (em_bad))) (ess_nil)) <|
    ess_one (es_ret (em_if (eb_tru (em_isiT "list" "tuple" (He.free_ok KX G (c.t.d.fact 0 (f := .free "isinstance") rfl)) (He.free_ok KX G (c.t.d.fact 2 (f := .free "list") rfl)) (He.free_ok KX G (c.t.d.fact 3 (f := .free "tuple") rfl)) (em_var 0))) (em_callTy call_tuple_of ok_tuple (He.free_ok KX G (c.t.d.fact 3 (f := .free "tuple") rfl)) (by decide +kernel) (ea_cons (em_ef (ef_lc (own := [("part", 2)]) nd (ei_any (em_var 0)) (by kernel_rfl) (fun _ _ _ _ _ => (pg_name (i := 2) nd rfl (by first | exact Or.inl rfl | exact Or.inr rfl))) (fun _ _ _ _ _ => ets_nil) (fun _ _ _ _ _ => em_call (c_frozen_r0 KX G c) (hr.mono (by decide)) (er_im (em_var 2) (er_nil)) len_frozen_r0 (an_ok (an_im an_nil') rfl)))) (ea_nil))) (em_var 0))))⟩
theorem c_frozen_r1 {h : Heap} {mg : Str → Option Value} (KX : K.In h) (G : h.Ns mainGlobals mg) (c : He.SaysX fa fn ts [] exK w h K) : Cal P w K mg base (cl K) "frozen" 4 1 [] F_frozen_r1 := by
  obtain ⟨fd, F, h⟩ := f_frozen_r1 (P := P) (base := base) KX G c
  exact ⟨_, fd, _, [], [], h, He.glo_ok KX G (c.t.d.fact 4 (f := .glo "frozen") rfl), F.kp, F.bindsN (fun _ _ _ _ _ _ us hl => match us, hl with | [_], _ => rfl), .nil, fun _ => .nil⟩
theorem f_frozen_r2 {h : Heap} {mg : Str → Option Value} (KX : K.In h) (G : h.Ns mainGlobals mg) (c : He.SaysX fa fn ts [] exK w h K) : ∃ fd : FuncData, FunD K "frozen" "frozen" (defArgs s0) (defBody s0) (defScope s0) ([]) ([]) (He.fAd K ("frozen", none)) fd ∧ FnOk P w K mg base CX0 6 (He.fAd K ("frozen", none)) fd ["thing"] (spM K (cl K) 1 F_frozen_r2) := by
  obtain ⟨fd, F⟩ := c.t.d.def_ 0 (d := d0) rfl
  have F : FunD K "frozen" "frozen" (defArgs s0) (defBody s0) (defScope s0) ([]) ([]) (He.fAd K ("frozen", none)) fd := F
  have nd : (["thing", "key", "part"] : List Str).Nodup := by decide +kernel
  have sc : FnScope ["thing", "key", "part"] ["thing"] (defScope s0) := ⟨rfl, rfl, rfl, nd, rfl, by decide +kernel, by decide +kernel⟩
  refine ⟨fd, F, fn_ok (cl := cl K) (n := 1) (nN := 3) (sm := m_frozen_r2) F sc (by decide) rfl rfl (fun cdv A outer s H E hr =>
    ess_cons (es_if (eb_tru (em_isi "dict" (He.free_ok KX G (c.t.d.fact 0 (f := .free "isinstance") rfl)) (He.free_ok KX G (c.t.d.fact 1 (f := .free "dict") rfl)) (em_var 0))) (ess_one (es_ret (em_bad))) (ess_nil)) <|
    ess_one (es_ret (em_if (eb_tru (em_isiT "list" "tuple" (He.free_ok KX G (c.t.d.fact 0 (f := .free "isinstance") rfl)) (He.free_ok KX G (c.t.d.fact 2 (f := .free "list") rfl)) (He.free_ok KX G (c.t.d.fact 3 (f := .free "tuple") rfl)) (em_var 0))) (em_callTy call_tuple_of ok_tuple (He.free_ok KX G (c.t.d.fact 3 (f := .free "tuple") rfl)) (by decide +kernel) (ea_cons (em_ef (ef_lc (own := [("part", 2)]) nd (ei_any (em_var 0)) (by kernel_rfl) (fun _ _ _ _ _ => (pg_name (i := 2) nd rfl (by first | exact Or.inl rfl | exact Or.inr rfl))) (fun _ _ _ _ _ => ets_nil) (fun _ _ _ _ _ => em_call (c_frozen_r1 KX G c) (hr.mono (by decide)) (er_im (em_var 2) (er_nil)) len_frozen_r1 (an_ok (an_im an_nil') rfl)))) (ea_nil))) (em_var 0))))⟩
theorem c_frozen_r2 {h : Heap} {mg : Str → Option Value} (KX : K.In h) (G : h.Ns mainGlobals mg) (c : He.SaysX fa fn ts [] exK w h K) : Cal P w K mg base (cl K) "frozen" 6 1 [] F_frozen_r2 := by
  obtain ⟨fd, F, h⟩ := f_frozen_r2 (P := P) (base := base) KX G c
  exact ⟨_, fd, _, [], [], h, He.glo_ok KX G (c.t.d.fact 4 (f := .glo "frozen") rfl), F.kp, F.bindsN (fun _ _ _ _ _ _ us hl => match us, hl with | [_], _ => rfl), .nil, fun _ => .nil⟩
theorem f_frozen {h : Heap} {mg : Str → Option Value} (KX : K.In h) (G : h.Ns mainGlobals mg) (c : He.SaysX fa fn ts [] exK w h K) : ∃ fd : FuncData, FunD K "frozen" "frozen" (defArgs s0) (defBody s0) (defScope s0) ([]) ([]) (He.fAd K ("frozen", none)) fd ∧ FnOk P w K mg base CX0 8 (He.fAd K ("frozen", none)) fd ["thing"] (spM K (cl K) 1 F_frozen) := by
  obtain ⟨fd, F⟩ := c.t.d.def_ 0 (d := d0) rfl
  have F : FunD K "frozen" "frozen" (defArgs s0) (defBody s0) (defScope s0) ([]) ([]) (He.fAd K ("frozen", none)) fd := F
  have nd : (["thing", "key", "part"] : List Str).Nodup := by decide +kernel
  have sc : FnScope ["thing", "key", "part"] ["thing"] (defScope s0) := ⟨rfl, rfl, rfl, nd, rfl, by decide +kernel, by decide +kernel⟩
  refine ⟨fd, F, fn_ok (cl := cl K) (n := 1) (nN := 3) (sm := m_frozen) F sc (by decide) rfl rfl (fun cdv A outer s H E hr =>
    ess_cons (es_if (eb_tru (em_isi "dict" (He.free_ok KX G (c.t.d.fact 0 (f := .free "isinstance") rfl)) (He.free_ok KX G (c.t.d.fact 1 (f := .free "dict") rfl)) (em_var 0))) (ess_one (es_ret (em_bad))) (ess_nil)) <|
    ess_one (es_ret (em_if (eb_tru (em_isiT "list" "tuple" (He.free_ok KX G (c.t.d.fact 0 (f := .free "isinstance") rfl)) (He.free_ok KX G (c.t.d.fact 2 (f := .free "list") rfl)) (He.free_ok KX G (c.t.d.fact 3 (f := .free "tuple") rfl)) (em_var 0))) (em_callTy call_tuple_of ok_tuple (He.free_ok KX G (c.t.d.fact 3 (f := .free "tuple") rfl)) (by decide +kernel) (ea_cons (em_ef (ef_lc (own := [("part", 2)]) nd (ei_any (em_var 0)) (by kernel_rfl) (fun _ _ _ _ _ => (pg_name (i := 2) nd rfl (by first | exact Or.inl rfl | exact Or.inr rfl))) (fun _ _ _ _ _ => ets_nil) (fun _ _ _ _ _ => em_call (c_frozen_r2 KX G c) (hr.mono (by decide)) (er_im (em_var 2) (er_nil)) len_frozen_r2 (an_ok (an_im an_nil') rfl)))) (ea_nil))) (em_var 0))))⟩
theorem c_frozen {h : Heap} {mg : Str → Option Value} (KX : K.In h) (G : h.Ns mainGlobals mg) (c : He.SaysX fa fn ts [] exK w h K) : Cal P w K mg base (cl K) "frozen" 8 1 [] F_frozen := by
  obtain ⟨fd, F, h⟩ := f_frozen (P := P) (base := base) KX G c
  exact ⟨_, fd, _, [], [], h, He.glo_ok KX G (c.t.d.fact 4 (f := .glo "frozen") rfl), F.kp, F.bindsN (fun _ _ _ _ _ _ us hl => match us, hl with | [_], _ => rfl), .nil, fun _ => .nil⟩
theorem f_checked_flags {h : Heap} {mg : Str → Option Value} (KX : K.In h) (G : h.Ns mainGlobals mg) (c : He.SaysX fa fn ts [] exK w h K) : ∃ fd : FuncData, FunD K "checked_flags" "checked_flags" (defArgs s2) (defBody s2) (defScope s2) ([]) ([]) (He.fAd K ("checked_flags", none)) fd ∧ FnOk P w K mg base CX0 2 (He.fAd K ("checked_flags", none)) fd ["flags"] (spM K (cl K) 1 F_checked_flags) := by
  obtain ⟨fd, F⟩ := c.t.d.def_ 2 (d := d2) rfl
  have F : FunD K "checked_flags" "checked_flags" (defArgs s2) (defBody s2) (defScope s2) ([]) ([]) (He.fAd K ("checked_flags", none)) fd := F
  have nd : (["flags", "flag"] : List Str).Nodup := by decide +kernel
  have sc : FnScope ["flags", "flag"] ["flags"] (defScope s2) := ⟨rfl, rfl, rfl, nd, rfl, by decide +kernel, by decide +kernel⟩
  refine ⟨fd, F, fn_ok (cl := cl K) (n := 1) (nN := 2) (sm := m_checked_flags) F sc (by decide) rfl rfl (fun cdv A outer s H E hr =>
    ess_cons (es_for (t := (.one 1)) (ei_any (em_var 0)) (pg_name (i := 1) nd rfl (by first | exact Or.inl rfl | exact Or.inr rfl)) (ess_one (es_if (eb_w (ew_or (eb_not (eb_tru (em_isi "str" (He.free_ok KX G (c.t.d.fact 0 (f := .free "isinstance") rfl)) (He.free_ok KX G (c.t.d.fact 5 (f := .free "str") rfl)) (em_var 1)))) (ew_or1 (eb_cmp op_ninA ok_nin (by rfl) (em_var 1) (em_glob (v := .ref (He.ga K "FLAGS")) (glob_ref (He.glo_ok KX G (c.t.d.fact 6 (f := .glo "FLAGS") rfl))) (fun I => rep_tupB (vs := [.str "DONT_ACCEPT_TRUE_FOR_1", .str "DONT_ACCEPT_BLANKLINE", .str "NORMALIZE_WHITESPACE", .str "ELLIPSIS", .str "SKIP", .str "IGNORE_EXCEPTION_DETAIL", .str "REPORT_ONLY_FIRST_FAILURE", .str "FAIL_FAST"]) (all_at c.more 0 rfl) rfl I)))))) (ess_one (es_bad)) (ess_nil)))) <|
    ess_one (es_ret (em_callTy call_tuple_of ok_tuple (He.free_ok KX G (c.t.d.fact 3 (f := .free "tuple") rfl)) (by decide +kernel) (ea_cons (em_var 0) (ea_nil)))))⟩
theorem c_checked_flags {h : Heap} {mg : Str → Option Value} (KX : K.In h) (G : h.Ns mainGlobals mg) (c : He.SaysX fa fn ts [] exK w h K) : Cal P w K mg base (cl K) "checked_flags" 2 1 [] F_checked_flags := by
  obtain ⟨fd, F, h⟩ := f_checked_flags (P := P) (base := base) KX G c
  exact ⟨_, fd, _, [], [], h, He.glo_ok KX G (c.t.d.fact 7 (f := .glo "checked_flags") rfl), F.kp, F.bindsN (fun _ _ _ _ _ _ us hl => match us, hl with | [_], _ => rfl), .nil, fun _ => .nil⟩
theorem f_is_blank {h : Heap} {mg : Str → Option Value} (KX : K.In h) (G : h.Ns mainGlobals mg) (c : He.SaysX fa fn ts [] exK w h K) : ∃ fd : FuncData, FunD K "is_blank" "is_blank" (defArgs s3) (defBody s3) (defScope s3) ([]) ([]) (He.fAd K ("is_blank", none)) fd ∧ FnOk P w K mg base CX0 2 (He.fAd K ("is_blank", none)) fd ["line"] (spM K (cl K) 1 F_is_blank) := by
  obtain ⟨fd, F⟩ := c.t.d.def_ 3 (d := d3) rfl
  have F : FunD K "is_blank" "is_blank" (defArgs s3) (defBody s3) (defScope s3) ([]) ([]) (He.fAd K ("is_blank", none)) fd := F
  have nd : (["line"] : List Str).Nodup := by decide +kernel
  have sc : FnScope ["line"] ["line"] (defScope s3) := ⟨rfl, rfl, rfl, nd, rfl, by decide +kernel, by decide +kernel⟩
  refine ⟨fd, F, fn_ok (cl := cl K) (n := 1) (nN := 1) (sm := m_is_blank) F sc (by decide) rfl rfl (fun cdv A outer s H E hr =>
    ess_one (es_ret (em_cmp (op_eqA hr) ok_eq (nomark _) (em_sm PySem.F.plainAttrs_str PySem.F.slot_str_strip PySem.F.type_str_strip mt_stripChars ok_strip (em_var 0) (ea_cons (em_str) (ea_nil))) (em_str))))⟩
theorem c_is_blank {h : Heap} {mg : Str → Option Value} (KX : K.In h) (G : h.Ns mainGlobals mg) (c : He.SaysX fa fn ts [] exK w h K) : Cal P w K mg base (cl K) "is_blank" 2 1 [] F_is_blank := by
  obtain ⟨fd, F, h⟩ := f_is_blank (P := P) (base := base) KX G c
  exact ⟨_, fd, _, [], [], h, He.glo_ok KX G (c.t.d.fact 8 (f := .glo "is_blank") rfl), F.kp, F.bindsN (fun _ _ _ _ _ _ us hl => match us, hl with | [_], _ => rfl), .nil, fun _ => .nil⟩
theorem f_markers_cleared {h : Heap} {mg : Str → Option Value} (KX : K.In h) (G : h.Ns mainGlobals mg) (c : He.SaysX fa fn ts [] exK w h K) : ∃ fd : FuncData, FunD K "markers_cleared" "markers_cleared" (defArgs s4) (defBody s4) (defScope s4) ([]) ([]) (He.fAd K ("markers_cleared", none)) fd ∧ FnOk P w K mg base CX0 4 (He.fAd K ("markers_cleared", none)) fd ["want"] (spM K (cl K) 1 F_markers_cleared) := by
  obtain ⟨fd, F⟩ := c.t.d.def_ 4 (d := d4) rfl
  have F : FunD K "markers_cleared" "markers_cleared" (defArgs s4) (defBody s4) (defScope s4) ([]) ([]) (He.fAd K ("markers_cleared", none)) fd := F
  have nd : (["want", "lines", "line"] : List Str).Nodup := by decide +kernel
  have sc : FnScope ["want", "lines", "line"] ["want"] (defScope s4) := ⟨rfl, rfl, rfl, nd, rfl, by decide +kernel, by decide +kernel⟩
  refine ⟨fd, F, fn_ok (cl := cl K) (n := 1) (nN := 3) (sm := m_markers_cleared) F sc (by decide) rfl rfl (fun cdv A outer s H E hr =>
    ess_cons (es_set 1 nd (em_ef (ef_sm PySem.F.plainAttrs_str PySem.F.slot_str_split PySem.F.type_str_split mt_split okf_split (em_var 0) (ea_cons (em_str) (ea_nil))))) <|
    ess_one (es_ret (em_sm PySem.F.plainAttrs_str PySem.F.slot_str_join PySem.F.type_str_join mt_join ok_join (em_str) (ea_cons (em_ef (ef_lc (own := [("line", 2)]) nd (ei_any (em_var 1)) (by kernel_rfl) (fun _ _ _ _ _ => (pg_name (i := 2) nd rfl (by first | exact Or.inl rfl | exact Or.inr rfl))) (fun _ _ _ _ _ => ets_nil) (fun _ _ _ _ _ => em_if (eb_w (ew_and (eb_tru (em_sm PySem.F.plainAttrs_str PySem.F.slot_str_startswith PySem.F.type_str_startswith mt_startswith ok_starts (em_var 2) (ea_cons (em_glob (v := .str "<BLANKLINE>") (glob_str (He.str_ok KX G (c.t.d.fact 9 (f := .str "MARKER" "<BLANKLINE>") rfl))) (fun _ => .str _)) (ea_nil)))) (ew_and1 (eb_tru (em_call (c_is_blank KX G c) (hr.mono (by decide)) (er_im (em_sl (em_var 2) (eo_some (em_callB call_len ok_len (He.free_ok KX G (c.t.d.fact 10 (f := .free "len") rfl)) (by decide +kernel) (ea_cons (em_glob (v := .str "<BLANKLINE>") (glob_str (He.str_ok KX G (c.t.d.fact 9 (f := .str "MARKER" "<BLANKLINE>") rfl))) (fun _ => .str _)) (ea_nil)))) (eo_none)) (er_nil)) len_is_blank (an_ok (an_im an_nil') rfl)))))) (em_str) (em_var 2)))) (ea_nil)))))⟩
theorem c_markers_cleared {h : Heap} {mg : Str → Option Value} (KX : K.In h) (G : h.Ns mainGlobals mg) (c : He.SaysX fa fn ts [] exK w h K) : Cal P w K mg base (cl K) "markers_cleared" 4 1 [] F_markers_cleared := by
  obtain ⟨fd, F, h⟩ := f_markers_cleared (P := P) (base := base) KX G c
  exact ⟨_, fd, _, [], [], h, He.glo_ok KX G (c.t.d.fact 11 (f := .glo "markers_cleared") rfl), F.kp, F.bindsN (fun _ _ _ _ _ _ us hl => match us, hl with | [_], _ => rfl), .nil, fun _ => .nil⟩
theorem f_blanks_cleared {h : Heap} {mg : Str → Option Value} (KX : K.In h) (G : h.Ns mainGlobals mg) (c : He.SaysX fa fn ts [] exK w h K) : ∃ fd : FuncData, FunD K "blanks_cleared" "blanks_cleared" (defArgs s5) (defBody s5) (defScope s5) ([]) ([]) (He.fAd K ("blanks_cleared", none)) fd ∧ FnOk P w K mg base CX0 4 (He.fAd K ("blanks_cleared", none)) fd ["got"] (spM K (cl K) 1 F_blanks_cleared) := by
  obtain ⟨fd, F⟩ := c.t.d.def_ 5 (d := d5) rfl
  have F : FunD K "blanks_cleared" "blanks_cleared" (defArgs s5) (defBody s5) (defScope s5) ([]) ([]) (He.fAd K ("blanks_cleared", none)) fd := F
  have nd : (["got", "line"] : List Str).Nodup := by decide +kernel
  have sc : FnScope ["got", "line"] ["got"] (defScope s5) := ⟨rfl, rfl, rfl, nd, rfl, by decide +kernel, by decide +kernel⟩
  refine ⟨fd, F, fn_ok (cl := cl K) (n := 1) (nN := 2) (sm := m_blanks_cleared) F sc (by decide) rfl rfl (fun cdv A outer s H E hr =>
    ess_one (es_ret (em_sm PySem.F.plainAttrs_str PySem.F.slot_str_join PySem.F.type_str_join mt_join ok_join (em_str) (ea_cons (em_ef (ef_lc (own := [("line", 1)]) nd (ei_any (em_ef (ef_sm PySem.F.plainAttrs_str PySem.F.slot_str_split PySem.F.type_str_split mt_split okf_split (em_var 0) (ea_cons (em_str) (ea_nil))))) (by kernel_rfl) (fun _ _ _ _ _ => (pg_name (i := 1) nd rfl (by first | exact Or.inl rfl | exact Or.inr rfl))) (fun _ _ _ _ _ => ets_nil) (fun _ _ _ _ _ => em_if (eb_tru (em_call (c_is_blank KX G c) (hr.mono (by decide)) (er_im (em_var 1) (er_nil)) len_is_blank (an_ok (an_im an_nil') rfl))) (em_str) (em_var 1)))) (ea_nil)))))⟩
theorem c_blanks_cleared {h : Heap} {mg : Str → Option Value} (KX : K.In h) (G : h.Ns mainGlobals mg) (c : He.SaysX fa fn ts [] exK w h K) : Cal P w K mg base (cl K) "blanks_cleared" 4 1 [] F_blanks_cleared := by
  obtain ⟨fd, F, h⟩ := f_blanks_cleared (P := P) (base := base) KX G c
  exact ⟨_, fd, _, [], [], h, He.glo_ok KX G (c.t.d.fact 12 (f := .glo "blanks_cleared") rfl), F.kp, F.bindsN (fun _ _ _ _ _ _ us hl => match us, hl with | [_], _ => rfl), .nil, fun _ => .nil⟩
theorem f_words_joined {h : Heap} {mg : Str → Option Value} (KX : K.In h) (G : h.Ns mainGlobals mg) (c : He.SaysX fa fn ts [] exK w h K) : ∃ fd : FuncData, FunD K "words_joined" "words_joined" (defArgs s6) (defBody s6) (defScope s6) ([]) ([]) (He.fAd K ("words_joined", none)) fd ∧ FnOk P w K mg base CX0 2 (He.fAd K ("words_joined", none)) fd ["text"] (spM K (cl K) 1 F_words_joined) := by
  obtain ⟨fd, F⟩ := c.t.d.def_ 6 (d := d6) rfl
  have F : FunD K "words_joined" "words_joined" (defArgs s6) (defBody s6) (defScope s6) ([]) ([]) (He.fAd K ("words_joined", none)) fd := F
  have nd : (["text"] : List Str).Nodup := by decide +kernel
  have sc : FnScope ["text"] ["text"] (defScope s6) := ⟨rfl, rfl, rfl, nd, rfl, by decide +kernel, by decide +kernel⟩
  refine ⟨fd, F, fn_ok (cl := cl K) (n := 1) (nN := 1) (sm := m_words_joined) F sc (by decide) rfl rfl (fun cdv A outer s H E hr =>
    ess_one (es_ret (em_sm PySem.F.plainAttrs_str PySem.F.slot_str_join PySem.F.type_str_join mt_join ok_join (em_str) (ea_cons (em_ef (ef_sm0 PySem.F.plainAttrs_str PySem.F.slot_str_split PySem.F.type_str_split mt_words okf_words (em_var 0))) (ea_nil)))))⟩
theorem c_words_joined {h : Heap} {mg : Str → Option Value} (KX : K.In h) (G : h.Ns mainGlobals mg) (c : He.SaysX fa fn ts [] exK w h K) : Cal P w K mg base (cl K) "words_joined" 2 1 [] F_words_joined := by
  obtain ⟨fd, F, h⟩ := f_words_joined (P := P) (base := base) KX G c
  exact ⟨_, fd, _, [], [], h, He.glo_ok KX G (c.t.d.fact 13 (f := .glo "words_joined") rfl), F.kp, F.bindsN (fun _ _ _ _ _ _ us hl => match us, hl with | [_], _ => rfl), .nil, fun _ => .nil⟩
theorem f_fits_pieces {h : Heap} {mg : Str → Option Value} (KX : K.In h) (G : h.Ns mainGlobals mg) (c : He.SaysX fa fn ts [] exK w h K) : ∃ fd : FuncData, FunD K "fits_pieces" "fits_pieces" (defArgs s7) (defBody s7) (defScope s7) ([]) ([]) (He.fAd K ("fits_pieces", none)) fd ∧ FnOk P w K mg base CX0 2 (He.fAd K ("fits_pieces", none)) fd ["pieces", "got"] (spM K (cl K) 2 F_fits_pieces) := by
  obtain ⟨fd, F⟩ := c.t.d.def_ 7 (d := d7) rfl
  have F : FunD K "fits_pieces" "fits_pieces" (defArgs s7) (defBody s7) (defScope s7) ([]) ([]) (He.fAd K ("fits_pieces", none)) fd := F
  have nd : (["pieces", "got", "at", "end", "piece"] : List Str).Nodup := by decide +kernel
  have sc : FnScope ["pieces", "got", "at", "end", "piece"] ["pieces", "got"] (defScope s7) := ⟨rfl, rfl, rfl, nd, rfl, by decide +kernel, by decide +kernel⟩
  refine ⟨fd, F, fn_ok (cl := cl K) (n := 2) (nN := 5) (sm := m_fits_pieces) F sc (by decide) rfl rfl (fun cdv A outer s H E hr =>
    ess_cons (es_if (eb_cmp op_ltA ok_cmp (nomark _) (em_callB call_len ok_len (He.free_ok KX G (c.t.d.fact 10 (f := .free "len") rfl)) (by decide +kernel) (ea_cons (em_var 1) (ea_nil))) (em_op op_addA ok_add (em_callB call_len ok_len (He.free_ok KX G (c.t.d.fact 10 (f := .free "len") rfl)) (by decide +kernel) (ea_cons (em_ix (em_var 0) (em_int)) (ea_nil))) (em_callB call_len ok_len (He.free_ok KX G (c.t.d.fact 10 (f := .free "len") rfl)) (by decide +kernel) (ea_cons (em_ix (em_var 0) (em_neg (em_int))) (ea_nil))))) (ess_one (es_ret (em_bl))) (ess_nil)) <|
    ess_cons (es_if (eb_w (ew_or (eb_not (eb_tru (em_sm PySem.F.plainAttrs_str PySem.F.slot_str_startswith PySem.F.type_str_startswith mt_startswith ok_starts (em_var 1) (ea_cons (em_ix (em_var 0) (em_int)) (ea_nil))))) (ew_or1 (eb_not (eb_tru (em_sm PySem.F.plainAttrs_str PySem.F.slot_str_endswith PySem.F.type_str_endswith mt_endswith ok_ends (em_var 1) (ea_cons (em_ix (em_var 0) (em_neg (em_int))) (ea_nil)))))))) (ess_one (es_ret (em_bl))) (ess_nil)) <|
    ess_cons (es_par2 2 3 nd (ep_im (em_callB call_len ok_len (He.free_ok KX G (c.t.d.fact 10 (f := .free "len") rfl)) (by decide +kernel) (ea_cons (em_ix (em_var 0) (em_int)) (ea_nil))) (ep_im (em_op op_sub ok_sub (em_callB call_len ok_len (He.free_ok KX G (c.t.d.fact 10 (f := .free "len") rfl)) (by decide +kernel) (ea_cons (em_var 1) (ea_nil))) (em_callB call_len ok_len (He.free_ok KX G (c.t.d.fact 10 (f := .free "len") rfl)) (by decide +kernel) (ea_cons (em_ix (em_var 0) (em_neg (em_int))) (ea_nil)))) (ep_nil)))) <|
    ess_cons (es_for (t := (.one 4)) (ei_any (em_sl (em_var 0) (eo_some (em_int)) (eo_some (em_neg (em_int))))) (pg_name (i := 4) nd rfl (by first | exact Or.inl rfl | exact Or.inr rfl)) (ess_cons (es_set 2 nd (em_sm PySem.F.plainAttrs_str PySem.F.slot_str_find PySem.F.type_str_find mt_find4 ok_find4 (em_var 1) (ea_cons (em_var 4) (ea_cons (em_var 2) (ea_cons (em_var 3) (ea_nil)))))) <|
    ess_cons (es_if (eb_cmp op_ltA ok_cmp (nomark _) (em_var 2) (em_int)) (ess_one (es_ret (em_bl))) (ess_nil)) <|
    ess_one (es_set 2 nd (em_op op_addA ok_add (em_var 2) (em_callB call_len ok_len (He.free_ok KX G (c.t.d.fact 10 (f := .free "len") rfl)) (by decide +kernel) (ea_cons (em_var 4) (ea_nil))))))) <|
    ess_one (es_ret (em_bl)))⟩
theorem c_fits_pieces {h : Heap} {mg : Str → Option Value} (KX : K.In h) (G : h.Ns mainGlobals mg) (c : He.SaysX fa fn ts [] exK w h K) : Cal P w K mg base (cl K) "fits_pieces" 2 2 [] F_fits_pieces := by
  obtain ⟨fd, F, h⟩ := f_fits_pieces (P := P) (base := base) KX G c
  exact ⟨_, fd, _, [], [], h, He.glo_ok KX G (c.t.d.fact 14 (f := .glo "fits_pieces") rfl), F.kp, F.bindsN (fun _ _ _ _ _ _ us hl => match us, hl with | [_, _], _ => rfl), .nil, fun _ => .nil⟩
theorem f_is_let_by {h : Heap} {mg : Str → Option Value} (KX : K.In h) (G : h.Ns mainGlobals mg) (c : He.SaysX fa fn ts [] exK w h K) : ∃ fd : FuncData, FunD K "is_let_by" "is_let_by" (defArgs s8) (defBody s8) (defScope s8) ([]) ([]) (He.fAd K ("is_let_by", none)) fd ∧ FnOk P w K mg base CX0 6 (He.fAd K ("is_let_by", none)) fd ["want", "got", "rules"] (spM K (cl K) 3 F_is_let_by) := by
  obtain ⟨fd, F⟩ := c.t.d.def_ 8 (d := d8) rfl
  have F : FunD K "is_let_by" "is_let_by" (defArgs s8) (defBody s8) (defScope s8) ([]) ([]) (He.fAd K ("is_let_by", none)) fd := F
  have nd : (["want", "got", "rules", "pieces"] : List Str).Nodup := by decide +kernel
  have sc : FnScope ["want", "got", "rules", "pieces"] ["want", "got", "rules"] (defScope s8) := ⟨rfl, rfl, rfl, nd, rfl, by decide +kernel, by decide +kernel⟩
  refine ⟨fd, F, fn_ok (cl := cl K) (n := 3) (nN := 4) (sm := m_is_let_by) F sc (by decide) rfl rfl (fun cdv A outer s H E hr =>
    ess_cons (es_if (eb_w (ew_or (eb_cmp (op_eqA hr) ok_eq (nomark _) (em_var 0) (em_var 1)) (ew_or1 (eb_w (ew_and (eb_cmp op_ninA ok_nin (by rfl) (em_glob (v := .str "DONT_ACCEPT_TRUE_FOR_1") (glob_str (He.str_ok KX G (c.t.d.fact 15 (f := .str "TRUE_FOR_1" "DONT_ACCEPT_TRUE_FOR_1") rfl))) (fun _ => .str _)) (em_var 2)) (ew_and (eb_inTab (c.t.tab 0 rfl).choose_spec.choose_spec (all_at c.more 1 rfl) (He.glo_ok KX G (c.t.d.fact 16 (f := .glo "TRUTHS") rfl)) (em_var 0)) (ew_and1 (eb_cmp (op_eqA hr) ok_eq (nomark _) (em_ixTab (c.t.tab 0 rfl).choose_spec.choose_spec (all_at c.more 1 rfl) rfl (He.glo_ok KX G (c.t.d.fact 16 (f := .glo "TRUTHS") rfl)) (em_var 0)) (em_var 1))))))))) (ess_one (es_ret (em_bl))) (ess_nil)) <|
    ess_cons (es_if (eb_cmp op_ninA ok_nin (by rfl) (em_glob (v := .str "DONT_ACCEPT_BLANKLINE") (glob_str (He.str_ok KX G (c.t.d.fact 17 (f := .str "BLANK_LINE" "DONT_ACCEPT_BLANKLINE") rfl))) (fun _ => .str _)) (em_var 2)) (ess_one (es_par2 0 1 nd (ep_im (em_call (c_markers_cleared KX G c) (hr.mono (by decide)) (er_im (em_var 0) (er_nil)) len_markers_cleared (an_ok (an_im an_nil') rfl)) (ep_im (em_call (c_blanks_cleared KX G c) (hr.mono (by decide)) (er_im (em_var 1) (er_nil)) len_blanks_cleared (an_ok (an_im an_nil') rfl)) (ep_nil))))) (ess_nil)) <|
    ess_cons (es_if (eb_cmp op_inA ok_in (by rfl) (em_glob (v := .str "NORMALIZE_WHITESPACE") (glob_str (He.str_ok KX G (c.t.d.fact 18 (f := .str "WHITE_SPACE" "NORMALIZE_WHITESPACE") rfl))) (fun _ => .str _)) (em_var 2)) (ess_one (es_par2 0 1 nd (ep_im (em_call (c_words_joined KX G c) (hr.mono (by decide)) (er_im (em_var 0) (er_nil)) len_words_joined (an_ok (an_im an_nil') rfl)) (ep_im (em_call (c_words_joined KX G c) (hr.mono (by decide)) (er_im (em_var 1) (er_nil)) len_words_joined (an_ok (an_im an_nil') rfl)) (ep_nil))))) (ess_nil)) <|
    ess_cons (es_set 3 nd (em_if (eb_cmp op_inA ok_in (by rfl) (em_glob (v := .str "ELLIPSIS") (glob_str (He.str_ok KX G (c.t.d.fact 19 (f := .str "ELLIPSIS" "ELLIPSIS") rfl))) (fun _ => .str _)) (em_var 2)) (em_ef (ef_sm PySem.F.plainAttrs_str PySem.F.slot_str_split PySem.F.type_str_split mt_split okf_split (em_var 0) (ea_cons (em_glob (v := .str "...") (glob_str (He.str_ok KX G (c.t.d.fact 20 (f := .str "DOTS" "...") rfl))) (fun _ => .str _)) (ea_nil)))) (em_ef (ef_lst (ea_cons (em_var 0) (ea_nil)))))) <|
    ess_one (es_ret (em_or (em_cmp (op_eqA hr) ok_eq (nomark _) (em_var 0) (em_var 1)) (em_one (em_and (em_cmp op_gtA ok_cmp (nomark _) (em_callB call_len ok_len (He.free_ok KX G (c.t.d.fact 10 (f := .free "len") rfl)) (by decide +kernel) (ea_cons (em_var 3) (ea_nil))) (em_int)) (em_one (em_call (c_fits_pieces KX G c) (hr.mono (by decide)) (er_im (em_var 3) (er_im (em_var 1) (er_nil))) len_fits_pieces (an_ok (an_im (an_im an_nil')) rfl))))))))⟩
theorem c_is_let_by {h : Heap} {mg : Str → Option Value} (KX : K.In h) (G : h.Ns mainGlobals mg) (c : He.SaysX fa fn ts [] exK w h K) : Cal P w K mg base (cl K) "is_let_by" 6 3 [] F_is_let_by := by
  obtain ⟨fd, F, h⟩ := f_is_let_by (P := P) (base := base) KX G c
  exact ⟨_, fd, _, [], [], h, He.glo_ok KX G (c.t.d.fact 21 (f := .glo "is_let_by") rfl), F.kp, F.bindsN (fun _ _ _ _ _ _ us hl => match us, hl with | [_, _, _], _ => rfl), .nil, fun _ => .nil⟩
theorem f_check {h : Heap} {mg : Str → Option Value} (KX : K.In h) (G : h.Ns mainGlobals mg) (c : He.SaysX fa fn ts [] exK w h K) : ∃ fd : FuncData, FunD K "check" "check" (defArgs s9) (defBody s9) (defScope s9) (d9.dvs K) ([]) (He.fAd K ("check", none)) fd ∧ FnOk P w K mg base CX0 8 (He.fAd K ("check", none)) fd ["want", "got", "flags"] (spM K (cl K) 3 F_check) := by
  obtain ⟨fd, F⟩ := c.t.d.def_ 9 (d := d9) rfl
  have F : FunD K "check" "check" (defArgs s9) (defBody s9) (defScope s9) (d9.dvs K) ([]) (He.fAd K ("check", none)) fd := F
  have nd : (["want", "got", "flags"] : List Str).Nodup := by decide +kernel
  have sc : FnScope ["want", "got", "flags"] ["want", "got", "flags"] (defScope s9) := ⟨rfl, rfl, rfl, nd, rfl, by decide +kernel, by decide +kernel⟩
  refine ⟨fd, F, fn_ok (cl := cl K) (n := 3) (nN := 3) (sm := m_check) F sc (by decide) rfl rfl (fun cdv A outer s H E hr =>
    ess_one (es_ret (em_call (c_is_let_by KX G c) (hr.mono (by decide)) (er_im (em_var 0) (er_im (em_var 1) (er_im (em_call (c_checked_flags KX G c) (hr.mono (by decide)) (er_im (em_var 2) (er_nil)) len_checked_flags (an_ok (an_im an_nil') rfl)) (er_nil)))) len_is_let_by (an_ok (an_im (an_im (an_im an_nil'))) rfl))))⟩
theorem c_check_2 {h : Heap} {mg : Str → Option Value} (KX : K.In h) (G : h.Ns mainGlobals mg) (c : He.SaysX fa fn ts [] exK w h K) : Cal P w K mg base (cl K) "check" 8 3 [.tup []] F_check := by
  obtain ⟨fd, F, h⟩ := f_check (P := P) (base := base) KX G c
  obtain ⟨ds, hv, hb⟩ := F.binds1 (ps := ["want", "got", "flags"]) 2 0 (fun z => nomatch z) rfl (fun _ _ _ _ _ _ _ us its hl hi => match us, its, hl, hi with | [_, _], [_], _, _ => ⟨_, rfl, rfl⟩)
  exact ⟨_, fd, _, ds, _, h, He.glo_ok KX G (c.t.d.fact 22 (f := .glo "check") rfl), F.kp, hb, hv, fun I => (.cons (rep_empt (all_at c.more 2 rfl) I) .nil)⟩
theorem c_check {h : Heap} {mg : Str → Option Value} (KX : K.In h) (G : h.Ns mainGlobals mg) (c : He.SaysX fa fn ts [] exK w h K) : Cal P w K mg base (cl K) "check" 8 3 [] F_check := by
  obtain ⟨fd, F, h⟩ := f_check (P := P) (base := base) KX G c
  obtain ⟨ds, hv, hb⟩ := F.binds1 (ps := ["want", "got", "flags"]) 3 1 (fun z => nomatch z) rfl (fun _ _ _ _ _ _ _ us its hl hi => match us, its, hl, hi with | [_, _, _], [_], _, _ => ⟨_, rfl, rfl⟩)
  exact ⟨_, fd, _, ds, _, h, He.glo_ok KX G (c.t.d.fact 22 (f := .glo "check") rfl), F.kp, hb, hv, fun I => .nil⟩
theorem c_law_draws {h : Heap} {mg : Str → Option Value} (KX : K.In h) (G : h.Ns mainGlobals mg) (c : He.SaysX fa fn ts [] exK w h K) : CalDr P w K mg base "_law_draws" 2 fA fB := by
  obtain ⟨fd, F⟩ := c.t.d.def_ 10 (d := d10) rfl
  have F : FunD K "_law_draws" "_law_draws" (defArgs s10) (defBody s10) (defScope s10) [] [] (He.fAd K ("_law_draws", none)) fd := F
  have nd : (["script", "item"] : List Str).Nodup := by decide +kernel
  have sc : FnScope ["script", "item"] ["script"] (defScope s10) := ⟨rfl, rfl, rfl, nd, rfl, by decide +kernel, by decide +kernel⟩
  refine ⟨_, fd, fn_draws (cl := cl K) (m := m_law_draws) F sc (by decide) (fun cdv A outer s H E hr => pss_one (ps_ret (pe_lst (ep_ow (ef_lc (own := [("item", 1)]) nd (ei_any (em_var 0)) (by kernel_rfl) (fun _ _ _ _ _ => (pg_name (i := 1) nd rfl (by first | exact Or.inl rfl | exact Or.inr rfl))) (fun _ _ _ _ _ => ets_one (eb_cmp op_geA ok_cmp (nomark _) (em_var 1) (em_op op_pow ok_pow (em_int) (em_int)))) (fun _ _ _ _ _ => em_var 1)) (ep_im (em_int) (ep_ow (ef_lc (own := [("item", 1)]) nd (ei_any (em_var 0)) (by kernel_rfl) (fun _ _ _ _ _ => (pg_name (i := 1) nd rfl (by first | exact Or.inl rfl | exact Or.inr rfl))) (fun _ _ _ _ _ => ets_one (eb_cmp op_ltA ok_cmp (nomark _) (em_var 1) (em_op op_pow ok_pow (em_int) (em_int)))) (fun _ _ _ _ _ => em_var 1)) (ep_im (em_int) (ep_nil)))))))) mir_law_draws, He.glo_ok KX G (c.t.d.fact 23 (f := .glo "_law_draws") rfl), F.kp, F.bindsN (fun _ _ _ _ _ _ us hl => match us, hl with | [_], _ => rfl)⟩
theorem f_law_mixed {h : Heap} {mg : Str → Option Value} (KX : K.In h) (G : h.Ns mainGlobals mg) (c : He.SaysX fa fn ts [] exK w h K) : ∃ fd : FuncData, FunD K "_law_mixed" "_law_mixed" (defArgs s11) (defBody s11) (defScope s11) ([]) ([]) (He.fAd K ("_law_mixed", none)) fd ∧ FnOk P w K mg base CX0 2 (He.fAd K ("_law_mixed", none)) fd ["seed", "k"] (spM K (cl K) 2 F_law_mixed) := by
  obtain ⟨fd, F⟩ := c.t.d.def_ 11 (d := d11) rfl
  have F : FunD K "_law_mixed" "_law_mixed" (defArgs s11) (defBody s11) (defScope s11) ([]) ([]) (He.fAd K ("_law_mixed", none)) fd := F
  have nd : (["seed", "k", "first"] : List Str).Nodup := by decide +kernel
  have sc : FnScope ["seed", "k", "first"] ["seed", "k"] (defScope s11) := ⟨rfl, rfl, rfl, nd, rfl, by decide +kernel, by decide +kernel⟩
  refine ⟨fd, F, fn_ok (cl := cl K) (n := 2) (nN := 3) (sm := m_law_mixed) F sc (by decide) rfl rfl (fun cdv A outer s H E hr =>
    ess_cons (es_set 2 nd (em_op op_mod ok_mod (em_callTy call_int1 ok_int (He.free_ok KX G (c.t.d.fact 24 (f := .free "int") rfl)) (by decide +kernel) (ea_cons (em_op op_pow ok_pow (em_op op_addA ok_add (em_op op_addA ok_add (em_op op_mod ok_mod (em_callTy call_int1 ok_int (He.free_ok KX G (c.t.d.fact 24 (f := .free "int") rfl)) (by decide +kernel) (ea_cons (em_var 0) (ea_nil))) (em_int)) (em_op op_mulA ok_mul (em_int) (em_var 1))) (em_int)) (em_int)) (ea_nil))) (em_int))) <|
    ess_one (es_ret (em_op op_mod ok_mod (em_callTy call_int1 ok_int (He.free_ok KX G (c.t.d.fact 24 (f := .free "int") rfl)) (by decide +kernel) (ea_cons (em_op op_pow ok_pow (em_op op_addA ok_add (em_op op_addA ok_add (em_op op_mulA ok_mul (em_var 2) (em_int)) (em_op op_mulA ok_mul (em_op op_mulA ok_mul (em_int) (em_var 1)) (em_var 1))) (em_int)) (em_int)) (ea_nil))) (em_int))))⟩
theorem c_law_mixed {h : Heap} {mg : Str → Option Value} (KX : K.In h) (G : h.Ns mainGlobals mg) (c : He.SaysX fa fn ts [] exK w h K) : Cal P w K mg base (cl K) "_law_mixed" 2 2 [] F_law_mixed := by
  obtain ⟨fd, F, h⟩ := f_law_mixed (P := P) (base := base) KX G c
  exact ⟨_, fd, _, [], [], h, He.glo_ok KX G (c.t.d.fact 25 (f := .glo "_law_mixed") rfl), F.kp, F.bindsN (fun _ _ _ _ _ _ us hl => match us, hl with | [_, _], _ => rfl), .nil, fun _ => .nil⟩
theorem f_law_take {h : Heap} {mg : Str → Option Value} (KX : K.In h) (G : h.Ns mainGlobals mg) (c : He.SaysX fa fn ts [] exK w h K) : ∃ fd : FuncData, FunD K "_law_take" "_law_take" (defArgs s12) (defBody s12) (defScope s12) ([]) ([]) (He.fAd K ("_law_take", none)) fd ∧ FnOk P w K mg base CX0 4 (He.fAd K ("_law_take", none)) fd ["draws", "size"] (spM K (cl K) 2 F_law_take) := by
  obtain ⟨fd, F⟩ := c.t.d.def_ 12 (d := d12) rfl
  have F : FunD K "_law_take" "_law_take" (defArgs s12) (defBody s12) (defScope s12) ([]) ([]) (He.fAd K ("_law_take", none)) fd := F
  have nd : (["draws", "size", "found", "seed", "reach"] : List Str).Nodup := by decide +kernel
  have sc : FnScope ["draws", "size", "found", "seed", "reach"] ["draws", "size"] (defScope s12) := ⟨rfl, rfl, rfl, nd, rfl, by decide +kernel, by decide +kernel⟩
  refine ⟨fd, F, fn_ok (cl := cl K) (n := 2) (nN := 5) (sm := m_law_take) F sc (by decide) rfl rfl (fun cdv A outer s H E hr =>
    ess_cons (es_dr 0 3 (em_op op_addA ok_add (em_dr 0 3) (em_int))) <|
    ess_cons (es_if (eb_w (ew_and (eb_cmp (op_eqA hr) ok_eq (nomark _) (em_dr 0 1) (em_int)) (ew_and1 (eb_drNe 0 0 hr)))) (ess_one (es_dr 0 1 (em_drPop 0))) (ess_nil)) <|
    ess_cons (es_if (eb_cmp op_gtA ok_cmp (nomark _) (em_dr 0 1) (em_int)) (ess_cons (es_set 2 nd (em_op op_mod ok_mod (em_callTy call_int1 ok_int (He.free_ok KX G (c.t.d.fact 24 (f := .free "int") rfl)) (by decide +kernel) (ea_cons (em_dr 0 1) (ea_nil))) (em_var 1))) <|
    ess_cons (es_dr 0 1 (em_op op_fdiv ok_fdiv (em_dr 0 1) (em_var 1))) <|
    ess_one (es_ret (em_var 2))) (ess_nil)) <|
    ess_cons (es_set 3 nd (em_int)) <|
    ess_cons (es_if (eb_drNe 0 2 hr) (ess_one (es_set 3 nd (em_drSeed 0 (He.free_ok KX G (c.t.d.fact 10 (f := .free "len") rfl)) (He.free_ok KX G (c.t.d.fact 24 (f := .free "int") rfl))))) (ess_nil)) <|
    ess_cons (es_set 2 nd (em_int)) <|
    ess_cons (es_set 4 nd (em_int)) <|
    ess_cons (es_while 3 (eb_cmp op_ltA ok_cmp (nomark _) (em_var 4) (em_var 1)) (ess_cons (es_set 2 nd (em_op op_addA ok_add (em_op op_mulA ok_mul (em_var 2) (em_int)) (em_call (c_law_mixed KX G c) (hr.mono (by decide)) (er_im (em_var 3) (er_im (em_op op_addA ok_add (em_dr 0 3) (em_op op_mulA ok_mul (em_int) (em_op op_mod ok_mod (em_callTy call_int1 ok_int (He.free_ok KX G (c.t.d.fact 24 (f := .free "int") rfl)) (by decide +kernel) (ea_cons (em_var 2) (ea_nil))) (em_int)))) (er_nil))) len_law_mixed (an_ok (an_im (an_im an_nil')) rfl)))) <|
    ess_one (es_set 4 nd (em_op op_mulA ok_mul (em_var 4) (em_int))))) <|
    ess_one (es_ret (em_op op_mod ok_mod (em_callTy call_int1 ok_int (He.free_ok KX G (c.t.d.fact 24 (f := .free "int") rfl)) (by decide +kernel) (ea_cons (em_var 2) (ea_nil))) (em_var 1))))⟩
theorem c_law_take {h : Heap} {mg : Str → Option Value} (KX : K.In h) (G : h.Ns mainGlobals mg) (c : He.SaysX fa fn ts [] exK w h K) : Cal P w K mg base (cl K) "_law_take" 4 2 [] F_law_take := by
  obtain ⟨fd, F, h⟩ := f_law_take (P := P) (base := base) KX G c
  exact ⟨_, fd, _, [], [], h, He.glo_ok KX G (c.t.d.fact 26 (f := .glo "_law_take") rfl), F.kp, F.bindsN (fun _ _ _ _ _ _ us hl => match us, hl with | [_, _], _ => rfl), .nil, fun _ => .nil⟩
theorem f_law_same_r0 {h : Heap} {mg : Str → Option Value} (KX : K.In h) (G : h.Ns mainGlobals mg) (c : He.SaysX fa fn ts [] exK w h K) : ∃ fd : FuncData, FunD K "_law_same" "_law_same" (defArgs s13) (defBody s13) (defScope s13) ([]) ([]) (He.fAd K ("_law_same", none)) fd ∧ FnOk P w K mg base CX0 2 (He.fAd K ("_law_same", none)) fd ["found", "due"] (spM K (cl K) 2 F_law_same_r0) := by
  obtain ⟨fd, F⟩ := c.t.d.def_ 13 (d := d13) rfl
  have F : FunD K "_law_same" "_law_same" (defArgs s13) (defBody s13) (defScope s13) ([]) ([]) (He.fAd K ("_law_same", none)) fd := F
  have nd : (["found", "due", "one", "other"] : List Str).Nodup := by decide +kernel
  have sc : FnScope ["found", "due", "one", "other"] ["found", "due"] (defScope s13) := ⟨rfl, rfl, rfl, nd, rfl, by decide +kernel, by decide +kernel⟩
  refine ⟨fd, F, fn_ok (cl := cl K) (n := 2) (nN := 4) (sm := m_law_same_r0) F sc (by decide) rfl rfl (fun cdv A outer s H E hr =>
    ess_cons (es_if (eb_tru (em_isiT "list" "tuple" (He.free_ok KX G (c.t.d.fact 0 (f := .free "isinstance") rfl)) (He.free_ok KX G (c.t.d.fact 2 (f := .free "list") rfl)) (He.free_ok KX G (c.t.d.fact 3 (f := .free "tuple") rfl)) (em_var 1))) (ess_cons (es_if (eb_w (ew_or (eb_cmp (op_neA hr) ok_ne (nomark _) (em_isi "list" (He.free_ok KX G (c.t.d.fact 0 (f := .free "isinstance") rfl)) (He.free_ok KX G (c.t.d.fact 2 (f := .free "list") rfl)) (em_var 0)) (em_isi "list" (He.free_ok KX G (c.t.d.fact 0 (f := .free "isinstance") rfl)) (He.free_ok KX G (c.t.d.fact 2 (f := .free "list") rfl)) (em_var 1))) (ew_or1 (eb_cmp (op_neA hr) ok_ne (nomark _) (em_isi "tuple" (He.free_ok KX G (c.t.d.fact 0 (f := .free "isinstance") rfl)) (He.free_ok KX G (c.t.d.fact 3 (f := .free "tuple") rfl)) (em_var 0)) (em_isi "tuple" (He.free_ok KX G (c.t.d.fact 0 (f := .free "isinstance") rfl)) (He.free_ok KX G (c.t.d.fact 3 (f := .free "tuple") rfl)) (em_var 1)))))) (ess_one (es_ret (em_bl))) (ess_nil)) <|
    ess_one (es_ret (em_and (em_cmp (op_eqA hr) ok_eq (nomark _) (em_callB call_len ok_len (He.free_ok KX G (c.t.d.fact 10 (f := .free "len") rfl)) (by decide +kernel) (ea_cons (em_var 0) (ea_nil))) (em_callB call_len ok_len (He.free_ok KX G (c.t.d.fact 10 (f := .free "len") rfl)) (by decide +kernel) (ea_cons (em_var 1) (ea_nil)))) (em_one (em_callB (cr_all rfl) ok_all (He.free_ok KX G (c.t.d.fact 28 (f := .free "all") rfl)) (by decide +kernel) (ea_cons (em_ef (ef_lc (own := [("one", 2), ("other", 3)]) nd (ei_zip (He.free_ok KX G (c.t.d.fact 27 (f := .free "zip") rfl)) (ea_cons (em_var 0) (ea_cons (em_var 1) (ea_nil)))) (by kernel_rfl) (fun _ _ _ _ _ => (pg_tup (by rfl) (pgs_cons (pg_name (i := 2) nd rfl (by first | exact Or.inl rfl | exact Or.inr rfl)) (pgs_cons (pg_name (i := 3) nd rfl (by first | exact Or.inl rfl | exact Or.inr rfl)) pgs_nil)))) (fun _ _ _ _ _ => ets_nil) (fun _ _ _ _ _ => em_bad))) (ea_nil))))))) (ess_nil)) <|
    ess_cons (es_if (eb_tru (em_isiT "bool" "int" (He.free_ok KX G (c.t.d.fact 0 (f := .free "isinstance") rfl)) (He.free_ok KX G (c.t.d.fact 29 (f := .free "bool") rfl)) (He.free_ok KX G (c.t.d.fact 24 (f := .free "int") rfl)) (em_var 1))) (ess_one (es_ret (em_and (em_isi "int" (He.free_ok KX G (c.t.d.fact 0 (f := .free "isinstance") rfl)) (He.free_ok KX G (c.t.d.fact 24 (f := .free "int") rfl)) (em_var 0)) (em_and (em_cmp (op_eqA hr) ok_eq (nomark _) (em_isi "bool" (He.free_ok KX G (c.t.d.fact 0 (f := .free "isinstance") rfl)) (He.free_ok KX G (c.t.d.fact 29 (f := .free "bool") rfl)) (em_var 0)) (em_isi "bool" (He.free_ok KX G (c.t.d.fact 0 (f := .free "isinstance") rfl)) (He.free_ok KX G (c.t.d.fact 29 (f := .free "bool") rfl)) (em_var 1))) (em_one (em_cmp (op_eqA hr) ok_eq (nomark _) (em_var 0) (em_var 1))))))) (ess_nil)) <|
    ess_one (es_ret (em_and (em_not (em_isi4 "bool" "int" "list" "tuple" (He.free_ok KX G (c.t.d.fact 0 (f := .free "isinstance") rfl)) (He.free_ok KX G (c.t.d.fact 29 (f := .free "bool") rfl)) (He.free_ok KX G (c.t.d.fact 24 (f := .free "int") rfl)) (He.free_ok KX G (c.t.d.fact 2 (f := .free "list") rfl)) (He.free_ok KX G (c.t.d.fact 3 (f := .free "tuple") rfl)) (em_var 0))) (em_one (em_cmp (op_eqA hr) ok_eq (nomark _) (em_var 0) (em_var 1))))))⟩
theorem c_law_same_r0 {h : Heap} {mg : Str → Option Value} (KX : K.In h) (G : h.Ns mainGlobals mg) (c : He.SaysX fa fn ts [] exK w h K) : Cal P w K mg base (cl K) "_law_same" 2 2 [] F_law_same_r0 := by
  obtain ⟨fd, F, h⟩ := f_law_same_r0 (P := P) (base := base) KX G c
  exact ⟨_, fd, _, [], [], h, He.glo_ok KX G (c.t.d.fact 30 (f := .glo "_law_same") rfl), F.kp, F.bindsN (fun _ _ _ _ _ _ us hl => match us, hl with | [_, _], _ => rfl), .nil, fun _ => .nil⟩
theorem f_law_same_r1 {h : Heap} {mg : Str → Option Value} (KX : K.In h) (G : h.Ns mainGlobals mg) (c : He.SaysX fa fn ts [] exK w h K) : ∃ fd : FuncData, FunD K "_law_same" "_law_same" (defArgs s13) (defBody s13) (defScope s13) ([]) ([]) (He.fAd K ("_law_same", none)) fd ∧ FnOk P w K mg base CX0 4 (He.fAd K ("_law_same", none)) fd ["found", "due"] (spM K (cl K) 2 F_law_same_r1) := by
  obtain ⟨fd, F⟩ := c.t.d.def_ 13 (d := d13) rfl
  have F : FunD K "_law_same" "_law_same" (defArgs s13) (defBody s13) (defScope s13) ([]) ([]) (He.fAd K ("_law_same", none)) fd := F
  have nd : (["found", "due", "one", "other"] : List Str).Nodup := by decide +kernel
  have sc : FnScope ["found", "due", "one", "other"] ["found", "due"] (defScope s13) := ⟨rfl, rfl, rfl, nd, rfl, by decide +kernel, by decide +kernel⟩
  refine ⟨fd, F, fn_ok (cl := cl K) (n := 2) (nN := 4) (sm := m_law_same_r1) F sc (by decide) rfl rfl (fun cdv A outer s H E hr =>
    ess_cons (es_if (eb_tru (em_isiT "list" "tuple" (He.free_ok KX G (c.t.d.fact 0 (f := .free "isinstance") rfl)) (He.free_ok KX G (c.t.d.fact 2 (f := .free "list") rfl)) (He.free_ok KX G (c.t.d.fact 3 (f := .free "tuple") rfl)) (em_var 1))) (ess_cons (es_if (eb_w (ew_or (eb_cmp (op_neA hr) ok_ne (nomark _) (em_isi "list" (He.free_ok KX G (c.t.d.fact 0 (f := .free "isinstance") rfl)) (He.free_ok KX G (c.t.d.fact 2 (f := .free "list") rfl)) (em_var 0)) (em_isi "list" (He.free_ok KX G (c.t.d.fact 0 (f := .free "isinstance") rfl)) (He.free_ok KX G (c.t.d.fact 2 (f := .free "list") rfl)) (em_var 1))) (ew_or1 (eb_cmp (op_neA hr) ok_ne (nomark _) (em_isi "tuple" (He.free_ok KX G (c.t.d.fact 0 (f := .free "isinstance") rfl)) (He.free_ok KX G (c.t.d.fact 3 (f := .free "tuple") rfl)) (em_var 0)) (em_isi "tuple" (He.free_ok KX G (c.t.d.fact 0 (f := .free "isinstance") rfl)) (He.free_ok KX G (c.t.d.fact 3 (f := .free "tuple") rfl)) (em_var 1)))))) (ess_one (es_ret (em_bl))) (ess_nil)) <|
    ess_one (es_ret (em_and (em_cmp (op_eqA hr) ok_eq (nomark _) (em_callB call_len ok_len (He.free_ok KX G (c.t.d.fact 10 (f := .free "len") rfl)) (by decide +kernel) (ea_cons (em_var 0) (ea_nil))) (em_callB call_len ok_len (He.free_ok KX G (c.t.d.fact 10 (f := .free "len") rfl)) (by decide +kernel) (ea_cons (em_var 1) (ea_nil)))) (em_one (em_callB (cr_all rfl) ok_all (He.free_ok KX G (c.t.d.fact 28 (f := .free "all") rfl)) (by decide +kernel) (ea_cons (em_ef (ef_lc (own := [("one", 2), ("other", 3)]) nd (ei_zip (He.free_ok KX G (c.t.d.fact 27 (f := .free "zip") rfl)) (ea_cons (em_var 0) (ea_cons (em_var 1) (ea_nil)))) (by kernel_rfl) (fun _ _ _ _ _ => (pg_tup (by rfl) (pgs_cons (pg_name (i := 2) nd rfl (by first | exact Or.inl rfl | exact Or.inr rfl)) (pgs_cons (pg_name (i := 3) nd rfl (by first | exact Or.inl rfl | exact Or.inr rfl)) pgs_nil)))) (fun _ _ _ _ _ => ets_nil) (fun _ _ _ _ _ => em_call (c_law_same_r0 KX G c) (hr.mono (by decide)) (er_im (em_var 2) (er_im (em_var 3) (er_nil))) len_law_same_r0 (an_ok (an_im (an_im an_nil')) rfl)))) (ea_nil))))))) (ess_nil)) <|
    ess_cons (es_if (eb_tru (em_isiT "bool" "int" (He.free_ok KX G (c.t.d.fact 0 (f := .free "isinstance") rfl)) (He.free_ok KX G (c.t.d.fact 29 (f := .free "bool") rfl)) (He.free_ok KX G (c.t.d.fact 24 (f := .free "int") rfl)) (em_var 1))) (ess_one (es_ret (em_and (em_isi "int" (He.free_ok KX G (c.t.d.fact 0 (f := .free "isinstance") rfl)) (He.free_ok KX G (c.t.d.fact 24 (f := .free "int") rfl)) (em_var 0)) (em_and (em_cmp (op_eqA hr) ok_eq (nomark _) (em_isi "bool" (He.free_ok KX G (c.t.d.fact 0 (f := .free "isinstance") rfl)) (He.free_ok KX G (c.t.d.fact 29 (f := .free "bool") rfl)) (em_var 0)) (em_isi "bool" (He.free_ok KX G (c.t.d.fact 0 (f := .free "isinstance") rfl)) (He.free_ok KX G (c.t.d.fact 29 (f := .free "bool") rfl)) (em_var 1))) (em_one (em_cmp (op_eqA hr) ok_eq (nomark _) (em_var 0) (em_var 1))))))) (ess_nil)) <|
    ess_one (es_ret (em_and (em_not (em_isi4 "bool" "int" "list" "tuple" (He.free_ok KX G (c.t.d.fact 0 (f := .free "isinstance") rfl)) (He.free_ok KX G (c.t.d.fact 29 (f := .free "bool") rfl)) (He.free_ok KX G (c.t.d.fact 24 (f := .free "int") rfl)) (He.free_ok KX G (c.t.d.fact 2 (f := .free "list") rfl)) (He.free_ok KX G (c.t.d.fact 3 (f := .free "tuple") rfl)) (em_var 0))) (em_one (em_cmp (op_eqA hr) ok_eq (nomark _) (em_var 0) (em_var 1))))))⟩
theorem c_law_same_r1 {h : Heap} {mg : Str → Option Value} (KX : K.In h) (G : h.Ns mainGlobals mg) (c : He.SaysX fa fn ts [] exK w h K) : Cal P w K mg base (cl K) "_law_same" 4 2 [] F_law_same_r1 := by
  obtain ⟨fd, F, h⟩ := f_law_same_r1 (P := P) (base := base) KX G c
  exact ⟨_, fd, _, [], [], h, He.glo_ok KX G (c.t.d.fact 30 (f := .glo "_law_same") rfl), F.kp, F.bindsN (fun _ _ _ _ _ _ us hl => match us, hl with | [_, _], _ => rfl), .nil, fun _ => .nil⟩
theorem f_law_same_r2 {h : Heap} {mg : Str → Option Value} (KX : K.In h) (G : h.Ns mainGlobals mg) (c : He.SaysX fa fn ts [] exK w h K) : ∃ fd : FuncData, FunD K "_law_same" "_law_same" (defArgs s13) (defBody s13) (defScope s13) ([]) ([]) (He.fAd K ("_law_same", none)) fd ∧ FnOk P w K mg base CX0 6 (He.fAd K ("_law_same", none)) fd ["found", "due"] (spM K (cl K) 2 F_law_same_r2) := by
  obtain ⟨fd, F⟩ := c.t.d.def_ 13 (d := d13) rfl
  have F : FunD K "_law_same" "_law_same" (defArgs s13) (defBody s13) (defScope s13) ([]) ([]) (He.fAd K ("_law_same", none)) fd := F
  have nd : (["found", "due", "one", "other"] : List Str).Nodup := by decide +kernel
  have sc : FnScope ["found", "due", "one", "other"] ["found", "due"] (defScope s13) := ⟨rfl, rfl, rfl, nd, rfl, by decide +kernel, by decide +kernel⟩
  refine ⟨fd, F, fn_ok (cl := cl K) (n := 2) (nN := 4) (sm := m_law_same_r2) F sc (by decide) rfl rfl (fun cdv A outer s H E hr =>
    ess_cons (es_if (eb_tru (em_isiT "list" "tuple" (He.free_ok KX G (c.t.d.fact 0 (f := .free "isinstance") rfl)) (He.free_ok KX G (c.t.d.fact 2 (f := .free "list") rfl)) (He.free_ok KX G (c.t.d.fact 3 (f := .free "tuple") rfl)) (em_var 1))) (ess_cons (es_if (eb_w (ew_or (eb_cmp (op_neA hr) ok_ne (nomark _) (em_isi "list" (He.free_ok KX G (c.t.d.fact 0 (f := .free "isinstance") rfl)) (He.free_ok KX G (c.t.d.fact 2 (f := .free "list") rfl)) (em_var 0)) (em_isi "list" (He.free_ok KX G (c.t.d.fact 0 (f := .free "isinstance") rfl)) (He.free_ok KX G (c.t.d.fact 2 (f := .free "list") rfl)) (em_var 1))) (ew_or1 (eb_cmp (op_neA hr) ok_ne (nomark _) (em_isi "tuple" (He.free_ok KX G (c.t.d.fact 0 (f := .free "isinstance") rfl)) (He.free_ok KX G (c.t.d.fact 3 (f := .free "tuple") rfl)) (em_var 0)) (em_isi "tuple" (He.free_ok KX G (c.t.d.fact 0 (f := .free "isinstance") rfl)) (He.free_ok KX G (c.t.d.fact 3 (f := .free "tuple") rfl)) (em_var 1)))))) (ess_one (es_ret (em_bl))) (ess_nil)) <|
    ess_one (es_ret (em_and (em_cmp (op_eqA hr) ok_eq (nomark _) (em_callB call_len ok_len (He.free_ok KX G (c.t.d.fact 10 (f := .free "len") rfl)) (by decide +kernel) (ea_cons (em_var 0) (ea_nil))) (em_callB call_len ok_len (He.free_ok KX G (c.t.d.fact 10 (f := .free "len") rfl)) (by decide +kernel) (ea_cons (em_var 1) (ea_nil)))) (em_one (em_callB (cr_all rfl) ok_all (He.free_ok KX G (c.t.d.fact 28 (f := .free "all") rfl)) (by decide +kernel) (ea_cons (em_ef (ef_lc (own := [("one", 2), ("other", 3)]) nd (ei_zip (He.free_ok KX G (c.t.d.fact 27 (f := .free "zip") rfl)) (ea_cons (em_var 0) (ea_cons (em_var 1) (ea_nil)))) (by kernel_rfl) (fun _ _ _ _ _ => (pg_tup (by rfl) (pgs_cons (pg_name (i := 2) nd rfl (by first | exact Or.inl rfl | exact Or.inr rfl)) (pgs_cons (pg_name (i := 3) nd rfl (by first | exact Or.inl rfl | exact Or.inr rfl)) pgs_nil)))) (fun _ _ _ _ _ => ets_nil) (fun _ _ _ _ _ => em_call (c_law_same_r1 KX G c) (hr.mono (by decide)) (er_im (em_var 2) (er_im (em_var 3) (er_nil))) len_law_same_r1 (an_ok (an_im (an_im an_nil')) rfl)))) (ea_nil))))))) (ess_nil)) <|
    ess_cons (es_if (eb_tru (em_isiT "bool" "int" (He.free_ok KX G (c.t.d.fact 0 (f := .free "isinstance") rfl)) (He.free_ok KX G (c.t.d.fact 29 (f := .free "bool") rfl)) (He.free_ok KX G (c.t.d.fact 24 (f := .free "int") rfl)) (em_var 1))) (ess_one (es_ret (em_and (em_isi "int" (He.free_ok KX G (c.t.d.fact 0 (f := .free "isinstance") rfl)) (He.free_ok KX G (c.t.d.fact 24 (f := .free "int") rfl)) (em_var 0)) (em_and (em_cmp (op_eqA hr) ok_eq (nomark _) (em_isi "bool" (He.free_ok KX G (c.t.d.fact 0 (f := .free "isinstance") rfl)) (He.free_ok KX G (c.t.d.fact 29 (f := .free "bool") rfl)) (em_var 0)) (em_isi "bool" (He.free_ok KX G (c.t.d.fact 0 (f := .free "isinstance") rfl)) (He.free_ok KX G (c.t.d.fact 29 (f := .free "bool") rfl)) (em_var 1))) (em_one (em_cmp (op_eqA hr) ok_eq (nomark _) (em_var 0) (em_var 1))))))) (ess_nil)) <|
    ess_one (es_ret (em_and (em_not (em_isi4 "bool" "int" "list" "tuple" (He.free_ok KX G (c.t.d.fact 0 (f := .free "isinstance") rfl)) (He.free_ok KX G (c.t.d.fact 29 (f := .free "bool") rfl)) (He.free_ok KX G (c.t.d.fact 24 (f := .free "int") rfl)) (He.free_ok KX G (c.t.d.fact 2 (f := .free "list") rfl)) (He.free_ok KX G (c.t.d.fact 3 (f := .free "tuple") rfl)) (em_var 0))) (em_one (em_cmp (op_eqA hr) ok_eq (nomark _) (em_var 0) (em_var 1))))))⟩
theorem c_law_same_r2 {h : Heap} {mg : Str → Option Value} (KX : K.In h) (G : h.Ns mainGlobals mg) (c : He.SaysX fa fn ts [] exK w h K) : Cal P w K mg base (cl K) "_law_same" 6 2 [] F_law_same_r2 := by
  obtain ⟨fd, F, h⟩ := f_law_same_r2 (P := P) (base := base) KX G c
  exact ⟨_, fd, _, [], [], h, He.glo_ok KX G (c.t.d.fact 30 (f := .glo "_law_same") rfl), F.kp, F.bindsN (fun _ _ _ _ _ _ us hl => match us, hl with | [_, _], _ => rfl), .nil, fun _ => .nil⟩
theorem f_law_same {h : Heap} {mg : Str → Option Value} (KX : K.In h) (G : h.Ns mainGlobals mg) (c : He.SaysX fa fn ts [] exK w h K) : ∃ fd : FuncData, FunD K "_law_same" "_law_same" (defArgs s13) (defBody s13) (defScope s13) ([]) ([]) (He.fAd K ("_law_same", none)) fd ∧ FnOk P w K mg base CX0 8 (He.fAd K ("_law_same", none)) fd ["found", "due"] (spM K (cl K) 2 F_law_same) := by
  obtain ⟨fd, F⟩ := c.t.d.def_ 13 (d := d13) rfl
  have F : FunD K "_law_same" "_law_same" (defArgs s13) (defBody s13) (defScope s13) ([]) ([]) (He.fAd K ("_law_same", none)) fd := F
  have nd : (["found", "due", "one", "other"] : List Str).Nodup := by decide +kernel
  have sc : FnScope ["found", "due", "one", "other"] ["found", "due"] (defScope s13) := ⟨rfl, rfl, rfl, nd, rfl, by decide +kernel, by decide +kernel⟩
  refine ⟨fd, F, fn_ok (cl := cl K) (n := 2) (nN := 4) (sm := m_law_same) F sc (by decide) rfl rfl (fun cdv A outer s H E hr =>
    ess_cons (es_if (eb_tru (em_isiT "list" "tuple" (He.free_ok KX G (c.t.d.fact 0 (f := .free "isinstance") rfl)) (He.free_ok KX G (c.t.d.fact 2 (f := .free "list") rfl)) (He.free_ok KX G (c.t.d.fact 3 (f := .free "tuple") rfl)) (em_var 1))) (ess_cons (es_if (eb_w (ew_or (eb_cmp (op_neA hr) ok_ne (nomark _) (em_isi "list" (He.free_ok KX G (c.t.d.fact 0 (f := .free "isinstance") rfl)) (He.free_ok KX G (c.t.d.fact 2 (f := .free "list") rfl)) (em_var 0)) (em_isi "list" (He.free_ok KX G (c.t.d.fact 0 (f := .free "isinstance") rfl)) (He.free_ok KX G (c.t.d.fact 2 (f := .free "list") rfl)) (em_var 1))) (ew_or1 (eb_cmp (op_neA hr) ok_ne (nomark _) (em_isi "tuple" (He.free_ok KX G (c.t.d.fact 0 (f := .free "isinstance") rfl)) (He.free_ok KX G (c.t.d.fact 3 (f := .free "tuple") rfl)) (em_var 0)) (em_isi "tuple" (He.free_ok KX G (c.t.d.fact 0 (f := .free "isinstance") rfl)) (He.free_ok KX G (c.t.d.fact 3 (f := .free "tuple") rfl)) (em_var 1)))))) (ess_one (es_ret (em_bl))) (ess_nil)) <|
    ess_one (es_ret (em_and (em_cmp (op_eqA hr) ok_eq (nomark _) (em_callB call_len ok_len (He.free_ok KX G (c.t.d.fact 10 (f := .free "len") rfl)) (by decide +kernel) (ea_cons (em_var 0) (ea_nil))) (em_callB call_len ok_len (He.free_ok KX G (c.t.d.fact 10 (f := .free "len") rfl)) (by decide +kernel) (ea_cons (em_var 1) (ea_nil)))) (em_one (em_callB (cr_all rfl) ok_all (He.free_ok KX G (c.t.d.fact 28 (f := .free "all") rfl)) (by decide +kernel) (ea_cons (em_ef (ef_lc (own := [("one", 2), ("other", 3)]) nd (ei_zip (He.free_ok KX G (c.t.d.fact 27 (f := .free "zip") rfl)) (ea_cons (em_var 0) (ea_cons (em_var 1) (ea_nil)))) (by kernel_rfl) (fun _ _ _ _ _ => (pg_tup (by rfl) (pgs_cons (pg_name (i := 2) nd rfl (by first | exact Or.inl rfl | exact Or.inr rfl)) (pgs_cons (pg_name (i := 3) nd rfl (by first | exact Or.inl rfl | exact Or.inr rfl)) pgs_nil)))) (fun _ _ _ _ _ => ets_nil) (fun _ _ _ _ _ => em_call (c_law_same_r2 KX G c) (hr.mono (by decide)) (er_im (em_var 2) (er_im (em_var 3) (er_nil))) len_law_same_r2 (an_ok (an_im (an_im an_nil')) rfl)))) (ea_nil))))))) (ess_nil)) <|
    ess_cons (es_if (eb_tru (em_isiT "bool" "int" (He.free_ok KX G (c.t.d.fact 0 (f := .free "isinstance") rfl)) (He.free_ok KX G (c.t.d.fact 29 (f := .free "bool") rfl)) (He.free_ok KX G (c.t.d.fact 24 (f := .free "int") rfl)) (em_var 1))) (ess_one (es_ret (em_and (em_isi "int" (He.free_ok KX G (c.t.d.fact 0 (f := .free "isinstance") rfl)) (He.free_ok KX G (c.t.d.fact 24 (f := .free "int") rfl)) (em_var 0)) (em_and (em_cmp (op_eqA hr) ok_eq (nomark _) (em_isi "bool" (He.free_ok KX G (c.t.d.fact 0 (f := .free "isinstance") rfl)) (He.free_ok KX G (c.t.d.fact 29 (f := .free "bool") rfl)) (em_var 0)) (em_isi "bool" (He.free_ok KX G (c.t.d.fact 0 (f := .free "isinstance") rfl)) (He.free_ok KX G (c.t.d.fact 29 (f := .free "bool") rfl)) (em_var 1))) (em_one (em_cmp (op_eqA hr) ok_eq (nomark _) (em_var 0) (em_var 1))))))) (ess_nil)) <|
    ess_one (es_ret (em_and (em_not (em_isi4 "bool" "int" "list" "tuple" (He.free_ok KX G (c.t.d.fact 0 (f := .free "isinstance") rfl)) (He.free_ok KX G (c.t.d.fact 29 (f := .free "bool") rfl)) (He.free_ok KX G (c.t.d.fact 24 (f := .free "int") rfl)) (He.free_ok KX G (c.t.d.fact 2 (f := .free "list") rfl)) (He.free_ok KX G (c.t.d.fact 3 (f := .free "tuple") rfl)) (em_var 0))) (em_one (em_cmp (op_eqA hr) ok_eq (nomark _) (em_var 0) (em_var 1))))))⟩
theorem c_law_same {h : Heap} {mg : Str → Option Value} (KX : K.In h) (G : h.Ns mainGlobals mg) (c : He.SaysX fa fn ts [] exK w h K) : Cal P w K mg base (cl K) "_law_same" 8 2 [] F_law_same := by
  obtain ⟨fd, F, h⟩ := f_law_same (P := P) (base := base) KX G c
  exact ⟨_, fd, _, [], [], h, He.glo_ok KX G (c.t.d.fact 30 (f := .glo "_law_same") rfl), F.kp, F.bindsN (fun _ _ _ _ _ _ us hl => match us, hl with | [_, _], _ => rfl), .nil, fun _ => .nil⟩
theorem f_law_pick {h : Heap} {mg : Str → Option Value} (KX : K.In h) (G : h.Ns mainGlobals mg) (c : He.SaysX fa fn ts [] exK w h K) : ∃ fd : FuncData, FunD K "_law_pick" "_law_pick" (defArgs s14) (defBody s14) (defScope s14) ([]) ([]) (He.fAd K ("_law_pick", none)) fd ∧ FnOk P w K mg base CX0 6 (He.fAd K ("_law_pick", none)) fd ["draws", "some"] (spM K (cl K) 2 F_law_pick) := by
  obtain ⟨fd, F⟩ := c.t.d.def_ 14 (d := d14) rfl
  have F : FunD K "_law_pick" "_law_pick" (defArgs s14) (defBody s14) (defScope s14) ([]) ([]) (He.fAd K ("_law_pick", none)) fd := F
  have nd : (["draws", "some"] : List Str).Nodup := by decide +kernel
  have sc : FnScope ["draws", "some"] ["draws", "some"] (defScope s14) := ⟨rfl, rfl, rfl, nd, rfl, by decide +kernel, by decide +kernel⟩
  refine ⟨fd, F, fn_ok (cl := cl K) (n := 2) (nN := 2) (sm := m_law_pick) F sc (by decide) rfl rfl (fun cdv A outer s H E hr =>
    ess_one (es_ret (em_ix (em_var 1) (em_call (c_law_take KX G c) (hr.mono (by decide)) (er_sl 0 (er_im (em_callB call_len ok_len (He.free_ok KX G (c.t.d.fact 10 (f := .free "len") rfl)) (by decide +kernel) (ea_cons (em_var 1) (ea_nil))) (er_nil))) len_law_take (an_ok (an_sl (an_im an_nil')) rfl)))))⟩
theorem c_law_pick {h : Heap} {mg : Str → Option Value} (KX : K.In h) (G : h.Ns mainGlobals mg) (c : He.SaysX fa fn ts [] exK w h K) : Cal P w K mg base (cl K) "_law_pick" 6 2 [] F_law_pick := by
  obtain ⟨fd, F, h⟩ := f_law_pick (P := P) (base := base) KX G c
  exact ⟨_, fd, _, [], [], h, He.glo_ok KX G (c.t.d.fact 31 (f := .glo "_law_pick") rfl), F.kp, F.bindsN (fun _ _ _ _ _ _ us hl => match us, hl with | [_, _], _ => rfl), .nil, fun _ => .nil⟩
theorem f_law_cleared {h : Heap} {mg : Str → Option Value} (KX : K.In h) (G : h.Ns mainGlobals mg) (c : He.SaysX fa fn ts [] exK w h K) : ∃ fd : FuncData, FunD K "_law_cleared" "_law_cleared" (defArgs s15) (defBody s15) (defScope s15) ([]) ([]) (He.fAd K ("_law_cleared", none)) fd ∧ FnOk P w K mg base CX0 2 (He.fAd K ("_law_cleared", none)) fd ["text", "is_want"] (spM K (cl K) 2 F_law_cleared) := by
  obtain ⟨fd, F⟩ := c.t.d.def_ 15 (d := d15) rfl
  have F : FunD K "_law_cleared" "_law_cleared" (defArgs s15) (defBody s15) (defScope s15) ([]) ([]) (He.fAd K ("_law_cleared", none)) fd := F
  have nd : (["text", "is_want", "found", "line", "bare", "is_bare", "sign"] : List Str).Nodup := by decide +kernel
  have sc : FnScope ["text", "is_want", "found", "line", "bare", "is_bare", "sign"] ["text", "is_want"] (defScope s15) := ⟨rfl, rfl, rfl, nd, rfl, by decide +kernel, by decide +kernel⟩
  refine ⟨fd, F, fn_ok (cl := cl K) (n := 2) (nN := 7) (sm := m_law_cleared) F sc (by decide) rfl rfl (fun cdv A outer s H E hr =>
    ess_cons (es_own 2 nd (ef_lst (ea_nil))) <|
    ess_cons (es_for (t := (.one 3)) (ei_any (em_ef (ef_sm PySem.F.plainAttrs_str PySem.F.slot_str_split PySem.F.type_str_split mt_split okf_split (em_var 0) (ea_cons (em_str) (ea_nil))))) (pg_name (i := 3) nd rfl (by first | exact Or.inl rfl | exact Or.inr rfl)) (ess_cons (es_set 4 nd (em_if (eb_w (ew_and (eb_tru (em_var 1)) (ew_and1 (eb_cmp (op_eqA hr) ok_eq (nomark _) (em_sl (em_var 3) (eo_none) (eo_some (em_int))) (em_str))))) (em_sl (em_var 3) (eo_some (em_int)) (eo_none)) (em_var 3))) <|
    ess_cons (es_set 5 nd (em_cmp (op_eqA hr) ok_eq (nomark _) (em_ef (ef_lc (own := [("sign", 6)]) nd (ei_any (em_var 4)) (by kernel_rfl) (fun _ _ _ _ _ => (pg_name (i := 6) nd rfl (by first | exact Or.inl rfl | exact Or.inr rfl))) (fun _ _ _ _ _ => ets_one (eb_cmp op_ninA ok_nin (by rfl) (em_var 6) (em_str))) (fun _ _ _ _ _ => em_var 6))) (em_ef (ef_lst (ea_nil))))) <|
    ess_one (es_expr (em_append 2 (em_if (eb_w (ew_and (eb_tru (em_var 5)) (ew_and1 (eb_w (ew_or (eb_not (eb_tru (em_var 1))) (ew_or1 (eb_cmp (op_eqA hr) ok_eq (nomark _) (em_sl (em_var 3) (eo_none) (eo_some (em_int))) (em_str)))))))) (em_str) (em_var 3)))))) <|
    ess_one (es_ret (em_sm PySem.F.plainAttrs_str PySem.F.slot_str_join PySem.F.type_str_join mt_join ok_join (em_str) (ea_cons (em_var 2) (ea_nil)))))⟩
theorem c_law_cleared {h : Heap} {mg : Str → Option Value} (KX : K.In h) (G : h.Ns mainGlobals mg) (c : He.SaysX fa fn ts [] exK w h K) : Cal P w K mg base (cl K) "_law_cleared" 2 2 [] F_law_cleared := by
  obtain ⟨fd, F, h⟩ := f_law_cleared (P := P) (base := base) KX G c
  exact ⟨_, fd, _, [], [], h, He.glo_ok KX G (c.t.d.fact 32 (f := .glo "_law_cleared") rfl), F.kp, F.bindsN (fun _ _ _ _ _ _ us hl => match us, hl with | [_, _], _ => rfl), .nil, fun _ => .nil⟩
theorem f_law_words {h : Heap} {mg : Str → Option Value} (KX : K.In h) (G : h.Ns mainGlobals mg) (c : He.SaysX fa fn ts [] exK w h K) : ∃ fd : FuncData, FunD K "_law_words" "_law_words" (defArgs s16) (defBody s16) (defScope s16) ([]) ([]) (He.fAd K ("_law_words", none)) fd ∧ FnOk P w K mg base CX0 2 (He.fAd K ("_law_words", none)) fd ["text"] (spM K (cl K) 1 F_law_words) := by
  obtain ⟨fd, F⟩ := c.t.d.def_ 16 (d := d16) rfl
  have F : FunD K "_law_words" "_law_words" (defArgs s16) (defBody s16) (defScope s16) ([]) ([]) (He.fAd K ("_law_words", none)) fd := F
  have nd : (["text", "found", "word", "sign"] : List Str).Nodup := by decide +kernel
  have sc : FnScope ["text", "found", "word", "sign"] ["text"] (defScope s16) := ⟨rfl, rfl, rfl, nd, rfl, by decide +kernel, by decide +kernel⟩
  refine ⟨fd, F, fn_ok (cl := cl K) (n := 1) (nN := 4) (sm := m_law_words) F sc (by decide) rfl rfl (fun cdv A outer s H E hr =>
    ess_cons (es_par2 1 2 nd (ep_ow (ef_lst (ea_nil)) (ep_im (em_str) (ep_nil)))) <|
    ess_cons (es_for (t := (.one 3)) (ei_any (em_op op_addA ok_add (em_var 0) (em_str))) (pg_name (i := 3) nd rfl (by first | exact Or.inl rfl | exact Or.inr rfl)) (ess_one (es_if (eb_cmp op_inA ok_in (by rfl) (em_var 3) (em_str)) (ess_cons (es_expr (em_extend 1 (ef_op op_rep okf_mul (em_ef (ef_lst (ea_cons (em_var 2) (ea_nil)))) (em_callTy call_int1 ok_int (He.free_ok KX G (c.t.d.fact 24 (f := .free "int") rfl)) (by decide +kernel) (ea_cons (em_cmp (op_neA hr) ok_ne (nomark _) (em_var 2) (em_str)) (ea_nil)))))) <|
    ess_one (es_set 2 nd (em_str))) (ess_one (es_set 2 nd (em_op op_addA ok_add (em_var 2) (em_var 3))))))) <|
    ess_one (es_ret (em_sm PySem.F.plainAttrs_str PySem.F.slot_str_join PySem.F.type_str_join mt_join ok_join (em_str) (ea_cons (em_var 1) (ea_nil)))))⟩
theorem c_law_words {h : Heap} {mg : Str → Option Value} (KX : K.In h) (G : h.Ns mainGlobals mg) (c : He.SaysX fa fn ts [] exK w h K) : Cal P w K mg base (cl K) "_law_words" 2 1 [] F_law_words := by
  obtain ⟨fd, F, h⟩ := f_law_words (P := P) (base := base) KX G c
  exact ⟨_, fd, _, [], [], h, He.glo_ok KX G (c.t.d.fact 33 (f := .glo "_law_words") rfl), F.kp, F.bindsN (fun _ _ _ _ _ _ us hl => match us, hl with | [_], _ => rfl), .nil, fun _ => .nil⟩
theorem f_law_pieces {h : Heap} {mg : Str → Option Value} (KX : K.In h) (G : h.Ns mainGlobals mg) (c : He.SaysX fa fn ts [] exK w h K) : ∃ fd : FuncData, FunD K "_law_pieces" "_law_pieces" (defArgs s17) (defBody s17) (defScope s17) ([]) ([]) (He.fAd K ("_law_pieces", none)) fd ∧ FnOk P w K mg base CX0 2 (He.fAd K ("_law_pieces", none)) fd ["text"] (spM K (cl K) 1 F_law_pieces) := by
  obtain ⟨fd, F⟩ := c.t.d.def_ 17 (d := d17) rfl
  have F : FunD K "_law_pieces" "_law_pieces" (defArgs s17) (defBody s17) (defScope s17) ([]) ([]) (He.fAd K ("_law_pieces", none)) fd := F
  have nd : (["text", "found", "at"] : List Str).Nodup := by decide +kernel
  have sc : FnScope ["text", "found", "at"] ["text"] (defScope s17) := ⟨rfl, rfl, rfl, nd, rfl, by decide +kernel, by decide +kernel⟩
  refine ⟨fd, F, fn_ok (cl := cl K) (n := 1) (nN := 3) (sm := m_law_pieces) F sc (by decide) rfl rfl (fun cdv A outer s H E hr =>
    ess_cons (es_par2 1 2 nd (ep_ow (ef_lst (ea_cons (em_str) (ea_nil))) (ep_im (em_int) (ep_nil)))) <|
    ess_cons (es_while 100000 (eb_cmp op_ltA ok_cmp (nomark _) (em_var 2) (em_callB call_len ok_len (He.free_ok KX G (c.t.d.fact 10 (f := .free "len") rfl)) (by decide +kernel) (ea_cons (em_var 0) (ea_nil)))) (ess_one (es_if (eb_cmp (op_eqA hr) ok_eq (nomark _) (em_sl (em_var 0) (eo_some (em_var 2)) (eo_some (em_op op_addA ok_add (em_var 2) (em_int)))) (em_str)) (ess_cons (es_expr (em_append 1 (em_str))) <|
    ess_one (es_set 2 nd (em_op op_addA ok_add (em_var 2) (em_int)))) (ess_cons (es_expr (em_append 1 (em_op op_addA ok_add (em_pop0 1) (em_ix (em_var 0) (em_var 2))))) <|
    ess_one (es_set 2 nd (em_op op_addA ok_add (em_var 2) (em_int))))))) <|
    ess_one (es_ret (em_var 1)))⟩
theorem c_law_pieces {h : Heap} {mg : Str → Option Value} (KX : K.In h) (G : h.Ns mainGlobals mg) (c : He.SaysX fa fn ts [] exK w h K) : Cal P w K mg base (cl K) "_law_pieces" 2 1 [] F_law_pieces := by
  obtain ⟨fd, F, h⟩ := f_law_pieces (P := P) (base := base) KX G c
  exact ⟨_, fd, _, [], [], h, He.glo_ok KX G (c.t.d.fact 34 (f := .glo "_law_pieces") rfl), F.kp, F.bindsN (fun _ _ _ _ _ _ us hl => match us, hl with | [_], _ => rfl), .nil, fun _ => .nil⟩
theorem f_law_fits {h : Heap} {mg : Str → Option Value} (KX : K.In h) (G : h.Ns mainGlobals mg) (c : He.SaysX fa fn ts [] exK w h K) : ∃ fd : FuncData, FunD K "_law_fits" "_law_fits" (defArgs s18) (defBody s18) (defScope s18) ([]) ([]) (He.fAd K ("_law_fits", none)) fd ∧ FnOk P w K mg base CX0 2 (He.fAd K ("_law_fits", none)) fd ["pieces", "got"] (spM K (cl K) 2 F_law_fits) := by
  obtain ⟨fd, F⟩ := c.t.d.def_ 18 (d := d18) rfl
  have F : FunD K "_law_fits" "_law_fits" (defArgs s18) (defBody s18) (defScope s18) ([]) ([]) (He.fAd K ("_law_fits", none)) fd := F
  have nd : (["pieces", "got", "ends", "number", "piece", "begins", "at"] : List Str).Nodup := by decide +kernel
  have sc : FnScope ["pieces", "got", "ends", "number", "piece", "begins", "at"] ["pieces", "got"] (defScope s18) := ⟨rfl, rfl, rfl, nd, rfl, by decide +kernel, by decide +kernel⟩
  refine ⟨fd, F, fn_ok (cl := cl K) (n := 2) (nN := 7) (sm := m_law_fits) F sc (by decide) rfl rfl (fun cdv A outer s H E hr =>
    ess_cons (es_set 2 nd (em_ef (ef_lst (ea_cons (em_int) (ea_nil))))) <|
    ess_cons (es_for (t := (.tup [3, 4])) (ei_enum (He.free_ok KX G (c.t.d.fact 35 (f := .free "enumerate") rfl)) (ea_cons (em_var 0) (ea_nil))) (pg_tup (by rfl) (pgs_cons (pg_name (i := 3) nd rfl (by first | exact Or.inl rfl | exact Or.inr rfl)) (pgs_cons (pg_name (i := 4) nd rfl (by first | exact Or.inl rfl | exact Or.inr rfl)) pgs_nil))) (ess_cons (es_set 5 nd (em_if (eb_cmp op_gtA ok_cmp (nomark _) (em_var 3) (em_int)) (em_ef (ef_rg2 (He.free_ok KX G (c.t.d.fact 2 (f := .free "list") rfl)) (He.free_ok KX G (c.t.d.fact 37 (f := .free "range") rfl)) (em_callB (cr_minA rfl) ok_min (He.free_ok KX G (c.t.d.fact 36 (f := .free "min") rfl)) (by decide +kernel) (ea_cons (em_var 2) (ea_nil))) (em_op op_addA ok_add (em_callB call_len ok_len (He.free_ok KX G (c.t.d.fact 10 (f := .free "len") rfl)) (by decide +kernel) (ea_cons (em_var 1) (ea_nil))) (em_int)))) (em_var 2))) <|
    ess_cons (es_lcIm 2 (own := [("at", 6)]) nd (ei_any (em_var 5)) (by kernel_rfl) (fun _ _ _ _ _ => (pg_name (i := 6) nd rfl (by first | exact Or.inl rfl | exact Or.inr rfl))) (fun _ _ _ _ _ => ets_one (eb_cmp (op_eqA hr) ok_eq (nomark _) (em_sl (em_var 1) (eo_some (em_var 6)) (eo_some (em_op op_addA ok_add (em_var 6) (em_callB call_len ok_len (He.free_ok KX G (c.t.d.fact 10 (f := .free "len") rfl)) (by decide +kernel) (ea_cons (em_var 4) (ea_nil)))))) (em_var 4))) (fun _ _ _ _ _ => em_op op_addA ok_add (em_var 6) (em_callB call_len ok_len (He.free_ok KX G (c.t.d.fact 10 (f := .free "len") rfl)) (by decide +kernel) (ea_cons (em_var 4) (ea_nil)))) (sw_true rfl rfl rfl (by kernel_rfl))) <|
    ess_one (es_if (eb_cmp (op_eqA hr) ok_eq (nomark _) (em_var 2) (em_ef (ef_lst (ea_nil)))) (ess_one (es_ret (em_bl))) (ess_nil)))) <|
    ess_one (es_ret (em_cmp op_inA ok_in (by rfl) (em_callB call_len ok_len (He.free_ok KX G (c.t.d.fact 10 (f := .free "len") rfl)) (by decide +kernel) (ea_cons (em_var 1) (ea_nil))) (em_var 2))))⟩
theorem c_law_fits {h : Heap} {mg : Str → Option Value} (KX : K.In h) (G : h.Ns mainGlobals mg) (c : He.SaysX fa fn ts [] exK w h K) : Cal P w K mg base (cl K) "_law_fits" 2 2 [] F_law_fits := by
  obtain ⟨fd, F, h⟩ := f_law_fits (P := P) (base := base) KX G c
  exact ⟨_, fd, _, [], [], h, He.glo_ok KX G (c.t.d.fact 38 (f := .glo "_law_fits") rfl), F.kp, F.bindsN (fun _ _ _ _ _ _ us hl => match us, hl with | [_, _], _ => rfl), .nil, fun _ => .nil⟩
theorem f_law_lets {h : Heap} {mg : Str → Option Value} (KX : K.In h) (G : h.Ns mainGlobals mg) (c : He.SaysX fa fn ts [] exK w h K) : ∃ fd : FuncData, FunD K "_law_lets" "_law_lets" (defArgs s19) (defBody s19) (defScope s19) ([]) ([]) (He.fAd K ("_law_lets", none)) fd ∧ FnOk P w K mg base CX0 4 (He.fAd K ("_law_lets", none)) fd ["want", "got", "rules"] (spM K (cl K) 3 F_law_lets) := by
  obtain ⟨fd, F⟩ := c.t.d.def_ 19 (d := d19) rfl
  have F : FunD K "_law_lets" "_law_lets" (defArgs s19) (defBody s19) (defScope s19) ([]) ([]) (He.fAd K ("_law_lets", none)) fd := F
  have nd : (["want", "got", "rules", "pieces"] : List Str).Nodup := by decide +kernel
  have sc : FnScope ["want", "got", "rules", "pieces"] ["want", "got", "rules"] (defScope s19) := ⟨rfl, rfl, rfl, nd, rfl, by decide +kernel, by decide +kernel⟩
  refine ⟨fd, F, fn_ok (cl := cl K) (n := 3) (nN := 4) (sm := m_law_lets) F sc (by decide) rfl rfl (fun cdv A outer s H E hr =>
    ess_cons (es_if (eb_cmp (op_eqA hr) ok_eq (nomark _) (em_var 0) (em_var 1)) (ess_one (es_ret (em_bl))) (ess_nil)) <|
    ess_cons (es_if (eb_w (ew_and (eb_cmp op_ninA ok_nin (by rfl) (em_str) (em_var 2)) (ew_and1 (eb_cmp (op_inT hr) ok_inT (by rfl) (em_tup (ea_cons (em_var 0) (ea_cons (em_var 1) (ea_nil)))) (em_tup (ea_cons (em_tup (ea_cons (em_str) (ea_cons (em_str) (ea_nil)))) (ea_cons (em_tup (ea_cons (em_str) (ea_cons (em_str) (ea_nil)))) (ea_nil)))))))) (ess_one (es_ret (em_bl))) (ess_nil)) <|
    ess_cons (es_if (eb_cmp op_ninA ok_nin (by rfl) (em_str) (em_var 2)) (ess_one (es_par2 0 1 nd (ep_im (em_call (c_law_cleared KX G c) (hr.mono (by decide)) (er_im (em_var 0) (er_im (em_bl) (er_nil))) len_law_cleared (an_ok (an_im (an_im an_nil')) rfl)) (ep_im (em_call (c_law_cleared KX G c) (hr.mono (by decide)) (er_im (em_var 1) (er_im (em_bl) (er_nil))) len_law_cleared (an_ok (an_im (an_im an_nil')) rfl)) (ep_nil))))) (ess_nil)) <|
    ess_cons (es_if (eb_cmp op_inA ok_in (by rfl) (em_str) (em_var 2)) (ess_one (es_par2 0 1 nd (ep_im (em_call (c_law_words KX G c) (hr.mono (by decide)) (er_im (em_var 0) (er_nil)) len_law_words (an_ok (an_im an_nil') rfl)) (ep_im (em_call (c_law_words KX G c) (hr.mono (by decide)) (er_im (em_var 1) (er_nil)) len_law_words (an_ok (an_im an_nil') rfl)) (ep_nil))))) (ess_nil)) <|
    ess_cons (es_set 3 nd (em_if (eb_cmp op_inA ok_in (by rfl) (em_str) (em_var 2)) (em_call (c_law_pieces KX G c) (hr.mono (by decide)) (er_im (em_var 0) (er_nil)) len_law_pieces (an_ok (an_im an_nil') rfl)) (em_ef (ef_lst (ea_cons (em_var 0) (ea_nil)))))) <|
    ess_one (es_ret (em_or (em_cmp (op_eqA hr) ok_eq (nomark _) (em_var 0) (em_var 1)) (em_one (em_and (em_cmp op_gtA ok_cmp (nomark _) (em_callB call_len ok_len (He.free_ok KX G (c.t.d.fact 10 (f := .free "len") rfl)) (by decide +kernel) (ea_cons (em_var 3) (ea_nil))) (em_int)) (em_one (em_call (c_law_fits KX G c) (hr.mono (by decide)) (er_im (em_var 3) (er_im (em_var 1) (er_nil))) len_law_fits (an_ok (an_im (an_im an_nil')) rfl))))))))⟩
theorem c_law_lets {h : Heap} {mg : Str → Option Value} (KX : K.In h) (G : h.Ns mainGlobals mg) (c : He.SaysX fa fn ts [] exK w h K) : Cal P w K mg base (cl K) "_law_lets" 4 3 [] F_law_lets := by
  obtain ⟨fd, F, h⟩ := f_law_lets (P := P) (base := base) KX G c
  exact ⟨_, fd, _, [], [], h, He.glo_ok KX G (c.t.d.fact 39 (f := .glo "_law_lets") rfl), F.kp, F.bindsN (fun _ _ _ _ _ _ us hl => match us, hl with | [_, _, _], _ => rfl), .nil, fun _ => .nil⟩
theorem f_law_rules {h : Heap} {mg : Str → Option Value} (KX : K.In h) (G : h.Ns mainGlobals mg) (c : He.SaysX fa fn ts [] exK w h K) : ∃ fd : FuncData, FunD K "_law_rules" "_law_rules" (defArgs s20) (defBody s20) (defScope s20) ([]) ([]) (He.fAd K ("_law_rules", none)) fd ∧ FnOk P w K mg base CX0 6 (He.fAd K ("_law_rules", none)) fd ["draws"] (spM K (cl K) 1 F_law_rules) := by
  obtain ⟨fd, F⟩ := c.t.d.def_ 20 (d := d20) rfl
  have F : FunD K "_law_rules" "_law_rules" (defArgs s20) (defBody s20) (defScope s20) ([]) ([]) (He.fAd K ("_law_rules", none)) fd := F
  have nd : (["draws", "words", "word"] : List Str).Nodup := by decide +kernel
  have sc : FnScope ["draws", "words", "word"] ["draws"] (defScope s20) := ⟨rfl, rfl, rfl, nd, rfl, by decide +kernel, by decide +kernel⟩
  refine ⟨fd, F, fn_ok (cl := cl K) (n := 1) (nN := 3) (sm := m_law_rules) F sc (by decide) rfl rfl (fun cdv A outer s H E hr =>
    ess_cons (es_set 1 nd (em_ef (ef_lst (ea_cons (em_str) (ea_cons (em_str) (ea_cons (em_str) (ea_cons (em_str) (ea_nil)))))))) <|
    ess_one (es_ret (em_ef (ef_lc (own := [("word", 2)]) nd (ei_any (em_var 1)) (by kernel_rfl) (fun _ _ _ _ _ => (pg_name (i := 2) nd rfl (by first | exact Or.inl rfl | exact Or.inr rfl))) (fun _ _ _ _ _ => ets_one (eb_cmp (op_eqA hr) ok_eq (nomark _) (em_call (c_law_take KX G c) (hr.mono (by decide)) (er_sl 0 (er_im (em_int) (er_nil))) len_law_take (an_ok (an_sl (an_im an_nil')) rfl)) (em_int))) (fun _ _ _ _ _ => em_var 2)))))⟩
theorem c_law_rules {h : Heap} {mg : Str → Option Value} (KX : K.In h) (G : h.Ns mainGlobals mg) (c : He.SaysX fa fn ts [] exK w h K) : Cal P w K mg base (cl K) "_law_rules" 6 1 [] F_law_rules := by
  obtain ⟨fd, F, h⟩ := f_law_rules (P := P) (base := base) KX G c
  exact ⟨_, fd, _, [], [], h, He.glo_ok KX G (c.t.d.fact 40 (f := .glo "_law_rules") rfl), F.kp, F.bindsN (fun _ _ _ _ _ _ us hl => match us, hl with | [_], _ => rfl), .nil, fun _ => .nil⟩
theorem f_law_handed {h : Heap} {mg : Str → Option Value} (KX : K.In h) (G : h.Ns mainGlobals mg) (c : He.SaysX fa fn ts [] exK w h K) : ∃ fd : FuncData, FunD K "_law_handed" "_law_handed" (defArgs s21) (defBody s21) (defScope s21) ([]) ([]) (He.fAd K ("_law_handed", none)) fd ∧ FnOk P w K mg base CX0 6 (He.fAd K ("_law_handed", none)) fd ["draws", "rules"] (spM K (cl K) 2 F_law_handed) := by
  obtain ⟨fd, F⟩ := c.t.d.def_ 21 (d := d21) rfl
  have F : FunD K "_law_handed" "_law_handed" (defArgs s21) (defBody s21) (defScope s21) ([]) ([]) (He.fAd K ("_law_handed", none)) fd := F
  have nd : (["draws", "rules", "left", "found"] : List Str).Nodup := by decide +kernel
  have sc : FnScope ["draws", "rules", "left", "found"] ["draws", "rules"] (defScope s21) := ⟨rfl, rfl, rfl, nd, rfl, by decide +kernel, by decide +kernel⟩
  refine ⟨fd, F, fn_ok (cl := cl K) (n := 2) (nN := 4) (sm := m_law_handed) F sc (by decide) rfl rfl (fun cdv A outer s H E hr =>
    ess_cons (es_par2 2 3 nd (ep_ow (ef_call okf_list (pe_callTy call_list_of (by rfl) (He.free_ok KX G (c.t.d.fact 2 (f := .free "list") rfl)) (by decide +kernel) (ea_cons (em_var 1) (ea_nil)))) (ep_ow (ef_lst (ea_nil)) (ep_nil)))) <|
    ess_cons (es_while 100000 (eb_nilO true 2 hr rfl) (ess_one (es_expr (em_append 3 (em_popAt 2 (em_call (c_law_take KX G c) (hr.mono (by decide)) (er_sl 0 (er_im (em_lenO 2 (He.free_ok KX G (c.t.d.fact 10 (f := .free "len") rfl))) (er_nil))) len_law_take (an_ok (an_sl (an_im an_nil')) rfl))))))) <|
    ess_cons (es_set 3 nd (em_op op_addA ok_add (em_var 3) (em_sl (em_var 3) (eo_none) (eo_some (em_call (c_law_take KX G c) (hr.mono (by decide)) (er_sl 0 (er_im (em_int) (er_nil))) len_law_take (an_ok (an_sl (an_im an_nil')) rfl)))))) <|
    ess_one (es_ret (em_ix (em_ef (ef_lst (ea_cons (em_var 3) (ea_cons (em_callTy call_tuple_of ok_tuple (He.free_ok KX G (c.t.d.fact 3 (f := .free "tuple") rfl)) (by decide +kernel) (ea_cons (em_var 3) (ea_nil))) (ea_nil))))) (em_call (c_law_take KX G c) (hr.mono (by decide)) (er_sl 0 (er_im (em_int) (er_nil))) len_law_take (an_ok (an_sl (an_im an_nil')) rfl)))))⟩
theorem c_law_handed {h : Heap} {mg : Str → Option Value} (KX : K.In h) (G : h.Ns mainGlobals mg) (c : He.SaysX fa fn ts [] exK w h K) : Cal P w K mg base (cl K) "_law_handed" 6 2 [] F_law_handed := by
  obtain ⟨fd, F, h⟩ := f_law_handed (P := P) (base := base) KX G c
  exact ⟨_, fd, _, [], [], h, He.glo_ok KX G (c.t.d.fact 41 (f := .glo "_law_handed") rfl), F.kp, F.bindsN (fun _ _ _ _ _ _ us hl => match us, hl with | [_, _], _ => rfl), .nil, fun _ => .nil⟩
theorem f_law_want {h : Heap} {mg : Str → Option Value} (KX : K.In h) (G : h.Ns mainGlobals mg) (c : He.SaysX fa fn ts [] exK w h K) : ∃ fd : FuncData, FunD K "_law_want" "_law_want" (defArgs s22) (defBody s22) (defScope s22) ([]) ([]) (He.fAd K ("_law_want", none)) fd ∧ FnOk P w K mg base CX0 8 (He.fAd K ("_law_want", none)) fd ["draws", "most", "few"] (spM K (cl K) 3 F_law_want) := by
  obtain ⟨fd, F⟩ := c.t.d.def_ 22 (d := d22) rfl
  have F : FunD K "_law_want" "_law_want" (defArgs s22) (defBody s22) (defScope s22) ([]) ([]) (He.fAd K ("_law_want", none)) fd := F
  have nd : (["draws", "most", "few", "parts", "text", "k"] : List Str).Nodup := by decide +kernel
  have sc : FnScope ["draws", "most", "few", "parts", "text", "k"] ["draws", "most", "few"] (defScope s22) := ⟨rfl, rfl, rfl, nd, rfl, by decide +kernel, by decide +kernel⟩
  refine ⟨fd, F, fn_ok (cl := cl K) (n := 3) (nN := 6) (sm := m_law_want) F sc (by decide) rfl rfl (fun cdv A outer s H E hr =>
    ess_cons (es_set 3 nd (em_ef (ef_lst (ea_cons (em_str) (ea_cons (em_str) (ea_cons (em_str) (ea_cons (em_str) (ea_cons (em_str) (ea_cons (em_str) (ea_cons (em_str) (ea_cons (em_str) (ea_cons (em_str) (ea_cons (em_str) (ea_cons (em_str) (ea_cons (em_str) (ea_nil)))))))))))))))) <|
    ess_cons (es_set 3 nd (em_if (eb_tru (em_var 2)) (em_sl (em_var 3) (eo_none) (eo_some (em_int))) (em_var 3))) <|
    ess_cons (es_set 4 nd (em_sm PySem.F.plainAttrs_str PySem.F.slot_str_join PySem.F.type_str_join mt_join ok_join (em_str) (ea_cons (em_ef (ef_lc (own := [("k", 5)]) nd (ei_range1 (He.free_ok KX G (c.t.d.fact 37 (f := .free "range") rfl)) (ea_cons (em_call (c_law_take KX G c) (hr.mono (by decide)) (er_sl 0 (er_im (em_op op_addA ok_add (em_var 1) (em_int)) (er_nil))) len_law_take (an_ok (an_sl (an_im an_nil')) rfl)) (ea_nil))) (by kernel_rfl) (fun _ _ _ _ _ => (pg_name (i := 5) nd rfl (by first | exact Or.inl rfl | exact Or.inr rfl))) (fun _ _ _ _ _ => ets_nil) (fun _ _ _ _ _ => em_call (c_law_pick KX G c) (hr.mono (by decide)) (er_sl 0 (er_im (em_var 3) (er_nil))) len_law_pick (an_ok (an_sl (an_im an_nil')) rfl)))) (ea_nil)))) <|
    ess_one (es_ret (em_op op_addA ok_add (em_var 4) (em_ix (em_ef (ef_lst (ea_cons (em_str) (ea_cons (em_str) (ea_cons (em_str) (ea_cons (em_str) (ea_nil))))))) (em_call (c_law_take KX G c) (hr.mono (by decide)) (er_sl 0 (er_im (em_int) (er_nil))) len_law_take (an_ok (an_sl (an_im an_nil')) rfl))))))⟩
theorem c_law_want {h : Heap} {mg : Str → Option Value} (KX : K.In h) (G : h.Ns mainGlobals mg) (c : He.SaysX fa fn ts [] exK w h K) : Cal P w K mg base (cl K) "_law_want" 8 3 [] F_law_want := by
  obtain ⟨fd, F, h⟩ := f_law_want (P := P) (base := base) KX G c
  exact ⟨_, fd, _, [], [], h, He.glo_ok KX G (c.t.d.fact 42 (f := .glo "_law_want") rfl), F.kp, F.bindsN (fun _ _ _ _ _ _ us hl => match us, hl with | [_, _, _], _ => rfl), .nil, fun _ => .nil⟩
theorem f_law_near {h : Heap} {mg : Str → Option Value} (KX : K.In h) (G : h.Ns mainGlobals mg) (c : He.SaysX fa fn ts [] exK w h K) : ∃ fd : FuncData, FunD K "_law_near" "_law_near" (defArgs s23) (defBody s23) (defScope s23) ([]) ([]) (He.fAd K ("_law_near", none)) fd ∧ FnOk P w K mg base CX0 6 (He.fAd K ("_law_near", none)) fd ["draws", "want"] (spM K (cl K) 2 F_law_near) := by
  obtain ⟨fd, F⟩ := c.t.d.def_ 23 (d := d23) rfl
  have F : FunD K "_law_near" "_law_near" (defArgs s23) (defBody s23) (defScope s23) ([]) ([]) (He.fAd K ("_law_near", none)) fd := F
  have nd : (["draws", "want", "found", "number", "piece", "more", "lines", "line", "way", "at"] : List Str).Nodup := by decide +kernel
  have sc : FnScope ["draws", "want", "found", "number", "piece", "more", "lines", "line", "way", "at"] ["draws", "want"] (defScope s23) := ⟨rfl, rfl, rfl, nd, rfl, by decide +kernel, by decide +kernel⟩
  refine ⟨fd, F, fn_ok (cl := cl K) (n := 2) (nN := 10) (sm := m_law_near) F sc (by decide) rfl rfl (fun cdv A outer s H E hr =>
    ess_strT 2 nd <|
    esst_cons (est_of (es_for (t := (.tup [3, 4])) (ei_enum (He.free_ok KX G (c.t.d.fact 35 (f := .free "enumerate") rfl)) (ea_cons (em_call (c_law_pieces KX G c) (hr.mono (by decide)) (er_im (em_var 1) (er_nil)) len_law_pieces (an_ok (an_im an_nil') rfl)) (ea_nil))) (pg_tup (by rfl) (pgs_cons (pg_name (i := 3) nd rfl (by first | exact Or.inl rfl | exact Or.inr rfl)) (pgs_cons (pg_name (i := 4) nd rfl (by first | exact Or.inl rfl | exact Or.inr rfl)) pgs_nil))) (ess_cons (es_set 5 nd (em_ix (em_ef (ef_lst (ea_cons (em_str) (ea_cons (em_str) (ea_cons (em_str) (ea_cons (em_str) (ea_cons (em_str) (ea_cons (em_str) (ea_nil))))))))) (em_call (c_law_take KX G c) (hr.mono (by decide)) (er_sl 0 (er_im (em_int) (er_nil))) len_law_take (an_ok (an_sl (an_im an_nil')) rfl)))) <|
    ess_one (es_set 2 nd (em_op op_addA ok_add (em_op op_addA ok_add (em_var 2) (em_ix (em_ef (ef_lst (ea_cons (em_var 5) (ea_cons (em_str) (ea_nil))))) (em_callTy call_int1 ok_int (He.free_ok KX G (c.t.d.fact 24 (f := .free "int") rfl)) (by decide +kernel) (ea_cons (em_cmp (op_eqA hr) ok_eq (nomark _) (em_var 3) (em_int)) (ea_nil))))) (em_var 4)))))) <|
    esst_cons (est_of (es_own 6 nd (ef_lst (ea_nil)))) <|
    esst_cons (est_for (t := (.one 7)) (ei_any (em_ef (ef_sm PySem.F.plainAttrs_str PySem.F.slot_str_split PySem.F.type_str_split mt_split okf_split (em_var 2) (ea_cons (em_str) (ea_nil))))) (pg_name (i := 7) nd rfl (by first | exact Or.inl rfl | exact Or.inr rfl)) (esst_cons (est_set 7 nd (emt_replI (em_var 7) (em_call (c_law_take KX G c) (hr.mono (by decide)) (er_sl 0 (er_im (em_int) (er_nil))) len_law_take (an_ok (an_sl (an_im an_nil')) rfl)) (all_at c.more 3 rfl) (StrC.cons (by rfl) (StrC.cons (by rfl) (StrC.cons (by rfl) StrC.nil))))) <|
    esst_of (ess_cons (es_set 8 nd (em_call (c_law_take KX G c) (hr.mono (by decide)) (er_sl 0 (er_im (em_int) (er_nil))) len_law_take (an_ok (an_sl (an_im an_nil')) rfl))) <|
    ess_cons (es_set 7 nd (em_ifT (eb1_cmp op_ltA ok_cmp (nomark _) (em_var 8)) (emt_replI (em_var 7) (em_var 8) (all_at c.more 3 rfl) (StrC.cons (by rfl) (StrC.cons (by rfl) (StrC.cons (by rfl) (StrC.cons (by rfl) StrC.nil))))) (em_var 7))) <|
    ess_one (es_expr (em_append 6 (em_op op_addA ok_add (em_var 7) (em_ix (em_ef (ef_lst (ea_cons (em_str) (ea_cons (em_str) (ea_cons (em_str) (ea_nil)))))) (em_call (c_law_take KX G c) (hr.mono (by decide)) (er_sl 0 (er_im (em_int) (er_nil))) len_law_take (an_ok (an_sl (an_im an_nil')) rfl))))))))) <|
    esst_of (ess_cons (es_set 2 nd (em_sm PySem.F.plainAttrs_str PySem.F.slot_str_join PySem.F.type_str_join mt_join ok_join (em_str) (ea_cons (em_var 6) (ea_nil)))) <|
    ess_cons (es_set 9 nd (em_call (c_law_take KX G c) (hr.mono (by decide)) (er_sl 0 (er_im (em_op op_addA ok_add (em_callB call_len ok_len (He.free_ok KX G (c.t.d.fact 10 (f := .free "len") rfl)) (by decide +kernel) (ea_cons (em_var 2) (ea_nil))) (em_int)) (er_nil))) len_law_take (an_ok (an_sl (an_im an_nil')) rfl))) <|
    ess_cons (es_set 8 nd (em_call (c_law_take KX G c) (hr.mono (by decide)) (er_sl 0 (er_im (em_int) (er_nil))) len_law_take (an_ok (an_sl (an_im an_nil')) rfl))) <|
    ess_cons (es_if (eb_cmp op_ltA ok_cmp (nomark _) (em_var 8) (em_int)) (ess_one (es_set 2 nd (em_op op_addA ok_add (em_op op_addA ok_add (em_sl (em_var 2) (eo_none) (eo_some (em_var 9))) (em_ix (em_ef (ef_lst (ea_cons (em_str) (ea_cons (em_str) (ea_cons (em_str) (ea_nil)))))) (em_var 8))) (em_sl (em_var 2) (eo_some (em_op op_addA ok_add (em_var 9) (em_ix (em_ef (ef_lst (ea_cons (em_int) (ea_cons (em_int) (ea_cons (em_int) (ea_nil)))))) (em_var 8)))) (eo_none))))) (ess_nil)) <|
    ess_one (es_ret (em_if (eb_w (ew_or (eb_cmp (op_eqA hr) ok_eq (nomark _) (em_sl (em_var 2) (eo_some (em_neg (em_int))) (eo_none)) (em_str)) (ew_or1 (eb_cmp (op_eqA hr) ok_eq (nomark _) (em_call (c_law_take KX G c) (hr.mono (by decide)) (er_sl 0 (er_im (em_int) (er_nil))) len_law_take (an_ok (an_sl (an_im an_nil')) rfl)) (em_int))))) (em_var 2) (em_op op_addA ok_add (em_var 2) (em_str))))))⟩
theorem c_law_near {h : Heap} {mg : Str → Option Value} (KX : K.In h) (G : h.Ns mainGlobals mg) (c : He.SaysX fa fn ts [] exK w h K) : Cal P w K mg base (cl K) "_law_near" 6 2 [] F_law_near := by
  obtain ⟨fd, F, h⟩ := f_law_near (P := P) (base := base) KX G c
  exact ⟨_, fd, _, [], [], h, He.glo_ok KX G (c.t.d.fact 43 (f := .glo "_law_near") rfl), F.kp, F.bindsN (fun _ _ _ _ _ _ us hl => match us, hl with | [_, _], _ => rfl), .nil, fun _ => .nil⟩
theorem f_law {h : Heap} {mg : Str → Option Value} (KX : K.In h) (G : h.Ns mainGlobals mg) (c : He.SaysX fa fn ts [] exK w h K) : ∃ fd : FuncData, FunD K "law" "law" (defArgs s24) (defBody s24) (defScope s24) ([]) ([]) (He.fAd K ("law", none)) fd ∧ FnOk P w K mg base CX0 10 (He.fAd K ("law", none)) fd ["script"] (spM K (cl K) 1 F_law) := by
  obtain ⟨fd, F⟩ := c.t.d.def_ 24 (d := d24) rfl
  have F : FunD K "law" "law" (defArgs s24) (defBody s24) (defScope s24) ([]) ([]) (He.fAd K ("law", none)) fd := F
  have nd : (["script", "draws", "turn", "want", "rules", "others", "got", "due", "flags"] : List Str).Nodup := by decide +kernel
  have sc : FnScope ["script", "draws", "turn", "want", "rules", "others", "got", "due", "flags"] ["script"] (defScope s24) := ⟨rfl, rfl, rfl, nd, rfl, by decide +kernel, by decide +kernel⟩
  refine ⟨fd, F, fn_ok (cl := cl K) (n := 1) (nN := 9) (sm := m_law) F sc (by decide) rfl rfl (fun cdv A outer s H E hr =>
    ess_cons (es_draws 1 0 2 (c_law_draws KX G c) (hr.mono (by decide)) nd) <|
    ess_cons (es_for (t := (.one 2)) (ei_range1 (He.free_ok KX G (c.t.d.fact 37 (f := .free "range") rfl)) (ea_cons (em_int) (ea_nil))) (pg_name (i := 2) nd rfl (by first | exact Or.inl rfl | exact Or.inr rfl)) (ess_cons (es_par2 3 4 nd (ep_im (em_call (c_law_want KX G c) (hr.mono (by decide)) (er_sl 1 (er_im (em_int) (er_im (em_bl) (er_nil)))) len_law_want (an_ok (an_sl (an_im (an_im an_nil'))) rfl)) (ep_im (em_call (c_law_rules KX G c) (hr.mono (by decide)) (er_sl 1 (er_nil)) len_law_rules (an_ok (an_sl an_nil') rfl)) (ep_nil)))) <|
    ess_cons (es_set 5 nd (em_sl (em_ef (ef_lst (ea_cons (em_str) (ea_cons (em_str) (ea_cons (em_str) (ea_cons (em_str) (ea_nil))))))) (eo_none) (eo_some (em_call (c_law_take KX G c) (hr.mono (by decide)) (er_sl 1 (er_im (em_int) (er_nil))) len_law_take (an_ok (an_sl (an_im an_nil')) rfl))))) <|
    ess_one (es_for (t := (.one 6)) (ei_any (em_tup (ea_cons (em_call (c_law_near KX G c) (hr.mono (by decide)) (er_sl 1 (er_im (em_var 3) (er_nil))) len_law_near (an_ok (an_sl (an_im an_nil')) rfl)) (ea_cons (em_call (c_law_near KX G c) (hr.mono (by decide)) (er_sl 1 (er_im (em_var 3) (er_nil))) len_law_near (an_ok (an_sl (an_im an_nil')) rfl)) (ea_cons (em_var 3) (ea_nil)))))) (pg_name (i := 6) nd rfl (by first | exact Or.inl rfl | exact Or.inr rfl)) (ess_cons (es_par2 7 8 nd (ep_im (em_call (c_law_lets KX G c) (hr.mono (by decide)) (er_im (em_var 3) (er_im (em_var 6) (er_im (em_var 4) (er_nil)))) len_law_lets (an_ok (an_im (an_im (an_im an_nil'))) rfl)) (ep_im (em_call (c_law_handed KX G c) (hr.mono (by decide)) (er_sl 1 (er_im (em_op op_addA ok_add (em_var 4) (em_var 5)) (er_nil))) len_law_handed (an_ok (an_sl (an_im an_nil')) rfl)) (ep_nil)))) <|
    ess_one (es_if (eb_w (ew_or (eb_not (eb_tru (em_call (c_law_same KX G c) (hr.mono (by decide)) (er_im (em_call (c_check KX G c) (hr.mono (by decide)) (er_im (em_var 3) (er_im (em_var 6) (er_im (em_var 8) (er_nil)))) len_check (an_ok (an_im (an_im (an_im an_nil'))) rfl)) (er_im (em_var 7) (er_nil))) len_law_same (an_ok (an_im (an_im an_nil')) rfl)))) (ew_or1 (eb_not (eb_tru (em_call (c_law_same KX G c) (hr.mono (by decide)) (er_im (em_call (c_check KX G c) (hr.mono (by decide)) (er_im (em_var 3) (er_im (em_var 6) (er_im (em_callTy call_tuple_of ok_tuple (He.free_ok KX G (c.t.d.fact 3 (f := .free "tuple") rfl)) (by decide +kernel) (ea_cons (em_var 8) (ea_nil))) (er_nil)))) len_check (an_ok (an_im (an_im (an_im an_nil'))) rfl)) (er_im (em_var 7) (er_nil))) len_law_same (an_ok (an_im (an_im an_nil')) rfl))))))) (ess_one (es_ret (em_bl))) (ess_nil)))))) <|
    ess_cons (es_set 4 nd (em_ef (ef_lst (ea_cons (em_str) (ea_cons (em_str) (ea_nil)))))) <|
    ess_one (es_ret (em_and (em_cmp op_isBl ok_isB (by rfl) (em_call (c_check KX G c) (hr.mono (by decide)) (er_im (em_str) (er_im (em_str) (er_im (em_sl (em_var 4) (eo_none) (eo_some (em_int))) (er_nil)))) len_check (an_ok (an_im (an_im (an_im an_nil'))) rfl)) (em_bl)) (em_one (em_cmp op_isBl ok_isB (by rfl) (em_call (c_check KX G c) (hr.mono (by decide)) (er_im (em_str) (er_im (em_str) (er_im (em_var 4) (er_nil)))) len_check (an_ok (an_im (an_im (an_im an_nil'))) rfl)) (em_bl))))))⟩
end
end Zz

set_option Elab.async false
set_option maxRecDepth 100000
set_option maxHeartbeats 0
namespace Zz
open PySem PySem.Spec PyProof.Rows L2 Zf
abbrev R : PySem.W.OpenRow := PySem.W.OpenLaw.row PySem.Challenge.rw_promptyard_k06_whole_stages_together
abbrev hk : PySem.W.Hook := hookY 5 fa fn ts exK
def ob (s : PySem.W.SharedT) : He.AlX := obsY 5 fa fn ts exK (HandSHeadRun.getT s)
theorem ob_eq (s : PySem.W.SharedT) : ob s = hk.obs s.abs := obsY_eq (HandSHeadRun.getT_eq s)
theorem run_f (w : World) : HandSHeadRun.RunEq R (PySem.W.view R.prog [42]) hk ob 20000 loose (w.withFollow "special-get-raises" false) := by
  intro os
  kernel_rfl
theorem run_t (w : World) : HandSHeadRun.RunEq R (PySem.W.view R.prog [42]) hk ob 20000 loose (w.withFollow "special-get-raises" true) := by
  intro os
  kernel_rfl
theorem run (w : World) : HandSHeadRun.RunEq R (PySem.W.view R.prog [42]) hk ob 20000 loose w := PySem.W.byRow2 "special-get-raises" (P := fun w => HandSHeadRun.RunEq R (PySem.W.view R.prog [42]) hk ob 20000 loose w) run_f run_t w
theorem facts {P : Program} {w : World} {K : PySem.W.Frag} {h : Heap} {mg : Str → Option Value} {f : Addr} (X : K.In h) (G : h.Ns mainGlobals mg) (hfa : mg ("law" : Str) = some (.ref f)) (c : He.SaysX fa fn ts [] exK w h K) :
    ∃ fd : FuncData, (∀ (s : Shared) (v : Value), BindsTo s fd ⟨[v], []⟩ [("script", v)]) ∧ ∀ base : Heap, K.In base → base.Ns mainGlobals mg → FnOk P w K mg base CX0 10 f fd ["script"] (spLaw K) := by
  obtain ⟨fd, F⟩ := c.t.d.def_ 24 (d := d24) rfl
  have e := hfa.symm.trans (He.glo_ok X G (c.t.d.fact 44 (f := .glo "law") rfl))
  cases e
  have b := FunD.bindsA (ps := ["script"]) F fun _ _ _ _ _ _ us hl => match us, hl with | [_], _ => rfl
  refine ⟨fd, fun s v => b s [v] rfl, fun base KB GB => ?_⟩
  obtain ⟨fd', F', hF⟩ := f_law (P := P) (base := base) X G c
  have e2 : fd' = fd := by
    obtain ⟨_, _, _, _, _, _, _, _, _, _, e3, l3, _⟩ := F'.ex
    obtain ⟨_, _, _, _, _, _, _, _, _, _, e4, l4, _⟩ := F.ex
    have l4 : K.lookup (He.fAd K ("law", none)) = _ := l4
    rw [l3] at l4
    injection l4 with l5
    injection l5 with _ _ l6 _
    injection l6
  subst e2
  exact law_imp hF law_true
end Zz
open PySem PySem.W PySem.Calls PyProof.Rows
theorem PySem.Challenge.cw_promptyard_k06_whole_stages_together_holds : PySem.Challenge.rw_promptyard_k06_whole_stages_together.Holds := by
  w_on; o_law
  refine HandSHeadRun.head_any (r := OpenLaw.row PySem.Challenge.rw_promptyard_k06_whole_stages_together) (q := view (OpenLaw.row PySem.Challenge.rw_promptyard_k06_whole_stages_together).prog [42]) (H := Zz.hk) (ob := Zz.ob) (M := 20000) (loose := Zz.loose) (d := HandSHeadRun.topDef (OpenLaw.row PySem.Challenge.rw_promptyard_k06_whole_stages_together).prog 42) (kwd := []) Zz.ob_eq
    (by kernel_rfl) (fun s => by kernel_rfl) Zz.run (by kernel_rfl) (by kernel_rfl) (by kernel_rfl) (by rfl) (by first | assumption | decide +kernel) (by decide +kernel) ⟨rfl, rfl, rfl, rfl, rfl, by decide +kernel⟩ ?hw ?hc
  case hw => w_witness2
  case hc =>
    refine L2.walk_ofE (l := PySem.Challenge.rw_promptyard_k06_whole_stages_together) (n := 63) (k := 10) (x := "script") (CX := L2.CX0) rfl (by decide) (by kernel_rfl) ⟨rfl, by decide, by decide⟩ ?F (fun _ _ _ _ z => z)
    intro w mg fa h Y G hmg0
    obtain ⟨K, KX, c⟩ := Y
    have hmg : mg ("law" : PySem.Str) = some (.ref fa) := by
      have e : (HandSHeadRun.topDef (OpenLaw.row PySem.Challenge.rw_promptyard_k06_whole_stages_together).prog 42).name = ("law" : PySem.Str) := by kernel_rfl
      rw [← e]
      exact hmg0
    obtain ⟨fd, hb, hF⟩ := Zz.facts (P := (PySem.Challenge.rw_promptyard_k06_whole_stages_together).prog) (w := w) KX G hmg c
    exact ⟨K, fd, Zf.spLaw K, KX, hb, fun H a ns hl _ hS => ⟨a, ns, rfl, hS, hl, fun _ => rfl⟩, hF⟩

