import PyProof.Rows.All
import Wide.All
import OpenK.AllK
import Wide.FinOn
import HandS.ForMost
import HandS.ForExc
import HandS.Walk
import HandS.HeadHook2
import HandS.TupAny
import HandS.Deep
import HandS.Wide
import HandS.IsInst
import PyProof.ReprRoads
import HandS.Text
import HandS.ExcOwn
import HandS.Style
import HandS.Defaults
import KE.GoesEnum
import KE.GoesMore
import HandS.Zip
import HandS.Flow
import HandS.CallSlots
import HandS.Exc
import HandS.ExcInit
import HandS.ExcField
import HandS.ExcIs
import KE.KExcIs
import HandS.Ends
import HandS.EndBits
import HandS.HeadEnd
import HandS.HeadHook1
import HandS.Dict
import HandS.Sort
import KE.SortData
import HandS.Words
import HandS.Replace
import HandS.ReplaceLit
import HandS.Head0
import HandS.Head1
import HandS.Head2
import KE.KStateDown
import PySem.Challenge.RW_framesalike_k67_texts_of_sheets
set_option Elab.async false
set_option linter.all false
set_option maxRecDepth 100000
set_option maxHeartbeats 4000000
section
namespace Dn
open PySem PySem.Spec L2
open PyProof.Rows hiding St

/-- plain data -/
inductive D where
  | non | bl (b : Bool) | int (i : Int) | str (x : Str)
  | tup (xs : List D) | lst (xs : List D) | rol (xs : List D) | dct (ks : List Key) (vs : List D)
  | cell (k : Nat) | raw (v : V)
  deriving Inhabited

structure Exn where
  cls : Str
  ns : List Str
  ds : List D
inductive Slot where
  | sh (d : D) | own (xs : List D) | exc (e : Exn)
abbrev DEnv := List (Option Slot)
inductive Cell where
  | lst (xs : List D)
  | ins (C : Str) (ns : List Str) (ds : List D)
abbrev CS := Option (List Cell)
inductive Res (α : Type) where
  | ok (a : α) (cs : CS) | err (e : Exn) (cs : CS) | bad
/-- a computation over the cells -/
def M (α : Type) := CS → Res α
def M.bind {α β : Type} (m : M α) (f : α → M β) : M β := fun cs => match m cs with
  | .ok a cs' => f a cs'
  | .err e cs' => .err e cs'
  | .bad => .bad
instance : Monad M where
  pure := fun a cs => .ok a cs
  bind := M.bind
def bad {α : Type} : M α := fun _ => .bad
@[simp] theorem M.pure_run {α : Type} (a : α) (cs : CS) : (Pure.pure a : M α) cs = .ok a cs := rfl
theorem M.bind_run {α β : Type} (m : M α) (f : α → M β) (cs : CS) : (m >>= f) cs = match m cs with
  | .ok a cs' => f a cs'
  | .err e cs' => .err e cs'
  | .bad => .bad := rfl
@[simp] theorem M.bad_run {α : Type} (cs : CS) : (bad : M α) cs = .bad := rfl

/-! ### data as values -/
mutual
inductive Rep (K : PySem.W.Frag) (F : Hp) (g : List Addr) : V → D → Prop
  | non : Rep K F g .non .non
  | bl (b) : Rep K F g (.bl b) (.bl b)
  | int (i) : Rep K F g (.int i) (.int i)
  | str (x) : Rep K F g (.str x) (.str x)
  | tup {a vs ds} : SqT K F a vs → Reps K F g vs ds → Rep K F g (.ref a) (.tup ds)
  | lst {a vs ds} : F a = some (.lst vs) → Reps K F g vs ds → Rep K F g (.ref a) (.lst ds)
  | rol {a vs ds} : SqL K F a vs → Reps K F g vs ds → Rep K F g (.ref a) (.rol ds)
  | dct {a kvs ks ds} : F a = some (.dK kvs) → ks = kvs.map (·.1) → Reps K F g (kvs.map (·.2)) ds → Rep K F g (.ref a) (.dct ks ds)
  | cell {k a} : g[k]? = some a → Rep K F g (.ref a) (.cell k)
  | raw (v) : Rep K F g v (.raw v)
inductive Reps (K : PySem.W.Frag) (F : Hp) (g : List Addr) : List V → List D → Prop
  | nil : Reps K F g [] []
  | cons {v vs d ds} : Rep K F g v d → Reps K F g vs ds → Reps K F g (v :: vs) (d :: ds)
end
def Le (F F' : Hp) : Prop := ∀ a o, F a = some o → F' a = some o
theorem Le.refl (F : Hp) : Le F F := fun _ _ h => h
theorem Le.trans {F F1 F2 : Hp} (a : Le F F1) (b : Le F1 F2) : Le F F2 := fun c o h => b c o (a c o h)
theorem Le.seqL {K : PySem.W.Frag} {F F' : Hp} {a : Addr} {xs : List V} (e : Le F F') (h : SqL K F a xs) : SqL K F' a xs := by
  rcases h with (h | ⟨o, h⟩) | h
  · exact .inl (.inl (e _ _ h))
  · exact .inl (.inr ⟨o, e _ _ h⟩)
  · exact .inr h
theorem Le.seqT {K : PySem.W.Frag} {F F' : Hp} {a : Addr} {xs : List V} (e : Le F F') (h : SqT K F a xs) : SqT K F' a xs := by
  rcases h with (h | ⟨o, h⟩) | h
  · exact .inl (.inl (e _ _ h))
  · exact .inl (.inr ⟨o, e _ _ h⟩)
  · exact .inr h
/-- g' goes on behind g -/
def Pre (g g' : List Addr) : Prop := ∃ l, g' = g ++ l
theorem Pre.refl (g : List Addr) : Pre g g := ⟨[], by simp⟩
theorem Pre.trans {g g1 g2 : List Addr} (a : Pre g g1) (b : Pre g1 g2) : Pre g g2 := by
  obtain ⟨l, rfl⟩ := a
  obtain ⟨l', rfl⟩ := b
  exact ⟨l ++ l', by simp⟩
theorem Pre.get {g g' : List Addr} (p : Pre g g') {k : Nat} {a : Addr} (h : g[k]? = some a) : g'[k]? = some a := by
  obtain ⟨l, rfl⟩ := p
  rw [List.getElem?_append_left (List.getElem?_eq_some_iff.mp h).1]
  exact h
theorem Pre.mem {g g' : List Addr} (p : Pre g g') {a : Addr} (h : a ∈ g) : a ∈ g' := by
  obtain ⟨l, rfl⟩ := p
  exact List.mem_append_left _ h
section
variable {K : PySem.W.Frag} {F F' : Hp} {g g' : List Addr}
mutual
theorem Rep.mono (e : Le F F') (p : Pre g g') : ∀ {v d}, Rep K F g v d → Rep K F' g' v d
  | _, _, .non => .non
  | _, _, .bl b => .bl b
  | _, _, .int i => .int i
  | _, _, .str x => .str x
  | _, _, .tup h r => .tup (e.seqT h) (Reps.mono e p r)
  | _, _, .lst h r => .lst (e _ _ h) (Reps.mono e p r)
  | _, _, .rol h r => .rol (e.seqL h) (Reps.mono e p r)
  | _, _, .dct h q r => .dct (e _ _ h) q (Reps.mono e p r)
  | _, _, .cell h => .cell (p.get h)
  | _, _, .raw v => .raw v
theorem Reps.mono (e : Le F F') (p : Pre g g') : ∀ {vs ds}, Reps K F g vs ds → Reps K F' g' vs ds
  | _, _, .nil => .nil
  | _, _, .cons r t => .cons (Rep.mono e p r) (Reps.mono e p t)
end
theorem Reps.length : ∀ {vs : List V} {ds : List D}, Reps K F g vs ds → vs.length = ds.length
  | _, _, .nil => rfl
  | _, _, .cons _ t => congrArg Nat.succ (Reps.length t)
theorem Reps.get : ∀ {vs : List V} {ds : List D} {i : Nat} {d : D}, Reps K F g vs ds → ds[i]? = some d → ∃ v, vs[i]? = some v ∧ Rep K F g v d
  | _, _, _, _, .nil, e => by simp at e
  | _, _, 0, _, .cons r _, e => by simp at e; subst e; exact ⟨_, rfl, r⟩
  | _, _, i + 1, d, .cons _ t, e => by
    obtain ⟨u, h1, h2⟩ := Reps.get (i := i) (d := d) t (by simpa using e)
    exact ⟨u, by simpa using h1, h2⟩
theorem Reps.getV : ∀ {vs : List V} {ds : List D} {i : Nat} {v : V}, Reps K F g vs ds → vs[i]? = some v → ∃ d, ds[i]? = some d ∧ Rep K F g v d
  | _, _, _, _, .nil, e => by simp at e
  | _, _, 0, _, .cons r _, e => by simp at e; subst e; exact ⟨_, rfl, r⟩
  | _, _, i + 1, v, .cons _ t, e => by
    obtain ⟨u, h1, h2⟩ := Reps.getV (i := i) (v := v) t (by simpa using e)
    exact ⟨u, by simpa using h1, h2⟩
theorem Reps.append : ∀ {vs ws : List V} {ds es : List D}, Reps K F g vs ds → Reps K F g ws es → Reps K F g (vs ++ ws) (ds ++ es)
  | _, _, _, _, .nil, s => s
  | _, _, _, _, .cons r t, s => .cons r (Reps.append t s)
theorem Reps.take : ∀ {vs : List V} {ds : List D} (n : Nat), Reps K F g vs ds → Reps K F g (vs.take n) (ds.take n)
  | _, _, 0, _ => .nil
  | _, _, _ + 1, .nil => .nil
  | _, _, n + 1, .cons r t => .cons r (Reps.take n t)
theorem Reps.drop : ∀ {vs : List V} {ds : List D} (n : Nat), Reps K F g vs ds → Reps K F g (vs.drop n) (ds.drop n)
  | _, _, 0, r => r
  | _, _, _ + 1, .nil => .nil
  | _, _, n + 1, .cons _ t => Reps.drop n t
theorem Reps.set : ∀ {vs : List V} {ds : List D} {v : V} {d : D} (i : Nat), Rep K F g v d → Reps K F g vs ds → Reps K F g (vs.set i v) (ds.set i d)
  | _, _, _, _, _, _, .nil => .nil
  | _, _, _, _, 0, q, .cons _ t => .cons q t
  | _, _, _, _, i + 1, q, .cons r t => .cons r (Reps.set i q t)
theorem Reps.dropLast : ∀ {vs : List V} {ds : List D}, Reps K F g vs ds → Reps K F g vs.dropLast ds.dropLast
  | _, _, .nil => .nil
  | _, _, .cons _ .nil => .nil
  | _, _, .cons r (.cons r' t) => .cons r (Reps.dropLast (.cons r' t))
end

/-! ### worlds -/
/-- pm: pure mode (the cells are not known, and not touched) -/
def exOf (pm : Bool) (g : List Addr) : List Addr := if pm then [] else g
theorem not_ex {pm : Bool} {g : List Addr} {a : Addr} (h : a ∉ g) : a ∉ exOf pm g := by
  cases pm with
  | true => exact fun z => nomatch z
  | false => exact h
def CellAt (K : PySem.W.Frag) (F : Hp) (g : List Addr) (H : Hp) (a : Addr) : Cell → Prop
  | .lst xs => ∃ vs, H a = some (.lst vs) ∧ Reps K F g vs xs
  | .ins C ns ds => ∃ dx fs, H a = some (.ins (He.ga K C) dx fs) ∧ fs.map (·.1) = ns ∧ Reps K F g (fs.map (·.2)) ds
structure Wk (K : PySem.W.Frag) (pm : Bool) (F : Hp) (g : List Addr) (cs : CS) (H : Hp) : Prop where
  sub : Le F H
  gF : ∀ a ∈ g, F a = none
  gnd : g.Nodup
  gH : ∀ a ∈ g, H a ≠ none
  mode : cs.isSome = !pm
  cl : ∀ l, cs = some l → l.length = g.length ∧ ∀ (k : Nat) c a, l[k]? = some c → g[k]? = some a → CellAt K F g H a c
/-- from one world to a later one -/
structure Nx (pm : Bool) (F : Hp) (g : List Addr) (H : Hp) (F' : Hp) (g' : List Addr) (H' : Hp) : Prop where
  lf : Le F F'
  lg : Pre g g'
  nw : ∀ a o, F' a = some o → F a = some o ∨ H a = none
  kp : ∀ a o, H a = some o → a ∉ exOf pm g → (∀ ps, o ≠ .tbl ps) → H' a = some o
  kd : ∀ a, H a ≠ none → H' a ≠ none
  gn : ∀ a ∈ g', a ∉ g → H a = none
  pg : pm = true → g' = g
theorem Nx.refl (pm : Bool) (F : Hp) (g : List Addr) (H : Hp) : Nx pm F g H F g H :=
  ⟨.refl _, .refl _, fun _ _ h => .inl h, fun _ _ h _ _ => h, fun _ h => h, fun _ h n => absurd h n, fun _ => rfl⟩
section
variable {K : PySem.W.Frag} {pm : Bool} {F F1 F2 : Hp} {g g1 g2 : List Addr} {H H1 H2 : Hp} {cs cs1 : CS}
theorem exOf_new (x : Nx pm F g H F1 g1 H1) {a : Addr} {o : HO} (h : H a = some o) (n : a ∉ exOf pm g) : a ∉ exOf pm g1 := by
  cases pm with
  | true => exact fun z => nomatch z
  | false =>
    intro z
    have z : a ∈ g1 := z
    have n : a ∉ g := n
    have := x.gn a z n
    rw [h] at this
    cases this
theorem Nx.trans (x : Nx pm F g H F1 g1 H1) (y : Nx pm F1 g1 H1 F2 g2 H2) : Nx pm F g H F2 g2 H2 := by
  have gone : ∀ a, H1 a = none → H a = none := fun a h => by
    cases q : H a with
    | none => rfl
    | some u => exact absurd h (x.kd a (by rw [q]; exact fun z => nomatch z))
  refine ⟨x.lf.trans y.lf, x.lg.trans y.lg, fun a o h => ?_, fun a o h n t => y.kp a o (x.kp a o h n t) (exOf_new x h n) t, fun a h => y.kd a (x.kd a h), fun a h n => ?_, fun e => (y.pg e).trans (x.pg e)⟩
  · rcases y.nw a o h with h1 | h1
    · exact x.nw a o h1
    · exact .inr (gone a h1)
  · by_cases m : a ∈ g1
    · exact x.gn a m n
    · exact gone a (y.gn a h m)
end

/-! ### the slots -/
/-- the exception that an except suite holds, its class, its dict -/
abbrev HX := Option (Addr × Value × Option Addr)
/-- what is wished of an exception; the exception in hand -/
structure WZ where
  W : WX
  hx : HX
def ExnAt (K : PySem.W.Frag) (F : Hp) (g : List Addr) (e : Exn) (cls : Value) (d : Option Addr) : Prop :=
  cls = .ref (He.ga K e.cls) ∧ match d with
    | none => e.ns = [] ∧ e.ds = []
    | some dx => ∃ fs, F dx = some (.xd fs) ∧ fs.map (·.1) = e.ns ∧ Reps K F g (fs.map (·.2)) e.ds
theorem ExnAt.mono {K : PySem.W.Frag} {F F' : Hp} {g g' : List Addr} {e : Exn} {cls : Value} {d : Option Addr} (h : ExnAt K F g e cls d) (l : Le F F') (p : Pre g g') : ExnAt K F' g' e cls d := by
  refine ⟨h.1, ?_⟩
  cases d with
  | none => exact h.2
  | some dx =>
    obtain ⟨fs, h1, h2, h3⟩ := h.2
    exact ⟨fs, l _ _ h1, h2, h3.mono l p⟩
structure Slots (hx : HX) (K : PySem.W.Frag) (F : Hp) (g : List Addr) (H0 : Hp) (env : DEnv) (σ : St) (H : Hp) : Prop where
  len : env.length = σ.length
  sh : ∀ (i : Nat) (d : D), env[i]? = some (some (.sh d)) → ∃ v, σ[i]? = some (some v) ∧ Rep K F g v d
  ow : ∀ (i : Nat) (xs : List D), env[i]? = some (some (.own xs)) → ∃ a vs, σ[i]? = some (some (.ref a)) ∧ H a = some (.lst vs) ∧ Reps K F g vs xs ∧ F a = none ∧ a ∉ g ∧ H0 a = none
  exc : ∀ (i : Nat) (e : Exn), env[i]? = some (some (.exc e)) → ∃ a cls d, hx = some (a, cls, d) ∧ σ[i]? = some (some (.ref a)) ∧ ExnAt K F g e cls d
  ne : ∀ (i j : Nat) (xs ys : List D) (a : Addr), env[i]? = some (some (.own xs)) → env[j]? = some (some (.own ys)) → σ[i]? = some (some (.ref a)) → σ[j]? = some (some (.ref a)) → i = j
section
variable {K : PySem.W.Frag} {pm : Bool} {F F1 F2 : Hp} {g g1 g2 : List Addr} {H0 H H1 H2 : Hp} {cs cs1 : CS} {env : DEnv} {σ : St} {hx : HX}
theorem Slots.next (s : Slots hx K F g H0 env σ H) (x : Nx pm F g H F1 g1 H1) : Slots hx K F1 g1 H0 env σ H1 := by
  refine ⟨s.len, fun i d h => ?_, fun i xs h => ?_, fun i e h => ?_, s.ne⟩
  · obtain ⟨v, e, r⟩ := s.sh i d h
    exact ⟨v, e, r.mono x.lf x.lg⟩
  · obtain ⟨a, vs, e, q, r, n1, n2, n3⟩ := s.ow i xs h
    refine ⟨a, vs, e, x.kp a _ q (not_ex n2) (fun _ z => nomatch z), r.mono x.lf x.lg, ?_, fun z => ?_, n3⟩
    · cases w : F1 a with
      | none => rfl
      | some u =>
        rcases x.nw a u w with z | z
        · rw [n1] at z; cases z
        · rw [q] at z; cases z
    · have := x.gn a z n2
      rw [q] at this
      cases this
  · obtain ⟨a, cls, d, h1, h2, h3⟩ := s.exc i e h
    exact ⟨a, cls, d, h1, h2, h3.mono x.lf x.lg⟩
/-- a slot gets a value -/
theorem Slots.set (s : Slots hx K F g H0 env σ H) {v : V} {d : D} (i : Nat) (r : Rep K F g v d) : Slots hx K F g H0 (env.set i (some (.sh d))) (σ.set i (some v)) H := by
  have other : ∀ {j : Nat} {xs : List D}, (env.set i (some (.sh d)))[j]? = some (some (.own xs)) → j ≠ i ∧ env[j]? = some (some (.own xs)) := fun {j xs} h => by
    rw [List.getElem?_set] at h
    by_cases e : i = j
    · subst e
      by_cases l : i < env.length
      · simp [l] at h
      · simp [l] at h
    · rw [if_neg e] at h
      exact ⟨fun z => e z.symm, h⟩
  refine ⟨by simp [s.len], fun j d' h => ?_, fun j xs h => ?_, fun j e h => ?_, fun j k xs ys a h1 h2 h3 h4 => ?_⟩
  · rw [List.getElem?_set] at h
    by_cases e : i = j
    · subst e
      by_cases l : i < env.length
      · simp [l] at h
        subst h
        exact ⟨v, List.getElem?_set_self (by rw [← s.len]; exact l), r⟩
      · simp [l] at h
    · rw [if_neg e] at h
      obtain ⟨w, e1, r1⟩ := s.sh j d' h
      exact ⟨w, by rw [List.getElem?_set_ne e]; exact e1, r1⟩
  · obtain ⟨n, h⟩ := other h
    obtain ⟨a, vs, e, q⟩ := s.ow j xs h
    exact ⟨a, vs, by rw [List.getElem?_set_ne n.symm]; exact e, q⟩
  · rw [List.getElem?_set] at h
    by_cases ei : i = j
    · subst ei
      by_cases l : i < env.length <;> simp [l] at h
    · rw [if_neg ei] at h
      obtain ⟨a, cls, d, h1, h2, h3⟩ := s.exc j e h
      exact ⟨a, cls, d, h1, by rw [List.getElem?_set_ne ei]; exact h2, h3⟩
  · obtain ⟨n1, h1⟩ := other h1
    obtain ⟨n2, h2⟩ := other h2
    rw [List.getElem?_set_ne n1.symm] at h3
    rw [List.getElem?_set_ne n2.symm] at h4
    exact s.ne j k xs ys a h1 h2 h3 h4
/-- a slot gets a new list of its own -/
theorem Slots.setOwn (s : Slots hx K F g H0 env σ H) {a : Addr} {vs : List V} {xs : List D} (i : Nat) (q : H a = some (.lst vs)) (r : Reps K F g vs xs) (n1 : F a = none) (n2 : a ∉ g) (n3 : H0 a = none)
    (ne : ∀ (j : Nat) (ys : List D), env[j]? = some (some (.own ys)) → σ[j]? ≠ some (some (.ref a))) : Slots hx K F g H0 (env.set i (some (.own xs))) (σ.set i (some (.ref a))) H := by
  have look : ∀ {j : Nat} {zs : List D}, (env.set i (some (.own xs)))[j]? = some (some (.own zs)) → (j = i ∧ i < env.length ∧ zs = xs) ∨ (j ≠ i ∧ env[j]? = some (some (.own zs))) := fun {j zs} h => by
    rw [List.getElem?_set] at h
    by_cases e : i = j
    · subst e
      by_cases l : i < env.length
      · simp [l] at h
        exact .inl ⟨rfl, l, h.symm⟩
      · simp [l] at h
    · rw [if_neg e] at h
      exact .inr ⟨fun z => e z.symm, h⟩
  refine ⟨by simp [s.len], fun j d' h => ?_, fun j zs h => ?_, fun j e h => ?_, fun j k zs ys b h1 h2 h3 h4 => ?_⟩
  · rw [List.getElem?_set] at h
    by_cases e : i = j
    · subst e
      by_cases l : i < env.length
      · simp [l] at h
      · simp [l] at h
    · rw [if_neg e] at h
      obtain ⟨w, e1, r1⟩ := s.sh j d' h
      exact ⟨w, by rw [List.getElem?_set_ne e]; exact e1, r1⟩
  · rcases look h with ⟨rfl, l, rfl⟩ | ⟨n, h⟩
    · exact ⟨a, vs, List.getElem?_set_self (by rw [← s.len]; exact l), q, r, n1, n2, n3⟩
    · obtain ⟨a, vs, e, q⟩ := s.ow j zs h
      exact ⟨a, vs, by rw [List.getElem?_set_ne n.symm]; exact e, q⟩
  · rw [List.getElem?_set] at h
    by_cases ei : i = j
    · subst ei
      by_cases l : i < env.length <;> simp [l] at h
    · rw [if_neg ei] at h
      obtain ⟨a, cls, d, h1, h2, h3⟩ := s.exc j e h
      exact ⟨a, cls, d, h1, by rw [List.getElem?_set_ne ei]; exact h2, h3⟩
  · rcases look h1 with ⟨rfl, l1, rfl⟩ | ⟨m1, h1'⟩ <;> rcases look h2 with ⟨rfl, l2, rfl⟩ | ⟨m2, h2'⟩
    · rfl
    · rw [List.getElem?_set_self (by rw [← s.len]; exact l1)] at h3
      rw [List.getElem?_set_ne m2.symm] at h4
      cases h3
      exact absurd h4 (ne k ys h2')
    · rw [List.getElem?_set_self (by rw [← s.len]; exact l2)] at h4
      rw [List.getElem?_set_ne m1.symm] at h3
      cases h4
      exact absurd h3 (ne j zs h1')
    · rw [List.getElem?_set_ne m1.symm] at h3
      rw [List.getElem?_set_ne m2.symm] at h4
      exact s.ne j k zs ys b h1' h2' h3 h4
end

/-! ### what is asked of a result -/
/-- a value that may be a list of the frame's own -/
def RepB (K : PySem.W.Frag) (F : Hp) (g : List Addr) (H : Hp) (v : V) (d : D) : Prop :=
  Rep K F g v d ∨ ∃ a vs ds, v = .ref a ∧ d = .lst ds ∧ H a = some (.lst vs) ∧ Reps K F g vs ds ∧ a ∉ g
abbrev Rel (α β : Type) := Hp → List Addr → Hp → β → α → Prop
def Post {α β : Type} (rel : Rel α β) (K : PySem.W.Frag) (pm : Bool) (Wx : WZ) (σ : St) (F : Hp) (g : List Addr) (H : Hp) (Q : β → Hp → Prop) : Res α → Prop
  | .ok d cs' => ∀ v H' F' g', Wk K pm F' g' cs' H' → Nx pm F g H F' g' H' → rel F' g' H' v d → Q v H'
  | .err e cs' => ∀ cls dx H' F' g', Wk K pm F' g' cs' H' → Nx pm F g H F' g' H' → ExnAt K F' g' e cls dx → Wx.W cls dx σ H'
  | .bad => False
abbrev rE (K : PySem.W.Frag) : Rel D V := fun F g _ v d => Rep K F g v d
abbrev rB (K : PySem.W.Frag) : Rel D V := fun F g H v d => RepB K F g H v d
abbrev rA (K : PySem.W.Frag) : Rel (List D) (List V) := fun F g _ v d => Reps K F g v d
abbrev rT : Rel Bool Bool := fun _ _ _ v d => v = d
section
variable {α β γ δ : Type} {rel : Rel α β} {rel2 : Rel γ δ} {K : PySem.W.Frag} {pm : Bool} {Wx : WZ} {σ : St} {F F1 : Hp} {g g1 : List Addr} {H H1 : Hp} {cs cs1 : CS}
theorem Post.next {Q : β → Hp → Prop} {r : Res α} (p : Post rel K pm Wx σ F g H Q r) (w : Wk K pm F1 g1 cs1 H1) (x : Nx pm F g H F1 g1 H1) : Post rel K pm Wx σ F1 g1 H1 Q r := by
  cases r with
  | ok d cs' => exact fun v H' F' g' w' x' r => p v H' F' g' w' (x.trans x') r
  | err e cs' => exact fun cls dx H' F' g' w' x' r => p cls dx H' F' g' w' (x.trans x') r
  | bad => exact p
theorem Post.bind {Q1 : β → Hp → Prop} {Q2 : δ → Hp → Prop} {m : M α} {k : α → M γ} (p : Post rel2 K pm Wx σ F g H Q2 ((m >>= k) cs))
    (h : ∀ a cs1 v H1 F1 g1, Wk K pm F1 g1 cs1 H1 → Nx pm F g H F1 g1 H1 → rel F1 g1 H1 v a → Post rel2 K pm Wx σ F1 g1 H1 Q2 (k a cs1) → Q1 v H1) : Post rel K pm Wx σ F g H Q1 (m cs) := by
  rw [M.bind_run] at p
  cases e : m cs with
  | ok a cs1 =>
    rw [e] at p
    exact fun v H' F' g' w x r => h a cs1 v H' F' g' w x r (Post.next p w x)
  | err x cs1 =>
    rw [e] at p
    exact p
  | bad =>
    rw [e] at p
    exact p
theorem Post.now {Q : β → Hp → Prop} {d : α} {v : β} (p : Post rel K pm Wx σ F g H Q (.ok d cs)) (w : Wk K pm F g cs H) (r : rel F g H v d) : Q v H := p v H F g w (.refl _ _ _ _) r
theorem Post.at {Q : β → Hp → Prop} {d : α} {v : β} (p : Post rel K pm Wx σ F g H Q (.ok d cs)) (w : Wk K pm F1 g1 cs H1) (x : Nx pm F g H F1 g1 H1) (r : rel F1 g1 H1 v d) : Q v H1 := p v H1 F1 g1 w x r
end
section
variable {K : PySem.W.Frag} {pm : Bool} {F F1 F2 : Hp} {g g1 g2 : List Addr} {H H1 H2 : Hp} {cs cs1 : CS} {v : V} {d : D}
theorem RepB.next (r : RepB K F g H v d) (x : Nx pm F g H F1 g1 H1) : RepB K F1 g1 H1 v d := by
  rcases r with r | ⟨a, vs, ds, e1, e2, q, r, n⟩
  · exact .inl (r.mono x.lf x.lg)
  · refine .inr ⟨a, vs, ds, e1, e2, x.kp a _ q (not_ex n) (fun _ z => nomatch z), r.mono x.lf x.lg, fun z => ?_⟩
    have := x.gn a z n
    rw [q] at this
    cases this
/-! ### new objects -/
theorem upd_le {F : Hp} {p : Addr} {o : HO} (h : F p = none) : Le F (upd F p o) := fun a u e => by
  rw [upd_ne (ne_of_none e h)]
  exact e
theorem Wk.fnone (w : Wk K pm F g cs H) {p : Addr} (h : H p = none) : F p = none := by
  cases q : F p with
  | none => rfl
  | some o => rw [w.sub p o q] at h; cases h
theorem Wk.fresh (w : Wk K pm F g cs H) {p : Addr} (h : H p = none) : p ∉ g := fun z => w.gH p z h
theorem CellAt.grow {a : Addr} {c : Cell} (h : CellAt K F g H a c) (l : Le F F1) (pg : Pre g g1) (k : ∀ o, H a = some o → H1 a = some o) : CellAt K F1 g1 H1 a c := by
  cases c with
  | lst xs =>
    obtain ⟨vs, e, r⟩ := h
    exact ⟨vs, k _ e, r.mono l pg⟩
  | ins C ns ds =>
    obtain ⟨dx, fs, e, e2, r⟩ := h
    exact ⟨dx, fs, k _ e, e2, r.mono l pg⟩
/-- the heap grows, the frozen part by what is new -/
theorem Wk.grow (w : Wk K pm F g cs H) (l : Le F F1) (s : Le F1 H1) (nw : ∀ a o, F1 a = some o → F a = some o ∨ H a = none) (k : Le H H1) : Wk K pm F1 g cs H1 ∧ Nx pm F g H F1 g H1 := by
  refine ⟨⟨s, fun a ha => ?_, w.gnd, fun a ha z => ?_, w.mode, fun l' e => ?_⟩, ⟨l, .refl _, nw, fun a o h _ _ => k a o h, fun a h z => ?_, fun a h n => absurd h n, fun _ => rfl⟩⟩
  · cases q : F1 a with
    | none => rfl
    | some o =>
      rcases nw a o q with z | z
      · rw [w.gF a ha] at z; cases z
      · exact absurd z (w.gH a ha)
  · cases q : H a with
    | none => exact w.gH a ha q
    | some o => rw [k a o q] at z; cases z
  · obtain ⟨h1, h2⟩ := w.cl l' e
    exact ⟨h1, fun i c a e1 e2 => (h2 i c a e1 e2).grow l (.refl _) (k a)⟩
  · cases q : H a with
    | none => exact h q
    | some o => rw [k a o q] at z; cases z
theorem Wk.alloc (w : Wk K pm F g cs H) {p : Addr} {o : HO} (h : H p = none) : Wk K pm (upd F p o) g cs (upd H p o) ∧ Nx pm F g H (upd F p o) g (upd H p o) := by
  have hf := w.fnone h
  refine w.grow (upd_le hf) (fun a u e => ?_) (fun a u e => ?_) (upd_le h)
  · by_cases q : a = p
    · subst q
      rw [upd_same] at e ⊢
      exact e
    · rw [upd_ne q] at e ⊢
      exact w.sub a u e
  · by_cases q : a = p
    · subst q
      exact .inr h
    · rw [upd_ne q] at e
      exact .inl e
theorem Wk.alloc0 (w : Wk K pm F g cs H) {p : Addr} {o : HO} (h : H p = none) : Wk K pm F g cs (upd H p o) ∧ Nx pm F g H F g (upd H p o) :=
  w.grow (.refl _) (w.sub.trans (upd_le h)) (fun _ _ e => .inl e) (upd_le h)
end
end Dn

end
set_option maxHeartbeats 4000000
section
namespace Dn
open PySem PySem.Spec L2
open PyProof.Rows hiding St

/-! ### judgements -/
section
variable (X : Cx) (pm : Bool) (Wx : WZ)
/-- an expression, its value frozen -/
structure DE (e : Expr) (f : DEnv → M D) : Prop where
  ex : ∃ t, PE X e t ∧ ∀ F g H0 env cs σ H Q, Wk X.K pm F g cs H → Slots Wx.hx X.K F g H0 env σ H → Post (rE X.K) X.K pm Wx σ F g H Q (f env cs) → t σ H Q
/-- .. its value perhaps a list of the frame's own -/
structure DB (e : Expr) (f : DEnv → M D) : Prop where
  ex : ∃ t, PE X e t ∧ ∀ F g H0 env cs σ H Q, Wk X.K pm F g cs H → Slots Wx.hx X.K F g H0 env σ H → Post (rB X.K) X.K pm Wx σ F g H Q (f env cs) → t σ H Q
structure DA (es : List Expr) (f : DEnv → M (List D)) : Prop where
  ex : ∃ t, PA X es t ∧ ∀ F g H0 env cs σ H Q, Wk X.K pm F g cs H → Slots Wx.hx X.K F g H0 env σ H → Post (rA X.K) X.K pm Wx σ F g H Q (f env cs) → t σ H Q
structure DT (e : Expr) (f : DEnv → M Bool) : Prop where
  ex : ∃ t, PT X e t ∧ ∀ F g H0 env cs σ H Q, Wk X.K pm F g cs H → Slots Wx.hx X.K F g H0 env σ H → Post rT X.K pm Wx σ F g H Q (f env cs) → t σ H Q
/-- and, or: whatever the whole is -/
structure DW (e : Expr) (f : DEnv → M Bool) : Prop where
  ex : ∃ t, PW X e t ∧ ∀ F g H0 env cs σ H Q, Wk X.K pm F g cs H → Slots Wx.hx X.K F g H0 env σ H → Post rT X.K pm Wx σ F g H Q (f env cs) → t σ H Q
end
section
variable {X : Cx} {pm : Bool} {Wx : WZ} {e a b c : Expr} {es : List Expr} {f fa fb fc : DEnv → M D} {pos : Pos}
theorem Post.toB {K : PySem.W.Frag} {σ : St} {F : Hp} {g : List Addr} {H : Hp} {Q : V → Hp → Prop} {r : Res D} (p : Post (rB K) K pm Wx σ F g H Q r) : Post (rE K) K pm Wx σ F g H Q r := by
  cases r with
  | ok d cs' => exact fun v H' F' g' w x r => p v H' F' g' w x (.inl r)
  | err e cs' => exact p
  | bad => exact p
theorem DE.toB (h : DE X pm Wx e f) : DB X pm Wx e f := by
  obtain ⟨t, p, q⟩ := h.ex
  exact ⟨t, p, fun F g H0 env cs σ H Q w s z => q F g H0 env cs σ H Q w s z.toB⟩
/-! ### constants, names -/
theorem de_int {i j pos} : DE X pm Wx (.Constant (.int i) j pos) (fun _ => pure (.int i)) := ⟨_, pe_int, fun F g H0 env cs σ H Q w s p => p.now w (.int i)⟩
theorem de_bl {b j pos} : DE X pm Wx (.Constant (.bool b) j pos) (fun _ => pure (.bl b)) := ⟨_, pe_bl, fun F g H0 env cs σ H Q w s p => p.now w (.bl b)⟩
theorem de_non {j pos} : DE X pm Wx (.Constant .none j pos) (fun _ => pure .non) := ⟨_, pe_non, fun F g H0 env cs σ H Q w s p => p.now w .non⟩
theorem de_str {x j pos} : DE X pm Wx (.Constant (.str x) j pos) (fun _ => pure (.str x)) := ⟨_, pe_str, fun F g H0 env cs σ H Q w s p => p.now w (.str x)⟩
/-- the slot i -/
def slotD (i : Nat) (env : DEnv) : M D := match env[i]? with
  | some (some (.sh d)) => pure d
  | _ => bad
/-- .. or a list of one's own -/
def slotB (i : Nat) (env : DEnv) : M D := match env[i]? with
  | some (some (.sh d)) => pure d
  | some (some (.own xs)) => pure (.lst xs)
  | _ => bad
theorem de_var (i : Nat) {x : Str} (hN : X.N[i]? = some x := by rfl) (hv : Vis X.env.scope x := by first | exact Or.inl rfl | exact Or.inr (Or.inl rfl) | exact Or.inr (Or.inr rfl)) (hd : (x == ("__debug__" : Str)) = false := by decide)
    (hcd : (x == ("__classdict__" : Str)) = false := by decide) : DE X pm Wx (.Name x pos) (slotD i) := by
  refine ⟨_, pe_var (i := i) hN hv hd hcd, fun F g H0 env cs σ H Q w s p => ?_⟩
  unfold slotD at p
  cases h : env[i]? with
  | none => rw [h] at p; exact p.elim
  | some o =>
    rw [h] at p
    cases o with
    | none => exact p.elim
    | some z =>
      cases z with
      | sh d =>
        obtain ⟨v, e, r⟩ := s.sh i d h
        exact ⟨v, e, p.now w r⟩
      | own xs => exact p.elim
      | exc e => exact p.elim
theorem db_var (i : Nat) {x : Str} (hN : X.N[i]? = some x := by rfl) (hv : Vis X.env.scope x := by first | exact Or.inl rfl | exact Or.inr (Or.inl rfl) | exact Or.inr (Or.inr rfl)) (hd : (x == ("__debug__" : Str)) = false := by decide)
    (hcd : (x == ("__classdict__" : Str)) = false := by decide) : DB X pm Wx (.Name x pos) (slotB i) := by
  refine ⟨_, pe_var (i := i) hN hv hd hcd, fun F g H0 env cs σ H Q w s p => ?_⟩
  unfold slotB at p
  cases h : env[i]? with
  | none => rw [h] at p; exact p.elim
  | some o =>
    rw [h] at p
    cases o with
    | none => exact p.elim
    | some z =>
      cases z with
      | sh d =>
        obtain ⟨v, e, r⟩ := s.sh i d h
        exact ⟨v, e, p.now w (.inl r)⟩
      | own xs =>
        obtain ⟨a, vs, e, q, r, _, n, _⟩ := s.ow i xs h
        exact ⟨.ref a, e, p.now w (.inr ⟨a, vs, xs, rfl, rfl, q, r, n⟩)⟩
      | exc e => exact p.elim
/-- a value of the module by a global name -/
theorem de_glob {x : Str} {v : V} {d : D} {u : Value} (hg : Gl X x) (hm : X.mg x = some u) (r : RelV v u) (rd : ∀ F g, Rep X.K F g v d) (hd : (x == ("__debug__" : Str)) = false := by decide) : DE X pm Wx (.Name x pos) (fun _ => pure d) :=
  ⟨_, pe_glob hg hm r hd, fun F g H0 env cs σ H Q w s p => p.now w (rd F g)⟩
theorem de_bltn {x : Str} {v : V} {u : Value} (hg : Gl X x) (hm : X.mg x = none) (hv : bootBuiltins x = some u) (r : RelV v u) (hn : x ≠ "__name__" := by decide) (hd : (x == ("__debug__" : Str)) = false := by decide) : DE X pm Wx (.Name x pos) (fun _ => pure (.raw v)) :=
  ⟨_, pe_bltn hg hm hv r hn hd, fun F g H0 env cs σ H Q w s p => p.now w (.raw v)⟩

/-! ### argument lists, displays -/
theorem da_nil : DA X pm Wx [] (fun _ => pure []) := ⟨_, pa_nil, fun F g H0 env cs σ H Q w s p => p.now w .nil⟩
theorem da_cons {fr : DEnv → M (List D)} (ha : DE X pm Wx e fa) (hr : DA X pm Wx es fr) (hs : starEach (e :: es) X.env = (false, eval e X.env) :: starEach es X.env := by rfl) :
    DA X pm Wx (e :: es) (fun env => fa env >>= fun d => fr env >>= fun ds => pure (d :: ds)) := by
  obtain ⟨t, p, q⟩ := ha.ex
  obtain ⟨u, p2, q2⟩ := hr.ex
  refine ⟨_, pa_cons p p2 hs, fun F g H0 env cs σ H Q w s z => ?_⟩
  refine q F g H0 env cs σ H _ w s (z.bind fun d cs1 v H1 F1 g1 w1 x1 r z1 => ?_)
  refine q2 F1 g1 H0 env cs1 σ H1 _ w1 (s.next x1) (z1.bind fun ds cs2 vs H2 F2 g2 w2 x2 rs z2 => ?_)
  exact z2.now w2 (.cons (r.mono x2.lf x2.lg) rs)
/-- a list of data that is short enough -/
def few (xs : List D) : Bool := decide (xs.length ≤ sizeLine)
def mkTup (xs : List D) : M D := if few xs then pure (.tup xs) else bad
def mkLst (xs : List D) : M D := if few xs then pure (.lst xs) else bad
section
variable {K : PySem.W.Frag} {σ : St} {F : Hp} {g : List Addr} {H : Hp} {cs : CS} {Q : V → Hp → Prop} {vs : List V} {xs : List D}
theorem Post.tup (p : Post (rE K) K pm Wx σ F g H Q (mkTup xs cs)) (w : Wk K pm F g cs H) (r : Reps K F g vs xs) : vs.length ≤ sizeLine ∧ ∀ a, H a = none → Q (.ref a) (upd H a (.tup vs)) := by
  unfold mkTup at p
  split at p
  · rename_i h
    refine ⟨by rw [r.length]; exact of_decide_eq_true h, fun a ha => ?_⟩
    obtain ⟨w1, x1⟩ := w.alloc (o := .tup vs) ha
    exact p.at w1 x1 (.tup (.inl (.inl upd_same)) (r.mono x1.lf x1.lg))
  · exact p.elim
theorem Post.lst (p : Post (rE K) K pm Wx σ F g H Q (mkLst xs cs)) (w : Wk K pm F g cs H) (r : Reps K F g vs xs) : vs.length ≤ sizeLine ∧ ∀ a, H a = none → Q (.ref a) (upd H a (.lst vs)) := by
  unfold mkLst at p
  split at p
  · rename_i h
    refine ⟨by rw [r.length]; exact of_decide_eq_true h, fun a ha => ?_⟩
    obtain ⟨w1, x1⟩ := w.alloc (o := .lst vs) ha
    exact p.at w1 x1 (.lst upd_same (r.mono x1.lf x1.lg))
  · exact p.elim
end
theorem de_tup {fr : DEnv → M (List D)} {x1} (h : DA X pm Wx es fr) : DE X pm Wx (.Tuple es x1 pos) (fun env => fr env >>= mkTup) := by
  obtain ⟨t, p, q⟩ := h.ex
  refine ⟨_, pe_tup p, fun F g H0 env cs σ H Q w s z => ?_⟩
  exact q F g H0 env cs σ H _ w s (z.bind fun ds cs1 vs H1 F1 g1 w1 x1 r z1 => z1.tup w1 r)
theorem de_lst {fr : DEnv → M (List D)} (h : DA X pm Wx es fr) : DE X pm Wx (.List es pos) (fun env => fr env >>= mkLst) := by
  obtain ⟨t, p, q⟩ := h.ex
  refine ⟨_, pe_lst p, fun F g H0 env cs σ H Q w s z => ?_⟩
  exact q F g H0 env cs σ H _ w s (z.bind fun ds cs1 vs H1 F1 g1 w1 x1 r z1 => z1.lst w1 r)

/-! ### operators, by what they do -/
structure OpD (X : Cx) (pm : Bool) (Wx : WZ) (fn : Value → Value → Sem Value) (fD : D → D → M D) : Prop where
  ex : ∃ r, OpR X fn r ∧ ∀ F g cs σ H x y dx dy Q, Wk X.K pm F g cs H → RepB X.K F g H x dx → RepB X.K F g H y dy → Post (rE X.K) X.K pm Wx σ F g H Q (fD dx dy cs) → r x y H Q
def op2 (fD : D → D → M D) (fa fb : DEnv → M D) : DEnv → M D := fun env => fa env >>= fun x => fb env >>= fun y => fD x y
theorem bin2 {fD : D → D → M D} {t u : TE} {r : R2} (q : ∀ F g H0 env cs σ H Q, Wk X.K pm F g cs H → Slots Wx.hx X.K F g H0 env σ H → Post (rB X.K) X.K pm Wx σ F g H Q (fa env cs) → t σ H Q)
    (q2 : ∀ F g H0 env cs σ H Q, Wk X.K pm F g cs H → Slots Wx.hx X.K F g H0 env σ H → Post (rB X.K) X.K pm Wx σ F g H Q (fb env cs) → u σ H Q)
    (o : ∀ F g cs σ H x y dx dy Q, Wk X.K pm F g cs H → RepB X.K F g H x dx → RepB X.K F g H y dy → Post (rE X.K) X.K pm Wx σ F g H Q (fD dx dy cs) → r x y H Q) :
    ∀ F g H0 env cs σ H Q, Wk X.K pm F g cs H → Slots Wx.hx X.K F g H0 env σ H → Post (rE X.K) X.K pm Wx σ F g H Q (op2 fD fa fb env cs) → tOp r t u σ H Q := by
  intro F g H0 env cs σ H Q w s z
  refine q F g H0 env cs σ H _ w s (Post.bind (rel2 := rE X.K) z fun d cs1 v H1 F1 g1 w1 x1 r1 z1 => ?_)
  refine q2 F1 g1 H0 env cs1 σ H1 _ w1 (s.next x1) (z1.bind fun d2 cs2 v2 H2 F2 g2 w2 x2 r2 z2 => ?_)
  exact o F2 g2 cs2 σ H2 v v2 d d2 Q w2 (r1.next x2) r2 z2
theorem de_op {op : Operator} {fD : D → D → M D} (ho : OpD X pm Wx (binaryOp op) fD) (ha : DB X pm Wx a fa) (hb : DB X pm Wx b fb) : DE X pm Wx (.BinOp a op b pos) (op2 fD fa fb) := by
  obtain ⟨r, h1, h2⟩ := ho.ex
  obtain ⟨t, p, q⟩ := ha.ex
  obtain ⟨u, p2, q2⟩ := hb.ex
  exact ⟨_, pe_op h1 p p2, bin2 q q2 h2⟩
theorem de_cmp {op : CmpOp} {fD : D → D → M D} (ho : OpD X pm Wx (compareOp op) fD) (ha : DB X pm Wx a fa) (hb : DB X pm Wx b fb) (hm : behindInMarks op b = false) : DE X pm Wx (.Compare a [op] [b] pos) (op2 fD fa fb) := by
  obtain ⟨r, h1, h2⟩ := ho.ex
  obtain ⟨t, p, q⟩ := ha.ex
  obtain ⟨u, p2, q2⟩ := hb.ex
  exact ⟨_, pe_cmpR h1 p p2 hm, bin2 q q2 h2⟩
/-- the bool that a value is -/
def isB : D → M Bool
  | .bl b => pure b
  | _ => bad
theorem Post.isB {K : PySem.W.Frag} {σ : St} {F : Hp} {g : List Addr} {H : Hp} {cs : CS} {Q : Bool → Hp → Prop} {d : D} {v : V} (p : Post rT K pm Wx σ F g H Q (isB d cs)) (w : Wk K pm F g cs H) (r : RepB K F g H v d) : ∃ k, v = .bl k ∧ Q k H := by
  cases d with
  | bl b =>
    rcases r with r | ⟨_, _, _, _, e, _⟩
    · cases r
      exact ⟨b, rfl, p.now w rfl⟩
    · cases e
  | _ => exact p.elim
theorem dt_cmp {op : CmpOp} {fD : D → D → M D} (ho : OpD X pm Wx (compareOp op) fD) (ha : DB X pm Wx a fa) (hb : DB X pm Wx b fb) (hm : behindInMarks op b = false) : DT X pm Wx (.Compare a [op] [b] pos) (fun env => op2 fD fa fb env >>= isB) := by
  obtain ⟨r, h1, h2⟩ := ho.ex
  obtain ⟨t, p, q⟩ := ha.ex
  obtain ⟨u, p2, q2⟩ := hb.ex
  refine ⟨_, pt_cmpR h1 p p2 hm, fun F g H0 env cs σ H Q w s z => ?_⟩
  exact bin2 q q2 h2 F g H0 env cs σ H _ w s (z.bind fun d cs1 v H1 F1 g1 w1 x1 r1 z1 => z1.isB w1 (.inl r1))
theorem dt_val (h : DB X pm Wx e f) (he : ∀ whole, isTrue e X.env whole = (do let v ← whole; standAt e.pos; holding [v] (truthy v)) := by intro _; rfl) : DT X pm Wx e (fun env => f env >>= isB) := by
  obtain ⟨t, p, q⟩ := h.ex
  refine ⟨_, pt_val p he, fun F g H0 env cs σ H Q w s z => ?_⟩
  exact q F g H0 env cs σ H _ w s (z.bind fun d cs1 v H1 F1 g1 w1 x1 r1 z1 => z1.isB w1 r1)
/-- a < b < c -/
def chain3 (fD fD2 : D → D → M D) (fa fb fc : DEnv → M D) : DEnv → M D := fun env => fa env >>= fun x => fb env >>= fun y => fD x y >>= isB >>= fun k => if k then fc env >>= fun z => fD2 y z else pure (.bl false)
theorem chain_ok {fD fD2 : D → D → M D} {t u v : TE} {r r' : R2} (q : ∀ F g H0 env cs σ H Q, Wk X.K pm F g cs H → Slots Wx.hx X.K F g H0 env σ H → Post (rB X.K) X.K pm Wx σ F g H Q (fa env cs) → t σ H Q)
    (q2 : ∀ F g H0 env cs σ H Q, Wk X.K pm F g cs H → Slots Wx.hx X.K F g H0 env σ H → Post (rB X.K) X.K pm Wx σ F g H Q (fb env cs) → u σ H Q)
    (q3 : ∀ F g H0 env cs σ H Q, Wk X.K pm F g cs H → Slots Wx.hx X.K F g H0 env σ H → Post (rB X.K) X.K pm Wx σ F g H Q (fc env cs) → v σ H Q)
    (o : ∀ F g cs σ H x y dx dy Q, Wk X.K pm F g cs H → RepB X.K F g H x dx → RepB X.K F g H y dy → Post (rE X.K) X.K pm Wx σ F g H Q (fD dx dy cs) → r x y H Q)
    (o2 : ∀ F g cs σ H x y dx dy Q, Wk X.K pm F g cs H → RepB X.K F g H x dx → RepB X.K F g H y dy → Post (rE X.K) X.K pm Wx σ F g H Q (fD2 dx dy cs) → r' x y H Q) :
    ∀ F g H0 env cs σ H Q, Wk X.K pm F g cs H → Slots Wx.hx X.K F g H0 env σ H → Post (rE X.K) X.K pm Wx σ F g H Q (chain3 fD fD2 fa fb fc env cs) → tChain r r' t u v σ H Q := by
  intro F g H0 env cs σ H Q w s z
  refine q F g H0 env cs σ H _ w s (Post.bind (rel2 := rE X.K) z fun d cs1 x1 H1 F1 g1 w1 n1 r1 z1 => ?_)
  refine q2 F1 g1 H0 env cs1 σ H1 _ w1 (s.next n1) (z1.bind fun d2 cs2 x2 H2 F2 g2 w2 n2 r2 z2 => ?_)
  have z2 : Post (rE X.K) X.K pm Wx σ F2 g2 H2 Q ((fD d d2 >>= fun b => isB b >>= fun k => if k then fc env >>= fun z => fD2 d2 z else pure (.bl false)) cs2) := by
    have e : ((fD d d2 >>= isB) >>= fun k => if k then fc env >>= fun z => fD2 d2 z else pure (.bl false)) cs2 = (fD d d2 >>= fun b => isB b >>= fun k => if k then fc env >>= fun z => fD2 d2 z else pure (.bl false)) cs2 := by
      simp only [M.bind_run]
      cases fD d d2 cs2 <;> rfl
    rw [← e]
    exact z2
  refine o F2 g2 cs2 σ H2 x1 x2 d d2 _ w2 (r1.next n2) r2 (z2.bind fun d3 cs3 x3 H3 F3 g3 w3 n3 r3 z3 => ?_)
  have z3' : Post rT X.K pm Wx σ F3 g3 H3 (fun k H3 => ∃ cs3 F3 g3, Wk X.K pm F3 g3 cs3 H3 ∧ Nx pm F2 g2 H2 F3 g3 H3 ∧ Post (rE X.K) X.K pm Wx σ F3 g3 H3 Q ((if k then fc env >>= fun z => fD2 d2 z else pure (.bl false)) cs3)) (isB d3 cs3) :=
    z3.bind fun k cs4 k' H4 F4 g4 w4 n4 e z4 => by
      cases e
      exact ⟨cs4, F4, g4, w4, n3.trans n4, z4⟩
  obtain ⟨k, e, cs4, F4, g4, w4, n4, z4⟩ := z3'.isB w3 (.inl r3)
  refine ⟨k, e, ?_⟩
  cases k with
  | false => exact z4.now w4 (.bl false)
  | true =>
    refine q3 F4 g4 H0 env cs4 σ H3 _ w4 ((s.next n1).next (n2.trans n4)) (z4.bind fun d5 cs5 x5 H5 F5 g5 w5 n5 r5 z5 => ?_)
    exact o2 F5 g5 cs5 σ H5 x2 x5 d2 d5 Q w5 (r2.next (n4.trans n5)) r5 z5
theorem de_chain {op op' : CmpOp} {fD fD2 : D → D → M D} (ho : OpD X pm Wx (compareOp op) fD) (ho' : OpD X pm Wx (compareOp op') fD2) (ha : DB X pm Wx a fa) (hb : DB X pm Wx b fb) (hc : DB X pm Wx c fc)
    (hm : lastMarks [op, op'] [b, c] = false := by with_unfolding_all rfl) : DE X pm Wx (.Compare a [op, op'] [b, c] pos) (chain3 fD fD2 fa fb fc) := by
  obtain ⟨r, k1, k2⟩ := ho.ex
  obtain ⟨r', k3, k4⟩ := ho'.ex
  obtain ⟨t, p, q⟩ := ha.ex
  obtain ⟨u, p2, q2⟩ := hb.ex
  obtain ⟨v, p3, q3⟩ := hc.ex
  exact ⟨_, pe_chain k1 k3 p p2 p3 hm, chain_ok q q2 q3 k2 k4⟩
theorem dt_chain {op op' : CmpOp} {fD fD2 : D → D → M D} (ho : OpD X pm Wx (compareOp op) fD) (ho' : OpD X pm Wx (compareOp op') fD2) (ha : DB X pm Wx a fa) (hb : DB X pm Wx b fb) (hc : DB X pm Wx c fc)
    (hm : lastMarks [op, op'] [b, c] = false := by with_unfolding_all rfl) : DT X pm Wx (.Compare a [op, op'] [b, c] pos) (fun env => chain3 fD fD2 fa fb fc env >>= isB) := by
  obtain ⟨r, k1, k2⟩ := ho.ex
  obtain ⟨r', k3, k4⟩ := ho'.ex
  obtain ⟨t, p, q⟩ := ha.ex
  obtain ⟨u, p2, q2⟩ := hb.ex
  obtain ⟨v, p3, q3⟩ := hc.ex
  refine ⟨_, pt_chain k1 k3 p p2 p3 hm, fun F g H0 env cs σ H Q w s z => ?_⟩
  exact chain_ok q q2 q3 k2 k4 F g H0 env cs σ H _ w s (z.bind fun d cs1 v H1 F1 g1 w1 x1 r1 z1 => z1.isB w1 (.inl r1))
end
end Dn

end
set_option maxHeartbeats 4000000
section
namespace Dn
open PySem PySem.Spec L2
open PyProof.Rows hiding St

/-! ### views of values -/
section
variable {K : PySem.W.Frag} {pm : Bool} {F : Hp} {g : List Addr} {H : Hp} {cs : CS} {v : V}
theorem RepB.int {i : Int} (r : RepB K F g H v (.int i)) : v = .int i := by
  rcases r with r | ⟨_, _, _, _, e, _⟩
  · cases r; rfl
  · cases e
theorem RepB.str {x : Str} (r : RepB K F g H v (.str x)) : v = .str x := by
  rcases r with r | ⟨_, _, _, _, e, _⟩
  · cases r; rfl
  · cases e
theorem RepB.bl {x : Bool} (r : RepB K F g H v (.bl x)) : v = .bl x := by
  rcases r with r | ⟨_, _, _, _, e, _⟩
  · cases r; rfl
  · cases e
theorem RepB.non (r : RepB K F g H v .non) : v = .non := by
  rcases r with r | ⟨_, _, _, _, e, _⟩
  · cases r; rfl
  · cases e
theorem RepB.raw {u : V} (r : RepB K F g H v (.raw u)) : v = u := by
  rcases r with r | ⟨_, _, _, _, e, _⟩
  · cases r; rfl
  · cases e
theorem RepB.tup {xs : List D} (r : RepB K F g H v (.tup xs)) (w : Wk K pm F g cs H) : ∃ a vs, v = .ref a ∧ SqT K H a vs ∧ Reps K F g vs xs := by
  rcases r with r | ⟨_, _, _, _, e, _⟩
  · cases r with
    | tup h r => exact ⟨_, _, rfl, w.sub.seqT h, r⟩
  · cases e
theorem RepB.rol {xs : List D} (r : RepB K F g H v (.rol xs)) (w : Wk K pm F g cs H) : ∃ a vs, v = .ref a ∧ SqL K H a vs ∧ Reps K F g vs xs := by
  rcases r with r | ⟨_, _, _, _, e, _⟩
  · cases r with
    | rol h r => exact ⟨_, _, rfl, w.sub.seqL h, r⟩
  · cases e
theorem RepB.lst {xs : List D} (r : RepB K F g H v (.lst xs)) (w : Wk K pm F g cs H) : ∃ a vs, v = .ref a ∧ H a = some (.lst vs) ∧ Reps K F g vs xs := by
  rcases r with r | ⟨a, vs, ds, e1, e, q, r, _⟩
  · cases r with
    | lst h r => exact ⟨_, _, rfl, w.sub _ _ h, r⟩
  · cases e
    exact ⟨a, vs, e1, q, r⟩
theorem RepB.cell {k : Nat} (r : RepB K F g H v (.cell k)) : ∃ a, v = .ref a ∧ g[k]? = some a := by
  rcases r with r | ⟨_, _, _, _, e, _⟩
  · cases r with
    | cell h => exact ⟨_, rfl, h⟩
  · cases e
theorem RepB.dct {ks : List Key} {ds : List D} (r : RepB K F g H v (.dct ks ds)) (w : Wk K pm F g cs H) : ∃ a kvs, v = .ref a ∧ H a = some (.dK kvs) ∧ ks = kvs.map (·.1) ∧ Reps K F g (kvs.map (·.2)) ds := by
  rcases r with r | ⟨_, _, _, _, e, _⟩
  · cases r with
    | dct h q r => exact ⟨_, _, rfl, w.sub _ _ h, q, r⟩
  · cases e
def cellAt (cs : CS) (k : Nat) : Option Cell := cs.bind fun l => l[k]?
/-- the items of a cell -/
def cellL (k : Nat) : M (List D) := fun cs => match cellAt cs k with
  | some (.lst xs) => .ok xs cs
  | _ => .bad
theorem cellAt_ok (w : Wk K pm F g cs H) {k : Nat} {c : Cell} {a : Addr} (h : cellAt cs k = some c) (hg : g[k]? = some a) : CellAt K F g H a c := by
  unfold cellAt at h
  cases hc : cs with
  | none => rw [hc] at h; cases h
  | some l =>
    rw [hc] at h
    exact (w.cl l hc).2 k c a h hg
/-- a list's items -/
def viewL : D → M (List D)
  | .lst xs => pure xs
  | .cell k => cellL k
  | _ => bad
/-- a list's, a tuple's items -/
def viewS : D → M (List D)
  | .tup xs => pure xs
  | .rol xs => pure xs
  | x => viewL x
section
variable {γ δ : Type} {rel : Rel γ δ} {Wx : WZ} {σ : St} {Q : δ → Hp → Prop} {d : D} {k : List D → M γ}
theorem Post.viewL (p : Post rel K pm Wx σ F g H Q ((viewL d >>= k) cs)) (w : Wk K pm F g cs H) (r : RepB K F g H v d) : ∃ a vs xs, v = .ref a ∧ H a = some (.lst vs) ∧ Reps K F g vs xs ∧ Post rel K pm Wx σ F g H Q (k xs cs) := by
  cases d with
  | lst xs =>
    obtain ⟨a, vs, e, h, r⟩ := r.lst w
    exact ⟨a, vs, xs, e, h, r, p⟩
  | cell j =>
    obtain ⟨a, e, hg⟩ := r.cell
    have p' : Post rel K pm Wx σ F g H Q ((cellL j >>= k) cs) := p
    rw [M.bind_run] at p'
    unfold cellL at p'
    cases hc : cellAt cs j with
    | none => rw [hc] at p'; exact p'.elim
    | some c =>
      rw [hc] at p'
      cases c with
      | ins => exact p'.elim
      | lst xs =>
        obtain ⟨vs, e2, r2⟩ := cellAt_ok w hc hg
        exact ⟨a, vs, xs, e, e2, r2, p'⟩
  | _ => exact p.elim
theorem Post.viewS (p : Post rel K pm Wx σ F g H Q ((viewS d >>= k) cs)) (w : Wk K pm F g cs H) (r : RepB K F g H v d) : ∃ a vs xs, v = .ref a ∧ (SqL K H a vs ∨ SqT K H a vs) ∧ Reps K F g vs xs ∧ Post rel K pm Wx σ F g H Q (k xs cs) := by
  have gen : Post rel K pm Wx σ F g H Q ((Dn.viewL d >>= k) cs) → ∃ a vs xs, v = .ref a ∧ (SqL K H a vs ∨ SqT K H a vs) ∧ Reps K F g vs xs ∧ Post rel K pm Wx σ F g H Q (k xs cs) := fun p => by
    obtain ⟨a, vs, xs, e, h, r, p⟩ := p.viewL w r
    exact ⟨a, vs, xs, e, .inl (SqL.of h), r, p⟩
  cases d with
  | tup xs =>
    obtain ⟨a, vs, e, h, r⟩ := r.tup w
    exact ⟨a, vs, xs, e, .inr h, r, p⟩
  | rol xs =>
    obtain ⟨a, vs, e, h, r⟩ := r.rol w
    exact ⟨a, vs, xs, e, .inl h, r, p⟩
  | lst xs => exact gen p
  | cell j => exact gen p
  | _ => exact p.elim
end
end

/-! ### operators -/
section
variable {X : Cx} {pm : Bool} {Wx : WZ}
theorem opD_mk {fn : Value → Value → Sem Value} {fD : D → D → M D} {r : R2} (h : OpR X fn r)
    (k : ∀ F g cs σ H x y dx dy Q, Wk X.K pm F g cs H → RepB X.K F g H x dx → RepB X.K F g H y dy → Post (rE X.K) X.K pm Wx σ F g H Q (fD dx dy cs) → r x y H Q) : OpD X pm Wx fn fD := ⟨r, h, k⟩
def intsD (C : Int → Int → Bool) (f : Int → Int → D) : D → D → M D
  | .int i, .int j => if C i j then pure (f i j) else bad
  | _, _ => bad
theorem opD_int {fn : Value → Value → Sem Value} {C : Int → Int → Bool} {P : Int → Int → Prop} {f : Int → Int → D} {fV : Int → Int → V} (h : OpR X fn (rI P fV)) (hC : ∀ i j, C i j = true → P i j) (hf : ∀ F g i j, Rep X.K F g (fV i j) (f i j)) : OpD X pm Wx fn (intsD C f) := by
  refine opD_mk h fun F g cs σ H x y dx dy Q w rx ry p => ?_
  cases dx with
  | int i =>
    cases dy with
    | int j =>
      have p : Post (rE X.K) X.K pm Wx σ F g H Q ((if C i j = true then pure (f i j) else bad : M D) cs) := p
      by_cases hc : C i j = true
      · rw [if_pos hc] at p
        exact ⟨i, j, rx.int, ry.int, hC i j hc, p.now w (hf _ _ i j)⟩
      · rw [if_neg hc] at p
        exact p.elim
    | _ => exact p.elim
  | _ => exact p.elim
theorem OpR.of0 {f : Value → Value → Sem Value} {gV : Int → Int → V} (h : OpR X f (rI0 gV)) : OpR X f (rI (fun _ _ => True) gV) := by
  intro pins s σ H x y v u Q I rx ry ⟨i, j, e1, e2, _, q⟩
  exact h pins s σ H x y v u Q I rx ry ⟨i, j, e1, e2, q⟩
abbrev always : Int → Int → Bool := fun _ _ => true
theorem od_sub : OpD X pm Wx (binaryOp .Sub) (intsD always fun i j => .int (i - j)) := opD_int (OpR.of0 op_sub) (fun _ _ _ => trivial) fun _ _ _ _ => .int _
def mulOk (i j : Int) : Bool := decide (i.natAbs < 2 ^ 64) || decide (j.natAbs < 2 ^ 64) || decide (i.natAbs.log2 + j.natAbs.log2 < 1000000)
theorem mulOk_ok {i j : Int} (h : mulOk i j = true) : IntMulOk i j := by
  unfold mulOk at h
  simp only [Bool.or_eq_true, decide_eq_true_eq] at h
  rcases h with (h | h) | h
  · exact CMul.ok (.inl ⟨by omega, by omega⟩)
  · exact CMul.ok (.inr ⟨by omega, by omega⟩)
  · exact CMulW.ok h
theorem op_mulA : OpR X (binaryOp .Mult) (rI IntMulOk fun i j => .int (i * j)) := opI fun _ _ _ _ _ _ _ hc q => mul_int q hc
def divOk (_ j : Int) : Bool := decide (0 < j) && decide (j.natAbs.log2 < 9000)
theorem od_div : OpD X pm Wx (binaryOp .FloorDiv) (intsD divOk fun i j => .int (i / j)) := opD_int op_fdivW (fun i j h => by
  unfold divOk at h
  simp only [Bool.and_eq_true, decide_eq_true_eq] at h
  exact h) fun _ _ _ _ => .int _
theorem od_mod : OpD X pm Wx (binaryOp .Mod) (intsD (fun _ j => decide (0 < j)) fun i j => .int (i % j)) := opD_int op_mod (fun i j h => of_decide_eq_true h) fun _ _ _ _ => .int _
def powOk (i j : Int) : Bool := decide (0 ≤ j) && decide (j ≤ 1000000) && decide (i.natAbs < 2 ^ 64)
theorem od_pow : OpD X pm Wx (binaryOp .Pow) (intsD powOk fun i j => .int (i ^ j.toNat)) := opD_int op_pow (fun i j h => by
  unfold powOk at h
  simp only [Bool.and_eq_true, decide_eq_true_eq] at h
  exact ⟨h.1.1, h.1.2, h.2⟩) fun _ _ _ _ => .int _
/-- x + y -/
def addD : D → D → M D
  | .int i, y => (match y with | .int j => pure (.int (i + j)) | _ => bad)
  | .str x, y => (match y with | .str z => if x.length + z.length ≤ sizeLine then pure (.str (x ++ z)) else bad | _ => bad)
  | .tup xs, y => (match y with | .tup ys => mkTup (xs ++ ys) | _ => bad)
  | x, y => viewL x >>= fun xs => viewL y >>= fun ys => mkLst (xs ++ ys)
theorem od_add : OpD X pm Wx (binaryOp .Add) addD := by
  refine opD_mk (op_add.or (op_add_str.or (op_catA.or op_cat))) fun F g cs σ H x y dx dy Q w rx ry p => ?_
  have lists : Post (rE X.K) X.K pm Wx σ F g H Q ((viewL dx >>= fun xs => viewL dy >>= fun ys => mkLst (xs ++ ys)) cs) → rCat x y H Q := fun p => by
    obtain ⟨a, vs, xs, e1, h1, r1, p⟩ := p.viewL w rx
    obtain ⟨b, us, ys, e2, h2, r2, p⟩ := p.viewL w ry
    obtain ⟨l, q⟩ := p.lst w (r1.append r2)
    exact ⟨a, b, vs, us, e1, e2, h1, h2, by simpa using l, q⟩
  cases dx with
  | int i =>
    cases dy with
    | int j => exact .inl ⟨i, j, rx.int, ry.int, p.now w (.int _)⟩
    | _ => exact p.elim
  | str a =>
    cases dy with
    | str b =>
      have p : Post (rE X.K) X.K pm Wx σ F g H Q ((if a.length + b.length ≤ sizeLine then pure (.str (a ++ b)) else bad : M D) cs) := p
      by_cases h : a.length + b.length ≤ sizeLine
      · rw [if_pos h] at p
        exact .inr (.inl ⟨a, b, rx.str, ry.str, h, p.now w (.str _)⟩)
      · rw [if_neg h] at p
        exact p.elim
    | _ => exact p.elim
  | tup xs =>
    cases dy with
    | tup ys =>
      obtain ⟨a, vs, e1, h1, r1⟩ := rx.tup w
      obtain ⟨b, us, e2, h2, r2⟩ := ry.tup w
      have p : Post (rE X.K) X.K pm Wx σ F g H Q (mkTup (xs ++ ys) cs) := p
      obtain ⟨l, q⟩ := p.tup w (r1.append r2)
      refine .inr (.inr (.inl ⟨a, b, vs, us, e1, e2, h1, h2, by simpa using l, fun z => ?_, fun _ z => ?_, fun _ _ => q⟩))
      · subst z
        cases r1
        have rb : Rep X.K F g y (.tup ys) := by
          rcases ry with r | ⟨_, _, _, _, e, _⟩
          · exact r
          · cases e
        unfold mkTup at p
        split at p
        · rw [← e2]
          exact p.now w rb
        · exact p.elim
      · subst z
        cases r2
        have ra : Rep X.K F g x (.tup xs) := by
          rcases rx with r | ⟨_, _, _, _, e, _⟩
          · exact r
          · cases e
        rw [List.append_nil] at p
        unfold mkTup at p
        split at p
        · rw [← e1]
          exact p.now w ra
        · exact p.elim
    | _ => exact p.elim
  | lst xs => exact .inr (.inr (.inr (lists p)))
  | cell k => exact .inr (.inr (.inr (lists p)))
  | _ => exact p.elim
def repSize (xs : List D) (k : Int) : Bool := decide (-(2 ^ 63) ≤ k) && decide (k < 2 ^ 63) && decide (xs.length * k.toNat ≤ sizeLine)
theorem Reps.rep {K : PySem.W.Frag} {F : Hp} {g : List Addr} {vs : List V} {ds : List D} (h : Reps K F g vs ds) : ∀ k : Nat, Reps K F g (List.replicate k vs).flatten (List.replicate k ds).flatten
  | 0 => .nil
  | k + 1 => by
    rw [List.replicate_succ, List.replicate_succ, List.flatten_cons, List.flatten_cons]
    exact h.append (Reps.rep h k)
/-- x * y -/
def repStr (x : Str) (k : Int) : Bool := decide (x.length ≤ 16) && decide (-(2 ^ 63) ≤ k) && decide (k ≤ 1048576)
theorem op_mulStr : OpR X (binaryOp .Mult) (fun x y H Q => ∃ z k, x = .str z ∧ y = .int k ∧ repStr z k = true ∧ Q (.str (Txt.mul z k)) H) := by
  intro pins s σ H x y v u Q I rx ry h
  obtain ⟨z, k, rfl, rfl, hk, q⟩ := h
  obtain ⟨t, rfl⟩ := rx
  obtain ⟨t', rfl⟩ := ry
  unfold repStr at hk
  simp only [Bool.and_eq_true, decide_eq_true_eq] at hk
  exact SB.mul (mulOk_of 16 1048576 (by omega) (by omega) (by omega) (by decide) (by decide)) fun t' tk => ⟨.str _, H, I.tok _, ⟨_, rfl⟩, q⟩
def mulD : D → D → M D
  | .str z, y => (match y with | .int k => if repStr z k then pure (.str (Txt.mul z k)) else bad | _ => bad)
  | .int i, y => (match y with | .int j => if mulOk i j then pure (.int (i * j)) else bad | _ => bad)
  | x, y => viewL x >>= fun xs => (match y with | .int k => if repSize xs k then mkLst (List.replicate k.toNat xs).flatten else bad | _ => bad)
theorem od_mul : OpD X pm Wx (binaryOp .Mult) mulD := by
  refine opD_mk (op_mulA.or (op_mulStr.or op_rep)) fun F g cs σ H x y dx dy Q w rx ry p => ?_
  have lists : Post (rE X.K) X.K pm Wx σ F g H Q ((viewL dx >>= fun xs => (match dy with | .int k => if repSize xs k then mkLst (List.replicate k.toNat xs).flatten else bad | _ => bad)) cs) → rRep x y H Q := fun p => by
    obtain ⟨a, vs, xs, e1, h1, r1, p⟩ := p.viewL w rx
    cases dy with
    | int k =>
      have p : Post (rE X.K) X.K pm Wx σ F g H Q ((if repSize xs k then mkLst (List.replicate k.toNat xs).flatten else bad : M D) cs) := p
      by_cases h : repSize xs k = true
      · rw [if_pos h] at p
        obtain ⟨l, q⟩ := p.lst w (r1.rep k.toNat)
        unfold repSize at h
        simp only [Bool.and_eq_true, decide_eq_true_eq] at h
        exact ⟨a, k, vs, e1, ry.int, h1, h.1.1, h.1.2, by rw [r1.length]; exact h.2, q⟩
      · rw [if_neg h] at p
        exact p.elim
    | _ => exact p.elim
  cases dx with
  | int i =>
    cases dy with
    | int j =>
      have p : Post (rE X.K) X.K pm Wx σ F g H Q ((if mulOk i j then pure (.int (i * j)) else bad : M D) cs) := p
      by_cases h : mulOk i j = true
      · rw [if_pos h] at p
        exact .inl ⟨i, j, rx.int, ry.int, mulOk_ok h, p.now w (.int _)⟩
      · rw [if_neg h] at p
        exact p.elim
    | _ => exact p.elim
  | str z =>
    cases dy with
    | int k =>
      have p : Post (rE X.K) X.K pm Wx σ F g H Q ((if repStr z k then pure (.str (Txt.mul z k)) else bad : M D) cs) := p
      by_cases h : repStr z k = true
      · rw [if_pos h] at p
        exact .inr (.inl ⟨z, k, rx.str, ry.int, h, p.now w (.str _)⟩)
      · rw [if_neg h] at p
        exact p.elim
    | _ => exact p.elim
  | lst xs => exact .inr (.inr (lists p))
  | cell k => exact .inr (.inr (lists p))
  | _ => exact p.elim
/-! ### comparisons -/
theorem od_lt : OpD X pm Wx (compareOp .Lt) (intsD always fun i j => .bl (decide (i < j))) := opD_int (OpR.of0 op_lt) (fun _ _ _ => trivial) fun _ _ _ _ => .bl _
theorem od_le : OpD X pm Wx (compareOp .LtE) (intsD always fun i j => .bl (decide (i ≤ j))) := opD_int (OpR.of0 op_le) (fun _ _ _ => trivial) fun _ _ _ _ => .bl _
theorem od_gt : OpD X pm Wx (compareOp .Gt) (intsD always fun i j => .bl (decide (j < i))) := opD_int (OpR.of0 op_gt) (fun _ _ _ => trivial) fun _ _ _ _ => .bl _
theorem od_ge : OpD X pm Wx (compareOp .GtE) (intsD always fun i j => .bl (decide (j ≤ i))) := opD_int (OpR.of0 op_ge) (fun _ _ _ => trivial) fun _ _ _ _ => .bl _
/-- is None -/
def isNonD : D → M D
  | .non => pure (.bl true)
  | .raw _ => bad
  | _ => pure (.bl false)
theorem Post.isNon {K : PySem.W.Frag} {σ : St} {F : Hp} {g : List Addr} {H : Hp} {cs : CS} {Q : V → Hp → Prop} {d : D} {v : V} (p : Post (rE K) K pm Wx σ F g H Q (isNonD d cs)) (w : Wk K pm F g cs H) (r : RepB K F g H v d) : Q (.bl (decide (v = .non))) H := by
  cases d with
  | non => rw [r.non]; exact p.now w (.bl _)
  | bl b => rw [r.bl]; exact p.now w (.bl _)
  | int i => rw [r.int]; exact p.now w (.bl _)
  | str x => rw [r.str]; exact p.now w (.bl _)
  | tup xs =>
    obtain ⟨a, vs, e, _⟩ := r.tup w
    rw [e]; exact p.now w (.bl _)
  | lst xs =>
    obtain ⟨a, vs, e, _⟩ := r.lst w
    rw [e]; exact p.now w (.bl _)
  | rol xs =>
    obtain ⟨a, vs, e, _⟩ := r.rol w
    rw [e]; exact p.now w (.bl _)
  | dct ks xs =>
    obtain ⟨a, vs, e, _⟩ := r.dct w
    rw [e]; exact p.now w (.bl _)
  | cell k =>
    obtain ⟨a, e, _⟩ := r.cell
    rw [e]; exact p.now w (.bl _)
  | raw u => exact p.elim
variable {e a b c : Expr} {es : List Expr} {f fa fb fc : DEnv → M D} {pos : Pos}
def notD : D → M D
  | .bl b => pure (.bl (!b))
  | _ => bad
def isD : D → D → M D := fun x y => match y with
  | .non => isNonD x
  | _ => bad
def isNotD : D → D → M D := fun x y => match y with
  | .non => isNonD x >>= notD
  | _ => bad
theorem od_is : OpD X pm Wx (compareOp .Is) isD := by
  refine opD_mk op_isN fun F g cs σ H x y dx dy Q w rx ry p => ?_
  cases dy with
  | non => exact ⟨ry.non, Post.isNon p w rx⟩
  | _ => exact p.elim
theorem od_isNot : OpD X pm Wx (compareOp .IsNot) isNotD := by
  refine opD_mk op_notN fun F g cs σ H x y dx dy Q w rx ry p => ?_
  cases dy with
  | non =>
    have p : Post (rE X.K) X.K pm Wx σ F g H Q ((isNonD dx >>= notD) cs) := p
    have q1 : Post (rE X.K) X.K pm Wx σ F g H (fun (u : V) H2 => ∃ k, u = .bl k ∧ Q (.bl (!k)) H2) (isNonD dx cs) := Post.bind (rel := rE X.K) p fun d2 cs2 v2 H2 F2 g2 w2 x2 r2 z2 => by
      cases d2 with
      | bl k =>
        cases r2
        exact ⟨k, rfl, z2.now w2 (.bl _)⟩
      | _ => exact z2.elim
    have q2 := q1.isNon w rx
    obtain ⟨k, e, q3⟩ := q2
    cases e
    exact ⟨ry.non, q3⟩
  | _ => exact p.elim
/-! ### and, or, not -/
theorem dw_and1 {ft : DEnv → M Bool} (ha : DT X pm Wx a ft) : DW X pm Wx (.BoolOp .And [a] pos) ft := by
  obtain ⟨t, p, q⟩ := ha.ex
  exact ⟨t, pw_and1 p, q⟩
theorem dw_or1 {ft : DEnv → M Bool} (ha : DT X pm Wx a ft) : DW X pm Wx (.BoolOp .Or [a] pos) ft := by
  obtain ⟨t, p, q⟩ := ha.ex
  exact ⟨t, pw_or1 p, q⟩
def andM (x y : DEnv → M Bool) : DEnv → M Bool := fun env => x env >>= fun k => if k then y env else pure false
def orM (x y : DEnv → M Bool) : DEnv → M Bool := fun env => x env >>= fun k => if k then pure true else y env
theorem dw_and {ft fr : DEnv → M Bool} {rest : List Expr} (ha : DT X pm Wx a ft) (hb : DW X pm Wx (.BoolOp .And (b :: rest) pos) fr) : DW X pm Wx (.BoolOp .And (a :: b :: rest) pos) (andM ft fr) := by
  obtain ⟨t, p, q⟩ := ha.ex
  obtain ⟨u, p2, q2⟩ := hb.ex
  refine ⟨_, pw_and p p2, fun F g H0 env cs σ H Q w s z => ?_⟩
  refine q F g H0 env cs σ H _ w s (Post.bind (rel2 := rT) z fun d cs1 v H1 F1 g1 w1 x1 r1 z1 => ?_)
  have r1 : v = d := r1
  subst r1
  cases v with
  | true => exact q2 F1 g1 H0 env cs1 σ H1 Q w1 (s.next x1) z1
  | false => exact z1.now w1 rfl
theorem dw_or {ft fr : DEnv → M Bool} {rest : List Expr} (ha : DT X pm Wx a ft) (hb : DW X pm Wx (.BoolOp .Or (b :: rest) pos) fr) : DW X pm Wx (.BoolOp .Or (a :: b :: rest) pos) (orM ft fr) := by
  obtain ⟨t, p, q⟩ := ha.ex
  obtain ⟨u, p2, q2⟩ := hb.ex
  refine ⟨_, pw_or p p2, fun F g H0 env cs σ H Q w s z => ?_⟩
  refine q F g H0 env cs σ H _ w s (Post.bind (rel2 := rT) z fun d cs1 v H1 F1 g1 w1 x1 r1 z1 => ?_)
  have r1 : v = d := r1
  subst r1
  cases v with
  | true => exact z1.now w1 rfl
  | false => exact q2 F1 g1 H0 env cs1 σ H1 Q w1 (s.next x1) z1
theorem DW.t {ft : DEnv → M Bool} (h : DW X pm Wx e ft) : DT X pm Wx e ft := by
  obtain ⟨t, p, q⟩ := h.ex
  exact ⟨t, p.pt, q⟩
theorem dt_not {ft : DEnv → M Bool} (ha : DT X pm Wx a ft) : DT X pm Wx (.UnaryOp .Not a pos) (fun env => ft env >>= fun k => pure (!k)) := by
  obtain ⟨t, p, q⟩ := ha.ex
  refine ⟨_, pt_not p, fun F g H0 env cs σ H Q w s z => ?_⟩
  refine q F g H0 env cs σ H _ w s (Post.bind (rel2 := rT) z fun d cs1 v H1 F1 g1 w1 x1 r1 z1 => ?_)
  have r1 : v = d := r1
  subst r1
  exact z1.now w1 rfl
/-- as values (bools all but the last) -/
def andV (x y : DEnv → M D) : DEnv → M D := fun env => x env >>= fun d => isB d >>= fun k => if k then y env else pure (.bl false)
def orV (x y : DEnv → M D) : DEnv → M D := fun env => x env >>= fun d => isB d >>= fun k => if k then pure (.bl true) else y env
theorem de_one {op} (h : DE X pm Wx a fa) : DE X pm Wx (.BoolOp op [a] pos) fa := by
  obtain ⟨t, p, q⟩ := h.ex
  exact ⟨t, pe_one p, q⟩
theorem de_and {rest : List Expr} (ha : DE X pm Wx a fa) (hb : DE X pm Wx (.BoolOp .And (b :: rest) pos) fb) : DE X pm Wx (.BoolOp .And (a :: b :: rest) pos) (andV fa fb) := by
  obtain ⟨t, p, q⟩ := ha.ex
  obtain ⟨u, p2, q2⟩ := hb.ex
  refine ⟨_, pe_and p p2, fun F g H0 env cs σ H Q w s z => ?_⟩
  refine q F g H0 env cs σ H _ w s (Post.bind (rel2 := rE X.K) z fun d cs1 v H1 F1 g1 w1 x1 r1 z1 => ?_)
  have z1' : Post rT X.K pm Wx σ F1 g1 H1 (fun c H2 => if c = true then u σ H2 Q else Q (.bl false) H2) (isB d cs1) := z1.bind fun k cs2 k' H2 F2 g2 w2 x2 e z2 => by
    cases e
    cases k with
    | true => exact q2 F2 g2 H0 env cs2 σ H2 Q w2 ((s.next x1).next x2) z2
    | false => exact z2.now w2 (.bl _)
  obtain ⟨k, e, q3⟩ := z1'.isB w1 (.inl r1)
  exact ⟨k, e, q3⟩
theorem de_or {rest : List Expr} (ha : DE X pm Wx a fa) (hb : DE X pm Wx (.BoolOp .Or (b :: rest) pos) fb) : DE X pm Wx (.BoolOp .Or (a :: b :: rest) pos) (orV fa fb) := by
  obtain ⟨t, p, q⟩ := ha.ex
  obtain ⟨u, p2, q2⟩ := hb.ex
  refine ⟨_, pe_or p p2, fun F g H0 env cs σ H Q w s z => ?_⟩
  refine q F g H0 env cs σ H _ w s (Post.bind (rel2 := rE X.K) z fun d cs1 v H1 F1 g1 w1 x1 r1 z1 => ?_)
  have z1' : Post rT X.K pm Wx σ F1 g1 H1 (fun c H2 => if c = true then Q (.bl true) H2 else u σ H2 Q) (isB d cs1) := z1.bind fun k cs2 k' H2 F2 g2 w2 x2 e z2 => by
    cases e
    cases k with
    | true => exact z2.now w2 (.bl _)
    | false => exact q2 F2 g2 H0 env cs2 σ H2 Q w2 ((s.next x1).next x2) z2
  obtain ⟨k, e, q3⟩ := z1'.isB w1 (.inl r1)
  exact ⟨k, e, q3⟩
theorem de_not (ha : DE X pm Wx a fa) : DE X pm Wx (.UnaryOp .Not a pos) (fun env => fa env >>= notD) := by
  obtain ⟨t, p, q⟩ := ha.ex
  refine ⟨_, pe_not p, fun F g H0 env cs σ H Q w s z => ?_⟩
  refine q F g H0 env cs σ H _ w s (Post.bind (rel2 := rE X.K) z fun d cs1 v H1 F1 g1 w1 x1 r1 z1 => ?_)
  cases d with
  | bl k =>
    cases r1
    exact ⟨k, rfl, z1.now w1 (.bl _)⟩
  | _ => exact z1.elim
/-- a if t else b -/
def ifM (t : DEnv → M Bool) (x y : DEnv → M D) : DEnv → M D := fun env => t env >>= fun k => if k then x env else y env
theorem de_if {ft : DEnv → M Bool} (hc : DT X pm Wx c ft) (ha : DE X pm Wx a fa) (hb : DE X pm Wx b fb) : DE X pm Wx (.IfExp c a b pos) (ifM ft fa fb) := by
  obtain ⟨t, p, q⟩ := hc.ex
  obtain ⟨u, p2, q2⟩ := ha.ex
  obtain ⟨v, p3, q3⟩ := hb.ex
  refine ⟨_, pe_ifExp p p2 p3, fun F g H0 env cs σ H Q w s z => ?_⟩
  refine q F g H0 env cs σ H _ w s (Post.bind (rel2 := rE X.K) z fun d cs1 k H1 F1 g1 w1 x1 r1 z1 => ?_)
  have r1 : k = d := r1
  subst r1
  cases k with
  | true => exact q2 F1 g1 H0 env cs1 σ H1 Q w1 (s.next x1) z1
  | false => exact q3 F1 g1 H0 env cs1 σ H1 Q w1 (s.next x1) z1
/-- -a -/
def negD : D → M D
  | .int i => pure (.int (-i))
  | _ => bad
theorem de_neg (ha : DB X pm Wx a fa) : DE X pm Wx (.UnaryOp .USub a pos) (fun env => fa env >>= negD) := by
  obtain ⟨t, p, q⟩ := ha.ex
  refine ⟨_, pe_un un_neg p, fun F g H0 env cs σ H Q w s z => ?_⟩
  refine q F g H0 env cs σ H _ w s (Post.bind (rel2 := rE X.K) z fun d cs1 v H1 F1 g1 w1 x1 r1 z1 => ?_)
  cases d with
  | int i => exact ⟨i, r1.int, z1.now w1 (.int _)⟩
  | _ => exact z1.elim
end
end Dn

end
set_option maxHeartbeats 4000000
section
namespace Dn
open PySem PySem.Spec L2
open PyProof.Rows hiding St

/-! ### data as the library's data -/
def keyPy : Key → PyData
  | .inl i => .int i
  | .inr x => .str x
mutual
def pyOf : D → Option PyData
  | .non => some .none
  | .bl b => some (.bool b)
  | .int i => some (.int i)
  | .str x => some (.str x)
  | .tup xs => (pyAll xs).map .tuple
  | .lst xs => (pyAll xs).map .list
  | .dct ks vs => (pyAll vs).map fun ps => .dict ((ks.map keyPy).zip ps)
  | .rol _ => none
  | .cell _ => none
  | .raw _ => none
def pyAll : List D → Option (List PyData)
  | [] => some []
  | x :: xs => (pyOf x).bind fun p => (pyAll xs).map fun ps => p :: ps
end
theorem pyAll_len : ∀ {xs : List D} {ps : List PyData}, pyAll xs = some ps → ps.length = xs.length
  | [], ps, h => by
    have h : some [] = some ps := by simpa only [pyAll] using h
    cases h; rfl
  | x :: xs, ps, h => by
    simp only [pyAll, Option.bind_eq_some_iff, Option.map_eq_some_iff] at h
    obtain ⟨p, _, qs, h2, e⟩ := h
    subst e
    simp [pyAll_len h2]
section
variable {X : Cx} {pins : List (Addr × Obj)} {σ : St} {H F : Hp} {g : List Addr} {s : Shared}
theorem key_reads {h : Heap} {k : Key} {u : Value} (e : keyIs k u = true) : Reads h u (keyPy k) [] := by
  rcases keyIs_shape e with ⟨i, t, rfl, rfl⟩ | ⟨x, t, rfl, rfl⟩
  · exact .int i t
  · exact .str x t
/-- what a dict's entries read as -/
theorem pairs_reads {P : Program} {w : World} {h : Heap} : ∀ {es : List DictEntry} {vs : List (Key × Value)}, Pairs (mixKind P w) es vs → ReadsAll h (es.map (·.key)) (vs.map fun p => keyPy p.1) [] ∧ es.map (·.val) = vs.map (·.2)
  | _, _, .nil => ⟨.nil, rfl⟩
  | _, _, .cons (e := e) (kv := kv) a b t => by
    obtain ⟨r, q⟩ := pairs_reads (h := h) t
    have r1 : Reads h e.key (keyPy kv.1) [] := key_reads (by rw [← mixKind_is P w]; exact a)
    refine ⟨by have := ReadsAll.cons r1 r; simpa using this, by simp [b, q]⟩
theorem kv_vals : ∀ {kvs : List (Key × V)} {us : List (Key × Value)}, KV kvs us → Vals (kvs.map (·.2)) (us.map (·.2))
  | _, _, .nil => .nil
  | _, _, .cons a t => .cons a.2 (kv_vals t)
theorem kv_keys : ∀ {kvs : List (Key × V)} {us : List (Key × Value)}, KV kvs us → kvs.map (·.1) = us.map (·.1)
  | _, _, .nil => rfl
  | _, _, .cons a t => by simp [a.1, kv_keys t]
mutual
theorem Rep.reads (I : Inv X pins σ H s) (le : Le F H) (hM : H sysModules = none) : ∀ (d : D) (p : PyData) (v : V) (u : Value), pyOf d = some p → Rep X.K F g v d → RelV v u → ∃ as, Reads s.heap u p as ∧ sysModules ∉ as
  | .non, p, v, u, e, r, q => by
    simp only [pyOf] at e; cases e; cases r; cases q
    exact ⟨[], .none, by simp⟩
  | .bl b, p, v, u, e, r, q => by
    simp only [pyOf] at e; cases e; cases r; cases q
    exact ⟨[], .bool b, by simp⟩
  | .int i, p, v, u, e, r, q => by
    simp only [pyOf] at e; cases e; cases r; obtain ⟨t, rfl⟩ := q
    exact ⟨[], .int i t, by simp⟩
  | .str x, p, v, u, e, r, q => by
    simp only [pyOf] at e; cases e; cases r; obtain ⟨t, rfl⟩ := q
    exact ⟨[], .str x t, by simp⟩
  | .tup xs, p, v, u, e, r, q => by
    simp only [pyOf, Option.map_eq_some_iff] at e
    obtain ⟨ps, e, rfl⟩ := e
    cases r with
    | tup h r =>
      cases q
      obtain ⟨its, rv, ⟨o, ho, hc, n, hd⟩, _⟩ := I.tuple (le.seqT h)
      obtain ⟨as, hr, hn⟩ := Reps.reads I le hM xs ps _ its e r rv
      exact ⟨as, .tuple ho hc hd (by simpa using hr), hn⟩
  | .lst xs, p, v, u, e, r, q => by
    simp only [pyOf, Option.map_eq_some_iff] at e
    obtain ⟨ps, e, rfl⟩ := e
    cases r with
    | @lst a _ _ h r =>
      cases q
      obtain ⟨its, n, rv, ho, _⟩ := I.lst (le _ _ h)
      obtain ⟨as, hr, hn⟩ := Reps.reads I le hM xs ps _ its e r rv
      refine ⟨a :: as, .list ho rfl rfl (by simpa using hr), ?_⟩
      simp only [List.mem_cons, not_or]
      refine ⟨fun z => ?_, hn⟩
      have := le _ _ h
      rw [← z, hM] at this
      cases this
  | .dct ks vs, p, v, u, e, r, q => by
    simp only [pyOf, Option.map_eq_some_iff] at e
    obtain ⟨ps, e, rfl⟩ := e
    cases r with
    | @dct a kvs _ _ h hk r =>
      cases q
      obtain ⟨_, hs, us, rk, o, es, ep, ho, hx, hd, _, hp, _⟩ := I.hok a _ (le _ _ h)
      obtain ⟨r1, r2⟩ := pairs_reads (h := s.heap) hp
      have rv : Vals (kvs.map (·.2)) (us.map (·.2)) := kv_vals rk
      have ke : kvs.map (·.1) = us.map (·.1) := kv_keys rk
      obtain ⟨as, hr, hn⟩ := Reps.reads I le hM vs ps _ (us.map (·.2)) e r rv
      have hl : ps.length = kvs.length := by
        have := pyAll_len e
        have := r.length
        simp at this
        omega
      have e1 : (((ks.map keyPy).zip ps).map (·.1)) = us.map fun p => keyPy p.1 := by
        rw [List.map_fst_zip (by simp [hk, hl])]
        rw [hk, ke]
        simp
      have e2 : (((ks.map keyPy).zip ps).map (·.2)) = ps := List.map_snd_zip (by simp [hk, hl])
      refine ⟨a :: [] ++ as, .dict ho hx.1 hd ?_ ?_, ?_⟩
      · rw [e1]; exact r1
      · rw [e2, r2]; exact hr
      · simp only [List.cons_append, List.nil_append, List.mem_cons, not_or]
        exact ⟨fun z => by rw [z] at hs; simp at hs, hn⟩
  | .rol _, _, _, _, e, _, _ => by simp [pyOf] at e
  | .cell _, _, _, _, e, _, _ => by simp [pyOf] at e
  | .raw _, _, _, _, e, _, _ => by simp [pyOf] at e
theorem Reps.reads (I : Inv X pins σ H s) (le : Le F H) (hM : H sysModules = none) : ∀ (ds : List D) (ps : List PyData) (vs : List V) (us : List Value), pyAll ds = some ps → Reps X.K F g vs ds → Vals vs us → ∃ as, ReadsAll s.heap us ps as ∧ sysModules ∉ as
  | [], ps, vs, us, e, r, q => by
    simp only [pyAll] at e; cases e; cases r; cases q
    exact ⟨[], .nil, by simp⟩
  | d :: ds, ps, vs, us, e, r, q => by
    simp only [pyAll, Option.bind_eq_some_iff, Option.map_eq_some_iff] at e
    obtain ⟨p, e1, qs, e2, rfl⟩ := e
    cases r with
    | cons r1 r2 =>
      cases q with
      | cons q1 q2 =>
        obtain ⟨as, h1, n1⟩ := Rep.reads I le hM d p _ _ e1 r1 q1
        obtain ⟨bs, h2, n2⟩ := Reps.reads I le hM ds qs _ _ e2 r2 q2
        exact ⟨as ++ bs, .cons h1 h2, by simp [n1, n2]⟩
end
/-- a borrowed list too -/
theorem RepB.reads (I : Inv X pins σ H s) (le : Le F H) (hM : H sysModules = none) {d : D} {p : PyData} {v : V} {u : Value} (e : pyOf d = some p) (r : RepB X.K F g H v d) (q : RelV v u) : ∃ as, Reads s.heap u p as ∧ sysModules ∉ as := by
  rcases r with r | ⟨a, vs, ds, rfl, rfl, h, r, _⟩
  · exact r.reads I le hM d p v u e q
  · simp only [pyOf, Option.map_eq_some_iff] at e
    obtain ⟨ps, e, rfl⟩ := e
    cases q
    obtain ⟨its, n, rv, ho, _⟩ := I.lst h
    obtain ⟨as, hr, hn⟩ := Reps.reads I le hM ds ps _ its e r rv
    refine ⟨a :: as, .list ho rfl rfl (by simpa using hr), ?_⟩
    simp only [List.mem_cons, not_or]
    refine ⟨fun z => ?_, hn⟩
    rw [← z, hM] at h
    cases h
end
/-- the written part knows sys.modules -/
def KnowsM (K : PySem.W.Frag) : Prop := ∃ o, K.lookup sysModules = some o
theorem Inv.noM {X : Cx} {pins : List (Addr × Obj)} {σ : St} {H : Hp} {s : Shared} (I : Inv X pins σ H s) (k : KnowsM X.K) : H sysModules = none := by
  obtain ⟨o, h⟩ := k
  exact (I.bs _ _ (I.ok.mod.kin _ _ h)).2

/-! ### == and != -/
section
variable {X : Cx} {pm : Bool} {Wx : WZ}
/-- a cell's list as a value -/
def deref (d : D) : M D := match d with
  | .cell k => cellL k >>= fun xs => pure (.lst xs)
  | d => pure d
theorem Post.deref {γ δ : Type} {rel : Rel γ δ} {K : PySem.W.Frag} {σ : St} {F : Hp} {g : List Addr} {H : Hp} {cs : CS} {Q : δ → Hp → Prop} {d : D} {v : V} {k : D → M γ} (p : Post rel K pm Wx σ F g H Q ((deref d >>= k) cs)) (w : Wk K pm F g cs H) (r : RepB K F g H v d) :
    ∃ d', ((∃ a vs xs, v = .ref a ∧ d' = .lst xs ∧ H a = some (.lst vs) ∧ Reps K F g vs xs) ∨ RepB K F g H v d') ∧ Post rel K pm Wx σ F g H Q (k d' cs) := by
  cases d with
  | cell j =>
    have p : Post rel K pm Wx σ F g H Q (((cellL j >>= fun xs => pure (.lst xs)) >>= k) cs) := p
    have e : ((cellL j >>= fun xs => pure (.lst xs)) >>= k) cs = (Dn.viewL (D.cell j) >>= fun xs => k (.lst xs)) cs := by
      show _ = (cellL j >>= fun xs => k (.lst xs)) cs
      simp only [M.bind_run]
      cases cellL j cs <;> rfl
    rw [e] at p
    obtain ⟨a, vs, xs, e, h, rr, p⟩ := p.viewL w r
    exact ⟨_, .inl ⟨a, vs, xs, e, rfl, h, rr⟩, p⟩
  | _ => exact ⟨_, .inr r, p⟩
def eqD (neg : Bool) (x y : D) : M D := deref x >>= fun x => deref y >>= fun y => match pyOf x, pyOf y with
  | some a, some b => if SeqAt.shaped a && SeqAt.shaped b then pure (.bl (if neg then !PyData.eqv a b else PyData.eqv a b)) else bad
  | _, _ => bad
/-- what may be read as data -/
def RepD (K : PySem.W.Frag) (F : Hp) (g : List Addr) (H : Hp) (v : V) (d : D) : Prop := (∃ a vs xs, v = .ref a ∧ d = .lst xs ∧ H a = some (.lst vs) ∧ Reps K F g vs xs) ∨ RepB K F g H v d
theorem RepD.reads {pins : List (Addr × Obj)} {σ : St} {H F : Hp} {g : List Addr} {s : Shared} (I : Inv X pins σ H s) (le : Le F H) (hM : H sysModules = none) {d : D} {p : PyData} {v : V} {u : Value} (e : pyOf d = some p) (r : RepD X.K F g H v d) (q : RelV v u) : ∃ as, Reads s.heap u p as ∧ sysModules ∉ as := by
  rcases r with ⟨a, vs, ds, rfl, rfl, h, r⟩ | r
  · simp only [pyOf, Option.map_eq_some_iff] at e
    obtain ⟨ps, e, rfl⟩ := e
    cases q
    obtain ⟨its, n, rv, ho, _⟩ := I.lst h
    obtain ⟨as, hr, hn⟩ := Reps.reads I le hM ds ps _ its e r rv
    refine ⟨a :: as, .list ho rfl rfl (by simpa using hr), ?_⟩
    simp only [List.mem_cons, not_or]
    refine ⟨fun z => ?_, hn⟩
    rw [← z, hM] at h
    cases h
  · exact r.reads I le hM e q
/-- two data, with what is asked of both -/
def r2D (K : PySem.W.Frag) (P : PyData → PyData → Prop) (f : PyData → PyData → V) : R2 := fun x y H Q => ∃ F g dx dy a b, Le F H ∧ RepD K F g H x dx ∧ RepD K F g H y dy ∧ pyOf dx = some a ∧ pyOf dy = some b ∧ P a b ∧ Q (f a b) H
theorem od_eq (hu : X.A.units + 64 < cLine) (hm : KnowsM X.K) : OpD X pm Wx (compareOp .Eq) (eqD false) := by
  refine opD_mk (r := r2D X.K (fun a b => SeqAt.shaped a = true ∧ SeqAt.shaped b = true) fun a b => .bl (PyData.eqv a b)) ?_ ?_
  · intro pins s σ H x y v u Q I rx ry ⟨F, g, dx, dy, a, b, le, r1, r2, e1, e2, ⟨s1, s2⟩, q⟩
    obtain ⟨as, h1, _⟩ := r1.reads I le (Inv.noM I hm) e1 rx
    obtain ⟨bs, h2, _⟩ := r2.reads I le (Inv.noM I hm) e2 ry
    exact SeqAt.compareEq_shaped h1 h2 s1 s2 hu ⟨.bl _, H, I, rfl, q⟩
  · intro F g cs σ H x y dx dy Q w rx ry p
    obtain ⟨dx', r1, p⟩ := Post.deref p w rx
    obtain ⟨dy', r2, p⟩ := Post.deref p w ry
    cases e1 : pyOf dx' with
    | none => rw [e1] at p; exact p.elim
    | some a =>
      cases e2 : pyOf dy' with
      | none => rw [e1, e2] at p; exact p.elim
      | some b =>
        rw [e1, e2] at p
        have p : Post (rE X.K) X.K pm Wx σ F g H Q ((if SeqAt.shaped a && SeqAt.shaped b then pure (.bl (PyData.eqv a b)) else bad : M D) cs) := p
        by_cases h : (SeqAt.shaped a && SeqAt.shaped b) = true
        · rw [if_pos h] at p
          exact ⟨F, g, dx', dy', a, b, w.sub, r1, r2, e1, e2, Bool.and_eq_true_iff.mp h, p.now w (.bl _)⟩
        · rw [if_neg h] at p
          exact p.elim
theorem od_ne (hu : X.A.units + 64 < cLine) (hm : KnowsM X.K) : OpD X pm Wx (compareOp .NotEq) (eqD true) := by
  refine opD_mk (r := r2D X.K (fun a b => SeqAt.shaped a = true ∧ SeqAt.shaped b = true) fun a b => .bl (!PyData.eqv a b)) ?_ ?_
  · intro pins s σ H x y v u Q I rx ry ⟨F, g, dx, dy, a, b, le, r1, r2, e1, e2, ⟨s1, s2⟩, q⟩
    obtain ⟨as, h1, _⟩ := r1.reads I le (Inv.noM I hm) e1 rx
    obtain ⟨bs, h2, _⟩ := r2.reads I le (Inv.noM I hm) e2 ry
    exact SeqAt.compareNe_shaped h1 h2 s1 s2 hu ⟨.bl _, H, I, rfl, q⟩
  · intro F g cs σ H x y dx dy Q w rx ry p
    obtain ⟨dx', r1, p⟩ := Post.deref p w rx
    obtain ⟨dy', r2, p⟩ := Post.deref p w ry
    cases e1 : pyOf dx' with
    | none => rw [e1] at p; exact p.elim
    | some a =>
      cases e2 : pyOf dy' with
      | none => rw [e1, e2] at p; exact p.elim
      | some b =>
        rw [e1, e2] at p
        have p : Post (rE X.K) X.K pm Wx σ F g H Q ((if SeqAt.shaped a && SeqAt.shaped b then pure (.bl (!PyData.eqv a b)) else bad : M D) cs) := p
        by_cases h : (SeqAt.shaped a && SeqAt.shaped b) = true
        · rw [if_pos h] at p
          exact ⟨F, g, dx', dy', a, b, w.sub, r1, r2, e1, e2, Bool.and_eq_true_iff.mp h, p.now w (.bl _)⟩
        · rw [if_neg h] at p
          exact p.elim
/-! ### places and slices -/
variable {e a b c : Expr} {es : List Expr} {f fa fb fc : DEnv → M D} {pos : Pos}
def atD (xs : List D) (i : Int) : M D := match atI xs i with
  | some d => pure d
  | none => bad
/-- x[y] -/
def ixD (x y : D) : M D := match y with
  | .int i => (match x with
    | .str z => if z.length ≤ sizeLine then (match atI z.cps.toList i with | some c => pure (.str ⟨#[c]⟩) | none => bad) else bad
    | x => viewS x >>= fun xs => atD xs i)
  | _ => bad
theorem Reps.at {K : PySem.W.Frag} {F : Hp} {g : List Addr} {vs : List V} {xs : List D} {i : Int} {d : D} (r : Reps K F g vs xs) (h : atI xs i = some d) : ∃ v, atI vs i = some v ∧ Rep K F g v d := by
  unfold atI at h ⊢
  rw [← r.length] at h
  cases e : ixN vs.length i with
  | none => rw [e] at h; cases h
  | some j =>
    rw [e] at h
    exact r.get h
theorem de_ix (ha : DB X pm Wx a fa) (hb : DB X pm Wx b fb) (hs : PlainIx b := by intro _ _; rfl) : DE X pm Wx (.Subscript a b pos) (op2 ixD fa fb) := by
  obtain ⟨t, p, q⟩ := ha.ex
  obtain ⟨u, p2, q2⟩ := hb.ex
  refine ⟨_, pe_ix ix_seq p p2 hs, bin2 q q2 fun F g cs σ H x y dx dy Q w rx ry z => ?_⟩
  cases dy with
  | int i =>
    have seq : Post (rE X.K) X.K pm Wx σ F g H Q ((viewS dx >>= fun xs => atD xs i) cs) → rIx X.K x y H Q := fun z => by
      obtain ⟨a, vs, xs, e1, h, r, z⟩ := z.viewS w rx
      unfold atD at z
      cases e : atI xs i with
      | none => rw [e] at z; exact z.elim
      | some d =>
        rw [e] at z
        obtain ⟨v, hv, rv⟩ := r.at e
        rcases h with h | h
        · exact .inl ⟨a, vs, i, v, e1, ry.int, h, hv, z.now w rv⟩
        · exact .inr (.inl ⟨a, vs, i, v, e1, ry.int, h, hv, z.now w rv⟩)
    cases dx with
    | str x' =>
      have z : Post (rE X.K) X.K pm Wx σ F g H Q ((if x'.length ≤ sizeLine then (match atI x'.cps.toList i with | some c => pure (.str ⟨#[c]⟩) | none => bad) else bad : M D) cs) := z
      by_cases h : x'.length ≤ sizeLine
      · rw [if_pos h] at z
        cases e : atI x'.cps.toList i with
        | none => rw [e] at z; exact z.elim
        | some c =>
          rw [e] at z
          exact .inr (.inr ⟨x', i, c, rx.str, ry.int, h, e, z.now w (.str _)⟩)
      · rw [if_neg h] at z
        exact z.elim
    | _ => exact seq z
  | _ => exact z.elim
def cutG {α : Type} (xs : List α) (lo hi : Option Int) : List α := (xs.drop (HT.sIx xs.length 0 lo)).take (HT.sIx xs.length xs.length hi - HT.sIx xs.length 0 lo)
theorem Reps.cut {K : PySem.W.Frag} {F : Hp} {g : List Addr} {vs : List V} {xs : List D} (r : Reps K F g vs xs) (lo hi : Option Int) : Reps K F g (cutV vs lo hi) (cutG xs lo hi) := by
  unfold cutV cutG
  rw [r.length]
  exact (r.drop _).take _
/-- x[lo:hi] -/
def slD (x : D) (lo hi : Option Int) : M D := match x with
  | .str z => if z.length ≤ sizeLine then pure (.str (cutS z lo hi)) else bad
  | .tup xs => mkTup (cutG xs lo hi)
  | .rol xs => mkLst (cutG xs lo hi)
  | x => viewL x >>= fun xs => mkLst (cutG xs lo hi)
structure DO (X : Cx) (pm : Bool) (Wx : WZ) (e : Option Expr) (f : DEnv → M (Option Int)) : Prop where
  ex : ∃ t, PO X e t ∧ ∀ F g H0 env cs σ H Q, Wk X.K pm F g cs H → Slots Wx.hx X.K F g H0 env σ H → Post (fun _ _ _ v d => v = d) X.K pm Wx σ F g H Q (f env cs) → t σ H Q
theorem do_none : DO X pm Wx none (fun _ => pure none) := ⟨_, po_none, fun F g H0 env cs σ H Q w s p => p.now w rfl⟩
def someI : D → M (Option Int)
  | .int i => pure (some i)
  | _ => bad
theorem do_some (h : DB X pm Wx e f) : DO X pm Wx (some e) (fun env => f env >>= someI) := by
  obtain ⟨t, p, q⟩ := h.ex
  refine ⟨_, po_some p, fun F g H0 env cs σ H Q w s z => ?_⟩
  refine q F g H0 env cs σ H _ w s (Post.bind (rel2 := fun _ _ _ v d => v = d) z fun d cs1 v H1 F1 g1 w1 x1 r1 z1 => ?_)
  cases d with
  | int i => exact ⟨i, r1.int, z1.now w1 rfl⟩
  | _ => exact z1.elim
theorem de_slice {lo hi : Option Expr} {fl fh : DEnv → M (Option Int)} {p2 : Pos} (ha : DB X pm Wx a fa) (hl : DO X pm Wx lo fl) (hh : DO X pm Wx hi fh) : DE X pm Wx (.Subscript a (.Slice lo hi none p2) pos) (fun env => fa env >>= fun x => fl env >>= fun l => fh env >>= fun h => slD x l h) := by
  obtain ⟨t, p, q⟩ := ha.ex
  obtain ⟨u, p2, q2⟩ := hl.ex
  obtain ⟨v, p3, q3⟩ := hh.ex
  refine ⟨_, pe_slice (sl_str.or (sl_tupA.or sl_list)) p p2 p3, fun F g H0 env cs σ H Q w s z => ?_⟩
  refine q F g H0 env cs σ H _ w s (Post.bind (rel2 := rE X.K) z fun d cs1 x1 H1 F1 g1 w1 n1 r1 z1 => ?_)
  refine q2 F1 g1 H0 env cs1 σ H1 _ w1 (s.next n1) (z1.bind fun l cs2 l' H2 F2 g2 w2 n2 e2 z2 => ?_)
  refine q3 F2 g2 H0 env cs2 σ H2 _ w2 ((s.next n1).next n2) (z2.bind fun h cs3 h' H3 F3 g3 w3 n3 e3 z3 => ?_)
  have e2 : l' = l := e2
  have e3 : h' = h := e3
  subst e2 e3
  have r3 := (r1.next n2).next n3
  have lists : Post (rE X.K) X.K pm Wx σ F3 g3 H3 Q ((viewL d >>= fun xs => mkLst (cutG xs l' h')) cs3) → rSlL X.K x1 l' h' H3 Q := fun z => by
    obtain ⟨a, vs, xs, e1, h, r, z⟩ := z.viewL w3 r3
    exact ⟨a, vs, e1, SqL.of h, (z.lst w3 (r.cut l' h')).2⟩
  cases d with
  | str y =>
    have z3 : Post (rE X.K) X.K pm Wx σ F3 g3 H3 Q ((if y.length ≤ sizeLine then pure (.str (cutS y l' h')) else bad : M D) cs3) := z3
    by_cases hz : y.length ≤ sizeLine
    · rw [if_pos hz] at z3
      exact .inl ⟨y, r3.str, hz, z3.now w3 (.str _)⟩
    · rw [if_neg hz] at z3
      exact z3.elim
  | tup xs =>
    obtain ⟨a, vs, e1, ht, r⟩ := r3.tup w3
    have z3 : Post (rE X.K) X.K pm Wx σ F3 g3 H3 Q (mkTup (cutG xs l' h') cs3) := z3
    refine .inr (.inl ⟨a, vs, e1, ht, fun hw => ?_, fun _ => (z3.tup w3 (r.cut l' h')).2⟩)
    have ew : cutG xs l' h' = xs := by
      rw [r.length] at hw
      unfold cutG
      rw [hw.1, hw.2]
      simp
    have rt : Rep X.K F3 g3 x1 (.tup xs) := by
      rcases r3 with r | ⟨_, _, _, _, e, _⟩
      · exact r
      · cases e
    rw [ew] at z3
    unfold mkTup at z3
    split at z3
    · rw [← e1]
      exact z3.now w3 rt
    · exact z3.elim
  | rol xs =>
    obtain ⟨a, vs, e1, hl, r⟩ := r3.rol w3
    have z3 : Post (rE X.K) X.K pm Wx σ F3 g3 H3 Q (mkLst (cutG xs l' h') cs3) := z3
    exact .inr (.inr ⟨a, vs, e1, hl, (z3.lst w3 (r.cut l' h')).2⟩)
  | lst xs => exact .inr (.inr (lists z3))
  | cell k => exact .inr (.inr (lists z3))
  | _ => exact z3.elim
end
end Dn

end
set_option maxHeartbeats 4000000
section
namespace Dn
open PySem PySem.Spec L2
open PyProof.Rows hiding St

/-! ### arguments of built-ins -/
inductive RepsB (K : PySem.W.Frag) (F : Hp) (g : List Addr) (H : Hp) : List V → List D → Prop
  | nil : RepsB K F g H [] []
  | cons {v vs d ds} : RepB K F g H v d → RepsB K F g H vs ds → RepsB K F g H (v :: vs) (d :: ds)
abbrev rAB (K : PySem.W.Frag) : Rel (List D) (List V) := fun F g H v d => RepsB K F g H v d
structure DAB (X : Cx) (pm : Bool) (Wx : WZ) (es : List Expr) (f : DEnv → M (List D)) : Prop where
  ex : ∃ t, PA X es t ∧ ∀ F g H0 env cs σ H Q, Wk X.K pm F g cs H → Slots Wx.hx X.K F g H0 env σ H → Post (rAB X.K) X.K pm Wx σ F g H Q (f env cs) → t σ H Q
section
variable {X : Cx} {pm : Bool} {Wx : WZ} {e a b c o : Expr} {es : List Expr} {f fa fb fc fo : DEnv → M D} {fr : DEnv → M (List D)} {pos : Pos}
theorem dab_nil : DAB X pm Wx [] (fun _ => pure []) := ⟨_, pa_nil, fun F g H0 env cs σ H Q w s p => p.now w .nil⟩
theorem dab_cons (ha : DB X pm Wx e fa) (hr : DAB X pm Wx es fr) (hs : starEach (e :: es) X.env = (false, eval e X.env) :: starEach es X.env := by rfl) :
    DAB X pm Wx (e :: es) (fun env => fa env >>= fun d => fr env >>= fun ds => pure (d :: ds)) := by
  obtain ⟨t, p, q⟩ := ha.ex
  obtain ⟨u, p2, q2⟩ := hr.ex
  refine ⟨_, pa_cons p p2 hs, fun F g H0 env cs σ H Q w s z => ?_⟩
  refine q F g H0 env cs σ H _ w s (Post.bind (rel2 := rAB X.K) z fun d cs1 v H1 F1 g1 w1 x1 r z1 => ?_)
  refine q2 F1 g1 H0 env cs1 σ H1 _ w1 (s.next x1) (z1.bind fun ds cs2 vs H2 F2 g2 w2 x2 rs z2 => ?_)
  exact z2.now w2 (.cons (r.next x2) rs)
structure CallD (X : Cx) (pm : Bool) (Wx : WZ) (fv : Value) (fD : List D → M D) : Prop where
  ex : ∃ r, CallR X fv r ∧ ∀ F g cs σ H vs ds Q, Wk X.K pm F g cs H → RepsB X.K F g H vs ds → Post (rE X.K) X.K pm Wx σ F g H Q (fD ds cs) → r vs H Q
theorem de_callB {x : Str} {p : Pos} {id : String} {fD : List D → M D} (hc : CallD X pm Wx (.builtin id) fD) (hg : Gl X x) (hm : X.mg x = none) (hv : bootBuiltins x = some (.builtin id)) (ha : DAB X pm Wx (e :: es) fr) (hn : x ≠ "__name__" := by decide) (hdb : (x == ("__debug__" : Str)) = false := by decide)
    (he : starEach (e :: es) X.env = (false, eval e X.env) :: starEach es X.env := by rfl) (hpl : (backTo pos (starEach es X.env)).any (·.1) = false := by rfl) : DE X pm Wx (.Call (.Name x p) (e :: es) [] pos) (fun env => fr env >>= fD) := by
  obtain ⟨r, h1, h2⟩ := hc.ex
  obtain ⟨t, p, q⟩ := ha.ex
  refine ⟨_, pe_callB h1 hg hm hv p hn hdb he hpl, fun F g H0 env cs σ H Q w s z => ?_⟩
  exact q F g H0 env cs σ H _ w s (Post.bind (rel2 := rE X.K) z fun ds cs1 vs H1 F1 g1 w1 x1 r1 z1 => h2 F1 g1 cs1 σ H1 vs ds Q w1 r1 z1)
theorem de_callTy {x : Str} {p : Pos} {T : String} {fD : List D → M D} (hc : CallD X pm Wx (.type T) fD) (hg : Gl X x) (hm : X.mg x = none) (hv : bootBuiltins x = some (.type T)) (ha : DAB X pm Wx (e :: es) fr) (hn : x ≠ "__name__" := by decide) (hdb : (x == ("__debug__" : Str)) = false := by decide)
    (he : starEach (e :: es) X.env = (false, eval e X.env) :: starEach es X.env := by rfl) (hpl : (backTo pos (starEach es X.env)).any (·.1) = false := by rfl) : DE X pm Wx (.Call (.Name x p) (e :: es) [] pos) (fun env => fr env >>= fD) := by
  obtain ⟨r, h1, h2⟩ := hc.ex
  obtain ⟨t, p, q⟩ := ha.ex
  refine ⟨_, pe_callTy h1 hg hm hv p hn hdb he hpl, fun F g H0 env cs σ H Q w s z => ?_⟩
  exact q F g H0 env cs σ H _ w s (Post.bind (rel2 := rE X.K) z fun ds cs1 vs H1 F1 g1 w1 x1 r1 z1 => h2 F1 g1 cs1 σ H1 vs ds Q w1 r1 z1)
/-- one argument -/
def arg1 (f : D → M D) (ds : List D) : M D := match ds with
  | [d] => f d
  | _ => bad
def arg2 (f : D → D → M D) (ds : List D) : M D := match ds with
  | [d, e] => f d e
  | _ => bad
theorem RepsB.one {K : PySem.W.Frag} {F : Hp} {g : List Addr} {H : Hp} {vs : List V} {d : D} (r : RepsB K F g H vs [d]) : ∃ v, vs = [v] ∧ RepB K F g H v d := by
  cases r with
  | cons a t =>
    cases t
    exact ⟨_, rfl, a⟩
theorem RepsB.two {K : PySem.W.Frag} {F : Hp} {g : List Addr} {H : Hp} {vs : List V} {d d2 : D} (r : RepsB K F g H vs [d, d2]) : ∃ v u, vs = [v, u] ∧ RepB K F g H v d ∧ RepB K F g H u d2 := by
  cases r with
  | cons a t =>
    cases t with
    | cons b t =>
      cases t
      exact ⟨_, _, rfl, a, b⟩
theorem call1 {fv : Value} {fD : D → M D} {r : List V → Hp → VK → Prop} (h : CallR X fv r)
    (k : ∀ F g cs σ H v d Q, Wk X.K pm F g cs H → RepB X.K F g H v d → Post (rE X.K) X.K pm Wx σ F g H Q (fD d cs) → r [v] H Q) : CallD X pm Wx fv (arg1 fD) := by
  refine ⟨r, h, fun F g cs σ H vs ds Q w rs p => ?_⟩
  unfold arg1 at p
  match ds, rs, p with
  | [d], rs, p =>
    obtain ⟨v, rfl, rv⟩ := rs.one
    exact k F g cs σ H v d Q w rv p
  | [], _, p => exact p.elim
  | _ :: _ :: _, _, p => exact p.elim
theorem call2 {fv : Value} {fD : D → D → M D} {r : List V → Hp → VK → Prop} (h : CallR X fv r)
    (k : ∀ F g cs σ H v u d e Q, Wk X.K pm F g cs H → RepB X.K F g H v d → RepB X.K F g H u e → Post (rE X.K) X.K pm Wx σ F g H Q (fD d e cs) → r [v, u] H Q) : CallD X pm Wx fv (arg2 fD) := by
  refine ⟨r, h, fun F g cs σ H vs ds Q w rs p => ?_⟩
  unfold arg2 at p
  match ds, rs, p with
  | [d, e], rs, p =>
    obtain ⟨v, u, rfl, rv, ru⟩ := rs.two
    exact k F g cs σ H v u d e Q w rv ru p
  | [], _, p => exact p.elim
  | [_], _, p => exact p.elim
  | _ :: _ :: _ :: _, _, p => exact p.elim
def lenD : D → M D
  | .str x => if x.length ≤ sizeLine then pure (.int x.length) else bad
  | x => viewS x >>= fun xs => pure (.int xs.length)
theorem cd_len : CallD X pm Wx (.builtin "len") (arg1 lenD) := by
  refine call1 call_len fun F g cs σ H v d Q w r p => ?_
  have seq : Post (rE X.K) X.K pm Wx σ F g H Q ((viewS d >>= fun xs => pure (.int xs.length)) cs) → ∃ x n, [v] = [x] ∧ LenV X.K x H n ∧ Q (.int n) H := fun p => by
    obtain ⟨a, vs, xs, rfl, h, rr, p⟩ := p.viewS w r
    refine ⟨_, vs.length, rfl, ?_, by rw [rr.length]; exact p.now w (.int _)⟩
    rcases h with h | h
    · exact .inl ⟨vs, h, rfl⟩
    · exact .inr ⟨vs, h, rfl⟩
  cases d with
  | str x =>
    have p : Post (rE X.K) X.K pm Wx σ F g H Q ((if x.length ≤ sizeLine then pure (.int x.length) else bad : M D) cs) := p
    by_cases h : x.length ≤ sizeLine
    · rw [if_pos h] at p
      rw [r.str]
      exact ⟨_, _, rfl, ⟨h, rfl⟩, p.now w (.int _)⟩
    · rw [if_neg h] at p
      exact p.elim
  | _ => exact seq p
def absD : D → M D
  | .int i => pure (.int (if i < 0 then -i else i))
  | _ => bad
theorem cd_abs : CallD X pm Wx (.builtin "abs") (arg1 absD) := by
  refine call1 call_abs fun F g cs σ H v d Q w r p => ?_
  cases d with
  | int i => exact ⟨i, by rw [r.int], p.now w (.int _)⟩
  | _ => exact p.elim
def max2D (x y : D) : M D := match x, y with
  | .int i, .int j => pure (.int (if j > i then j else i))
  | _, _ => bad
def min2D (x y : D) : M D := match x, y with
  | .int i, .int j => pure (.int (if j < i then j else i))
  | _, _ => bad
theorem cd_max2 (hc : X.calm = true) : CallD X pm Wx (.builtin "max") (arg2 max2D) := by
  refine call2 (call_max2 hc) fun F g cs σ H v u d e Q w r r2 p => ?_
  cases d with
  | int i =>
    cases e with
    | int j => exact ⟨i, j, by rw [r.int, r2.int], p.now w (.int _)⟩
    | _ => exact p.elim
  | _ => exact p.elim
theorem cd_min2 (hc : X.calm = true) : CallD X pm Wx (.builtin "min") (arg2 min2D) := by
  refine call2 (call_min2 hc) fun F g cs σ H v u d e Q w r r2 p => ?_
  cases d with
  | int i =>
    cases e with
    | int j => exact ⟨i, j, by rw [r.int, r2.int], p.now w (.int _)⟩
    | _ => exact p.elim
  | _ => exact p.elim
/-- int(x) of an int, a bool, a text that is a number -/
def intD : D → M D
  | .int i => pure (.int i)
  | .bl k => pure (.int (if k then 1 else 0))
  | .str x => (match PySem.intText? x with | some n => if x.length ≤ 640 then pure (.int n) else bad | none => bad)
  | _ => bad
theorem cd_int : CallD X pm Wx (.type "int") (arg1 intD) := by
  refine call1 (call_int1.or call_int_str) fun F g cs σ H v d Q w r p => ?_
  cases d with
  | int i => exact .inl (.inl ⟨i, by rw [r.int], p.now w (.int _)⟩)
  | bl k => exact .inl (.inr ⟨k, by rw [r.bl], p.now w (.int _)⟩)
  | str x =>
    have p : Post (rE X.K) X.K pm Wx σ F g H Q ((match PySem.intText? x with | some n => if x.length ≤ 640 then pure (.int n) else bad | none => bad : M D) cs) := p
    cases e : PySem.intText? x with
    | none => rw [e] at p; exact p.elim
    | some n =>
      rw [e] at p
      have p : Post (rE X.K) X.K pm Wx σ F g H Q ((if x.length ≤ 640 then pure (.int n) else bad : M D) cs) := p
      by_cases h : x.length ≤ 640
      · rw [if_pos h] at p
        exact .inr ⟨x, n, by rw [r.str], e, h, p.now w (.int _)⟩
      · rw [if_neg h] at p
        exact p.elim
  | _ => exact p.elim
/-- str(n) -/
def strD : D → M D
  | .int i => if i.natAbs.log2 < 1920 then pure (.str (toString i)) else bad
  | _ => bad
theorem cd_str : CallD X pm Wx (.type "str") (arg1 strD) := by
  refine call1 call_str_int fun F g cs σ H v d Q w r p => ?_
  cases d with
  | int i =>
    have p : Post (rE X.K) X.K pm Wx σ F g H Q ((if i.natAbs.log2 < 1920 then pure (.str (toString i)) else bad : M D) cs) := p
    by_cases h : i.natAbs.log2 < 1920
    · rw [if_pos h] at p
      exact ⟨i, by rw [r.int], h, p.now w (.str _)⟩
    · rw [if_neg h] at p
      exact p.elim
  | _ => exact p.elim
/-- the ints of a list -/
def intsOf : List D → Option (List Int)
  | [] => some []
  | .int i :: r => (intsOf r).map fun l => i :: l
  | _ :: _ => none
theorem intsOf_eq : ∀ {xs : List D} {ns : List Int}, intsOf xs = some ns → xs = ns.map D.int
  | [], ns, h => by
    have h : some [] = some ns := h
    cases h; rfl
  | .int i :: r, ns, h => by
    simp only [intsOf, Option.map_eq_some_iff] at h
    obtain ⟨l, h, rfl⟩ := h
    rw [intsOf_eq h]; rfl
  | .non :: _, _, h => nomatch h
  | .bl _ :: _, _, h => nomatch h
  | .str _ :: _, _, h => nomatch h
  | .tup _ :: _, _, h => nomatch h
  | .lst _ :: _, _, h => nomatch h
  | .rol _ :: _, _, h => nomatch h
  | .dct _ _ :: _, _, h => nomatch h
  | .cell _ :: _, _, h => nomatch h
  | .raw _ :: _, _, h => nomatch h
theorem Reps.ints {K : PySem.W.Frag} {F : Hp} {g : List Addr} : ∀ {vs : List V} {ns : List Int}, Reps K F g vs (ns.map D.int) → vs = ns.map V.int
  | _, [], .nil => rfl
  | _, n :: ns, .cons r t => by
    cases r
    rw [Reps.ints t]; rfl
theorem Reps.strs {K : PySem.W.Frag} {F : Hp} {g : List Addr} : ∀ {vs : List V} {ns : List Str}, Reps K F g vs (ns.map D.str) → vs = ns.map V.str
  | _, [], .nil => rfl
  | _, n :: ns, .cons r t => by
    cases r
    rw [Reps.strs t]; rfl
theorem Reps.bls {K : PySem.W.Frag} {F : Hp} {g : List Addr} : ∀ {vs : List V} {ns : List Bool}, Reps K F g vs (ns.map D.bl) → vs = ns.map V.bl
  | _, [], .nil => rfl
  | _, n :: ns, .cons r t => by
    cases r
    rw [Reps.bls t]; rfl
def sumD (d : D) : M D := viewL d >>= fun xs => match intsOf xs with | some ns => pure (.int ns.sum) | none => bad
theorem cd_sum (hc : X.calm = true) : CallD X pm Wx (.builtin "sum") (arg1 sumD) := by
  refine call1 (cr_sum hc) fun F g cs σ H v d Q w r p => ?_
  obtain ⟨a, vs, xs, rfl, h, rr, p⟩ := Post.viewL p w r
  cases e : intsOf xs with
  | none => rw [e] at p; exact p.elim
  | some ns =>
    rw [e] at p
    have e2 := intsOf_eq e
    subst e2
    exact ⟨a, ns, rfl, by rw [← rr.ints]; exact SqL.of h, p.now w (.int _)⟩
def maxOf : List Int → Int
  | [] => 0
  | [x] => x
  | x :: r => max x (maxOf r)
def minOf : List Int → Int
  | [] => 0
  | [x] => x
  | x :: r => min x (minOf r)
theorem maxOf_is : ∀ {l : List Int}, l ≠ [] → maxOf l ∈ l ∧ ∀ y ∈ l, y ≤ maxOf l
  | [], h => absurd rfl h
  | [x], _ => by simp [maxOf]
  | x :: y :: r, _ => by
    obtain ⟨h1, h2⟩ := maxOf_is (l := y :: r) (by simp)
    have e : maxOf (x :: y :: r) = max x (maxOf (y :: r)) := rfl
    rw [e]
    refine ⟨?_, fun z hz => ?_⟩
    · by_cases h : x ≤ maxOf (y :: r)
      · rw [Int.max_eq_right h]; exact List.mem_cons_of_mem _ h1
      · rw [Int.max_eq_left (by omega)]; exact List.mem_cons_self
    · rcases List.mem_cons.mp hz with rfl | hz
      · omega
      · have := h2 z hz; omega
theorem minOf_is : ∀ {l : List Int}, l ≠ [] → minOf l ∈ l ∧ ∀ y ∈ l, minOf l ≤ y
  | [], h => absurd rfl h
  | [x], _ => by simp [minOf]
  | x :: y :: r, _ => by
    obtain ⟨h1, h2⟩ := minOf_is (l := y :: r) (by simp)
    have e : minOf (x :: y :: r) = min x (minOf (y :: r)) := rfl
    rw [e]
    refine ⟨?_, fun z hz => ?_⟩
    · by_cases h : x ≤ minOf (y :: r)
      · rw [Int.min_eq_left h]; exact List.mem_cons_self
      · rw [Int.min_eq_right (by omega)]; exact List.mem_cons_of_mem _ h1
    · rcases List.mem_cons.mp hz with rfl | hz
      · omega
      · have := h2 z hz; omega
def maxD (d : D) : M D := viewL d >>= fun xs => match intsOf xs with | some ns => if ns.isEmpty then bad else pure (.int (maxOf ns)) | none => bad
def minD (d : D) : M D := viewL d >>= fun xs => match intsOf xs with | some ns => if ns.isEmpty then bad else pure (.int (minOf ns)) | none => bad
theorem cd_max (hc : X.calm = true) : CallD X pm Wx (.builtin "max") (arg1 maxD) := by
  refine call1 (cr_max hc) fun F g cs σ H v d Q w r p => ?_
  obtain ⟨a, vs, xs, rfl, h, rr, p⟩ := Post.viewL p w r
  cases e : intsOf xs with
  | none => rw [e] at p; exact p.elim
  | some ns =>
    rw [e] at p
    have e2 := intsOf_eq e
    subst e2
    have p : Post (rE X.K) X.K pm Wx σ F g H Q ((if ns.isEmpty then bad else pure (.int (maxOf ns)) : M D) cs) := p
    cases ns with
    | nil => exact p.elim
    | cons n ns =>
      refine ⟨a, n :: ns, rfl, by rw [← rr.ints]; exact SqL.of h, by simp, fun m h1 h2 => ?_⟩
      obtain ⟨k1, k2⟩ := maxOf_is (l := n :: ns) (by simp)
      have em : m = maxOf (n :: ns) := Int.le_antisymm (k2 m h1) (h2 _ k1)
      rw [em]
      exact p.now w (.int _)
theorem cd_min (hc : X.calm = true) : CallD X pm Wx (.builtin "min") (arg1 minD) := by
  refine call1 (cr_min hc) fun F g cs σ H v d Q w r p => ?_
  obtain ⟨a, vs, xs, rfl, h, rr, p⟩ := Post.viewL p w r
  cases e : intsOf xs with
  | none => rw [e] at p; exact p.elim
  | some ns =>
    rw [e] at p
    have e2 := intsOf_eq e
    subst e2
    have p : Post (rE X.K) X.K pm Wx σ F g H Q ((if ns.isEmpty then bad else pure (.int (minOf ns)) : M D) cs) := p
    cases ns with
    | nil => exact p.elim
    | cons n ns =>
      refine ⟨a, n :: ns, rfl, by rw [← rr.ints]; exact SqL.of h, by simp, fun m h1 h2 => ?_⟩
      obtain ⟨k1, k2⟩ := minOf_is (l := n :: ns) (by simp)
      have em : m = minOf (n :: ns) := Int.le_antisymm (h2 _ k1) (k2 m h1)
      rw [em]
      exact p.now w (.int _)
/-- list(x), tuple(x) -/
def listD (d : D) : M D := viewS d >>= mkLst
theorem cd_list : CallD X pm Wx (.type "list") (arg1 listD) := by
  refine call1 call_list_of fun F g cs σ H v d Q w r p => ?_
  obtain ⟨a, vs, xs, rfl, h, rr, p⟩ := Post.viewS p w r
  exact ⟨a, vs, rfl, h, (p.lst w rr).2⟩
def tupD (d : D) : M D := match d with
  | .tup xs => pure (.tup xs)
  | d => viewL d >>= mkTup
theorem cd_tuple : CallD X pm Wx (.type "tuple") (arg1 tupD) := by
  refine call1 call_tuple_of fun F g cs σ H v d Q w r p => ?_
  have seq : Post (rE X.K) X.K pm Wx σ F g H Q ((viewL d >>= mkTup) cs) → ∃ p ys, [v] = [.ref p] ∧ ((SqL X.K H p ys ∧ ∀ l, H l = none → Q (.ref l) (upd H l (.tup ys))) ∨ (SqT X.K H p ys ∧ Q (.ref p) H)) := fun p => by
    obtain ⟨a, vs, xs, rfl, h, rr, p⟩ := p.viewL w r
    exact ⟨a, vs, rfl, .inl ⟨SqL.of h, (p.tup w rr).2⟩⟩
  cases d with
  | tup xs =>
    obtain ⟨a, vs, e, h, rr⟩ := r.tup w
    have rt : Rep X.K F g v (.tup xs) := by
      rcases r with r | ⟨_, _, _, _, e, _⟩
      · exact r
      · cases e
    refine ⟨a, vs, by rw [e], .inr ⟨h, ?_⟩⟩
    rw [← e]
    exact Post.now p w rt
  | _ => exact seq p
/-! ### isinstance -/
def tyName : D → Option String
  | .non => some "NoneType"
  | .bl _ => some "bool"
  | .int _ => some "int"
  | .str _ => some "str"
  | .tup _ => some "tuple"
  | .lst _ => some "list"
  | .dct _ _ => some "dict"
  | _ => none
theorem RepB.tyX {K : PySem.W.Frag} {F : Hp} {g : List Addr} {cs : CS} {H : Hp} {v : V} {d : D} {T : String} (r : RepB K F g H v d) (w : Wk K pm F g cs H) (e : tyName d = some T) : TyX K H v (.type T) := by
  cases d with
  | non => cases e; rw [r.non]; exact .base .non
  | bl b => cases e; rw [r.bl]; exact .base (.bl b)
  | int i => cases e; rw [r.int]; exact .base (.int i)
  | str x => cases e; rw [r.str]; exact .base (.str x)
  | tup xs =>
    cases e
    obtain ⟨a, vs, e, h, _⟩ := r.tup w
    rw [e]
    rcases h with (h | ⟨o, h⟩) | ⟨o, its, n, h, hc, _⟩
    · exact .base (.tup h)
    · exact .fTuple h
    · exact .kTuple h hc
  | lst xs =>
    cases e
    obtain ⟨a, vs, e, h, _⟩ := r.lst w
    rw [e]
    exact .base (.lst h)
  | dct ks xs =>
    cases e
    obtain ⟨a, vs, e, h, _⟩ := r.dct w
    rw [e]
    exact .base (.dK h)
  | rol xs => cases e
  | cell k => cases e
  | raw u => cases e
def isTy (C : String) (T : String) : Bool := T == C || (T == "bool" && C == "int")
/-- isinstance(x, C), C a built-in class -/
def isiD (C : String) (d : D) : M D := match tyName d with
  | some T => pure (.bl (isTy C T))
  | none => bad
def isiTab (C : String) : Bool := ["NoneType", "bool", "int", "str", "tuple", "list", "dict"].all fun T => decide (kitB T C = some (isTy C T))
theorem isi_tab {C : String} (h : isiTab C = true) {d : D} {T : String} (e : tyName d = some T) : kitB T C = some (isTy C T) := by
  have h1 := List.all_eq_true.mp h
  cases d <;> first | (cases e; exact of_decide_eq_true (h1 _ (by simp))) | cases e
theorem de_isi {y : Str} {C : String} {p p2 : Pos} (ha : DB X pm Wx a fa) (ht : isiTab C = true) (hg : Gl X "isinstance") (hm : X.mg "isinstance" = none) (hg2 : Gl X y) (hm2 : X.mg y = none) (hv2 : bootBuiltins y = some (.type C))
    (hn : y ≠ "__name__" := by decide) (hdb : (y == ("__debug__" : Str)) = false := by decide) (hvi : bootBuiltins "isinstance" = some (.builtin "isinstance") := by decide +kernel)
    (he : starEach [a, .Name y p2] X.env = (false, eval a X.env) :: starEach [.Name y p2] X.env := by rfl) (hpl : (backTo pos (starEach [.Name y p2] X.env)).any (·.1) = false := by rfl)
    (hs1 : starEach [Expr.Name y p2] X.env = (false, eval (.Name y p2) X.env) :: starEach [] X.env := by rfl) :
    DE X pm Wx (.Call (.Name "isinstance" p) [a, .Name y p2] [] pos) (fun env => fa env >>= isiD C) := by
  obtain ⟨t, p1, q⟩ := ha.ex
  refine ⟨_, pe_callB call_isi hg hm hvi (pa_cons p1 (pa_cons (pe_bltn (v := .ty C) hg2 hm2 hv2 rfl hn hdb) pa_nil hs1) he) (by decide) (by decide) he hpl, fun F g H0 env cs σ H Q w s z => ?_⟩
  refine q F g H0 env cs σ H _ w s (Post.bind (rel2 := rE X.K) z fun d cs1 v H1 F1 g1 w1 x1 r1 z1 => ?_)
  unfold isiD at z1
  cases e : tyName d with
  | none => rw [e] at z1; exact z1.elim
  | some T =>
    rw [e] at z1
    exact ⟨v, .ty C, .type T, .type C, _, rfl, .ty C, r1.tyX w1 e, kit_ty (isi_tab ht e), z1.now w1 (.bl _)⟩
/-! ### in -/
def flatD : D → Bool
  | .non => true
  | .bl _ => true
  | .int _ => true
  | .str _ => true
  | _ => false
def flatEq : D → D → Bool
  | .non, .non => true
  | .bl a, .bl b => a == b
  | .bl a, .int b => (if a then 1 else 0) == b
  | .int a, .bl b => a == (if b then 1 else 0)
  | .int a, .int b => a == b
  | .str a, .str b => a == b
  | _, _ => false
theorem Rep.flat {K : PySem.W.Frag} {F : Hp} {g : List Addr} {v : V} {d : D} (r : Rep K F g v d) (h : flatD d = true) : flatV v = true := by
  cases d with
  | non => cases r; rfl
  | bl b => cases r; rfl
  | int b => cases r; rfl
  | str b => cases r; rfl
  | _ => cases h
theorem Rep.flatEq {K : PySem.W.Frag} {F : Hp} {g : List Addr} {v u : V} {d e : D} (r : Rep K F g v d) (r2 : Rep K F g u e) (h : flatD d = true) (h2 : flatD e = true) : eqV v u = Dn.flatEq d e := by
  cases d with
  | non => cases r; cases e <;> first | (cases r2; rfl) | cases h2
  | bl b => cases r; cases e <;> first | (cases r2; rfl) | cases h2
  | int b => cases r; cases e <;> first | (cases r2; rfl) | cases h2
  | str b => cases r; cases e <;> first | (cases r2; rfl) | cases h2
  | _ => cases h
theorem Reps.flatAny {K : PySem.W.Frag} {F : Hp} {g : List Addr} {u : V} {e : D} (r2 : Rep K F g u e) (h2 : flatD e = true) : ∀ {vs : List V} {ds : List D}, Reps K F g vs ds → ds.all flatD = true → vs.all flatV = true ∧ inV u vs = ds.any fun d => Dn.flatEq d e
  | _, _, .nil, _ => ⟨rfl, rfl⟩
  | v :: vs, d :: ds, .cons r t, h => by
    rw [List.all_cons, Bool.and_eq_true] at h
    obtain ⟨a, b⟩ := Reps.flatAny r2 h2 t h.2
    refine ⟨by rw [List.all_cons, r.flat h.1, a]; rfl, ?_⟩
    have b' : (vs.any fun y => eqV y u) = ds.any fun d => Dn.flatEq d e := b
    show ((v :: vs).any fun y => eqV y u) = _
    rw [List.any_cons, List.any_cons, r.flatEq r2 h.1 h2, b']
/-- x in y: a sign in a text, flat data in a list or tuple; data in a list -/
def inD (neg : Bool) (x y : D) : M D := match y with
  | .str z => (match x with
    | .str c => if c.cps.size = 1 then pure (.bl (if neg then !decide (c.cps.getD 0 0 ∈ z.cps.toList) else decide (c.cps.getD 0 0 ∈ z.cps.toList))) else bad
    | _ => bad)
  | y => if flatD x then (viewS y >>= fun xs => if xs.all flatD then pure (.bl (if neg then !(xs.any fun d => flatEq d x) else xs.any fun d => flatEq d x)) else bad)
    else (viewL y >>= fun xs => match pyOf x, pyAll xs with
      | some p, some ps => if SeqAt.shaped p && SeqAt.shaped (.list ps) then pure (.bl (if neg then !(ps.any fun z => PyData.eqv z p) else ps.any fun z => PyData.eqv z p)) else bad
      | _, _ => bad)
mutual
theorem Rep.dp {K : PySem.W.Frag} {F : Hp} {g : List Addr} {H : Hp} (le : Le F H) : ∀ (d : D) (p : PyData) (v : V), pyOf d = some p → p.canLay0 = true → Rep K F g v d → Dp K H v p
  | .non, p, v, e, _, r => by simp only [pyOf] at e; cases e; cases r; exact .non
  | .bl b, p, v, e, _, r => by simp only [pyOf] at e; cases e; cases r; exact .bl b
  | .int b, p, v, e, _, r => by simp only [pyOf] at e; cases e; cases r; exact .int b
  | .str b, p, v, e, _, r => by simp only [pyOf] at e; cases e; cases r; exact .str b
  | .tup xs, p, v, e, l, r => by
    simp only [pyOf, Option.map_eq_some_iff] at e
    obtain ⟨ps, e, rfl⟩ := e
    cases r with
    | tup h r => exact .tup (le.seqT h) (Reps.dp le xs ps _ e (by simpa only [PyData.canLay0] using l) r)
  | .lst xs, p, v, e, l, r => by
    simp only [pyOf, Option.map_eq_some_iff] at e
    obtain ⟨ps, e, rfl⟩ := e
    cases r with
    | lst h r => exact .lst (SqL.of (le _ _ h)) (Reps.dp le xs ps _ e (by simpa only [PyData.canLay0] using l) r)
  | .dct ks vs, p, v, e, l, r => by
    simp only [pyOf, Option.map_eq_some_iff] at e
    obtain ⟨ps, e, rfl⟩ := e
    simp only [PyData.canLay0] at l
    cases l
  | .rol _, _, _, e, _, _ => by simp [pyOf] at e
  | .cell _, _, _, e, _, _ => by simp [pyOf] at e
  | .raw _, _, _, e, _, _ => by simp [pyOf] at e
theorem Reps.dp {K : PySem.W.Frag} {F : Hp} {g : List Addr} {H : Hp} (le : Le F H) : ∀ (ds : List D) (ps : List PyData) (vs : List V), pyAll ds = some ps → PyData.canLayAll0 ps = true → Reps K F g vs ds → DpAll K H vs ps
  | [], ps, vs, e, _, r => by simp only [pyAll] at e; cases e; cases r; exact .nil
  | d :: ds, ps, vs, e, l, r => by
    simp only [pyAll, Option.bind_eq_some_iff, Option.map_eq_some_iff] at e
    obtain ⟨p, e1, qs, e2, rfl⟩ := e
    simp only [PyData.canLayAll0, Bool.and_eq_true] at l
    cases r with
    | cons r1 r2 => exact .cons (Rep.dp le d p _ e1 l.1 r1) (Reps.dp le ds qs _ e2 l.2 r2)
end
theorem RepB.flatRep {K : PySem.W.Frag} {F : Hp} {g : List Addr} {H : Hp} {v : V} {d : D} (r : RepB K F g H v d) (h : ∀ xs, d ≠ .lst xs) : Rep K F g v d := by
  rcases r with r | ⟨_, _, ds, _, e, _⟩
  · exact r
  · exact absurd e (h ds)
theorem in_parts (neg : Bool) {F : Hp} {g : List Addr} {cs : CS} {σ : St} {H : Hp} {x y : V} {dx dy : D} {Q : VK} (w : Wk X.K pm F g cs H) (rx : RepB X.K F g H x dx) (ry : RepB X.K F g H y dy) (p : Post (rE X.K) X.K pm Wx σ F g H Q (inD neg dx dy cs)) :
    (∃ (c : Nat) (z : Str), x = .str ⟨#[c]⟩ ∧ y = .str z ∧ Q (.bl (if neg then !decide (c ∈ z.cps.toList) else decide (c ∈ z.cps.toList))) H) ∨ rIn X.K neg x y H Q ∨
      (∃ d ds, Dp X.K H x d ∧ Dp X.K H y (.list ds) ∧ SeqAt.shaped d = true ∧ SeqAt.shaped (.list ds) = true ∧ Q (.bl (if neg then !(ds.any fun z => PyData.eqv z d) else ds.any fun z => PyData.eqv z d)) H) := by
  have seq : (Post (rE X.K) X.K pm Wx σ F g H Q ((if flatD dx then (viewS dy >>= fun xs => if xs.all flatD then pure (.bl (if neg then !(xs.any fun d => flatEq d dx) else xs.any fun d => flatEq d dx)) else bad)
    else (viewL dy >>= fun xs => match pyOf dx, pyAll xs with
      | some p, some ps => if SeqAt.shaped p && SeqAt.shaped (.list ps) then pure (.bl (if neg then !(ps.any fun z => PyData.eqv z p) else ps.any fun z => PyData.eqv z p)) else bad
      | _, _ => bad) : M D) cs)) → rIn X.K neg x y H Q ∨
      (∃ d ds, Dp X.K H x d ∧ Dp X.K H y (.list ds) ∧ SeqAt.shaped d = true ∧ SeqAt.shaped (.list ds) = true ∧ Q (.bl (if neg then !(ds.any fun z => PyData.eqv z d) else ds.any fun z => PyData.eqv z d)) H) := fun p => by
    by_cases hf : flatD dx = true
    · rw [if_pos hf] at p
      have rx' : Rep X.K F g x dx := rx.flatRep fun xs e => by subst e; cases hf
      obtain ⟨a, vs, xs, e, h, rr, p⟩ := p.viewS w ry
      by_cases ha : xs.all flatD = true
      · rw [if_pos ha] at p
        obtain ⟨h1, h2⟩ := Reps.flatAny rx' hf rr ha
        refine .inl ⟨a, vs, e, h, rx'.flat hf, h1, ?_⟩
        rw [h2]
        exact p.now w (.bl _)
      · rw [if_neg ha] at p
        exact p.elim
    · rw [if_neg hf] at p
      obtain ⟨a, vs, xs, e, h, rr, p⟩ := p.viewL w ry
      cases e1 : pyOf dx with
      | none => rw [e1] at p; exact p.elim
      | some q =>
        cases e2 : pyAll xs with
        | none => rw [e1, e2] at p; exact p.elim
        | some qs =>
          rw [e1, e2] at p
          have p : Post (rE X.K) X.K pm Wx σ F g H Q ((if SeqAt.shaped q && SeqAt.shaped (.list qs) then pure (.bl (if neg then !(qs.any fun z => PyData.eqv z q) else qs.any fun z => PyData.eqv z q)) else bad : M D) cs) := p
          by_cases hs : (SeqAt.shaped q && SeqAt.shaped (.list qs)) = true
          · rw [if_pos hs] at p
            obtain ⟨s1, s2⟩ := Bool.and_eq_true_iff.mp hs
            have c1 := SeqAt.canLay_of_shaped s1
            have c2 := SeqAt.canLay_of_shaped s2
            simp only [PyData.canLay0] at c2
            refine .inr ⟨q, qs, ?_, ?_, s1, s2, p.now w (.bl _)⟩
            · rcases rx with r | ⟨b, us, ds, rfl, rfl, hb, r, _⟩
              · exact r.dp w.sub _ _ _ e1 c1
              · simp only [pyOf, Option.map_eq_some_iff] at e1
                obtain ⟨ps, e1, rfl⟩ := e1
                simp only [PyData.canLay0] at c1
                exact .lst (SqL.of hb) (Reps.dp w.sub _ _ _ e1 c1 r)
            · rw [e]
              exact .lst (SqL.of h) (Reps.dp w.sub _ _ _ e2 c2 rr)
          · rw [if_neg hs] at p
            exact p.elim
  cases dy with
  | str z =>
    cases dx with
    | str c =>
      have p : Post (rE X.K) X.K pm Wx σ F g H Q ((if c.cps.size = 1 then pure (.bl (if neg then !decide (c.cps.getD 0 0 ∈ z.cps.toList) else decide (c.cps.getD 0 0 ∈ z.cps.toList))) else bad : M D) cs) := p
      by_cases h : c.cps.size = 1
      · rw [if_pos h] at p
        obtain ⟨cps⟩ := c
        obtain ⟨l⟩ := cps
        match l, h, p with
        | [n], h, p => exact .inl ⟨n, z, rx.str, ry.str, p.now w (.bl _)⟩
        | [], h, _ => simp at h
        | _ :: _ :: _, h, _ => simp at h
      · rw [if_neg h] at p
        exact p.elim
    | _ => exact p.elim
  | _ => exact .inr (seq p)
theorem od_in (hu : X.A.units + 65 < cLine) : OpD X pm Wx (compareOp .In) (inD false) := by
  refine opD_mk (op_in_sign.or (op_in_seq.or (op_inD hu))) fun F g cs σ H x y dx dy Q w rx ry p => ?_
  rcases in_parts false w rx ry p with h | h | h
  · exact .inl h
  · exact .inr (.inl h)
  · exact .inr (.inr h)
theorem od_notIn (hu : X.A.units + 65 < cLine) : OpD X pm Wx (compareOp .NotIn) (inD true) := by
  refine opD_mk (op_notIn_sign.or (op_notIn_seq.or (op_notInD hu))) fun F g cs σ H x y dx dy Q w rx ry p => ?_
  rcases in_parts true w rx ry p with h | h | h
  · exact .inl h
  · exact .inr (.inl h)
  · exact .inr (.inr h)
/-! ### repr -/
def reprOk (p : PyData) : Bool := p.showable && (decide (p.shown.length ≤ sizeLine) && decide (p.depth ≤ 60))
def reprD (d : D) : M D := deref d >>= fun d => match pyOf d with
  | some p => if reprOk p then pure (.str p.shown) else bad
  | none => bad
theorem cd_repr (hg : X.A.guards = some []) (hu : X.A.units + 64 < cLine) (hm : KnowsM X.K) : CallD X pm Wx (.builtin "repr") (arg1 reprD) := by
  refine call1 (r := fun xs H Q => ∃ F g v d p, xs = [v] ∧ Le F H ∧ RepD X.K F g H v d ∧ pyOf d = some p ∧ reprOk p = true ∧ Q (.str p.shown) H) ?_ ?_
  · intro pins s σ H xs us Q I r ⟨F, g, v, d, p, e, le, rd, ep, ok, q⟩
    subst e
    obtain ⟨u, rfl, ru⟩ := vals1 r
    obtain ⟨as, rr, hn⟩ := rd.reads I le (Inv.noM I hm) ep ru
    unfold reprOk at ok
    simp only [Bool.and_eq_true, decide_eq_true_eq] at ok
    obtain ⟨o1, o2, o3⟩ := ok
    have fin : ∀ h' u tk, (∀ b o, s.heap.get? b = some o → h'.get? b = some o) → EP X pins σ Q (.str p.shown u) { s with heap := h', toks := tk } := fun h' u tk hk => ⟨.str _, H, I.kept hk, ⟨u, rfl⟩, q⟩
    have big : ∀ a, u = .ref a → wpAny (model X.prog X.w) X.A (call (.builtin "repr") [u]) (EP X pins σ Q) X.xe s := fun a e => by
      subst e
      exact repr_of_reads' rr o1 (fun _ => hn) hg (by omega) (fun _ _ e => e) fin o2
    cases rr with
    | none => exact PySem.P.repr_of_none (fin s.heap _ _ fun _ _ e => e)
    | bool b => exact PySem.P.repr_of_bool (by have := fin s.heap s.toks (s.toks + 1) fun _ _ e => e; cases b <;> exact this)
    | int i t => exact PySem.P.repr_of_int (by simpa [PyData.showable] using o1) (fin s.heap _ _ fun _ _ e => e)
    | str x t => exact PySem.P.repr_of_str (fin s.heap _ _ fun _ _ e => e) (by simpa only [PyData.shown] using o2)
    | list => exact big _ rfl
    | tuple => exact big _ rfl
    | dict => exact big _ rfl
  · intro F g cs σ H v d Q w r p
    obtain ⟨d', rd, p⟩ := Post.deref p w r
    cases e : pyOf d' with
    | none => rw [e] at p; exact p.elim
    | some q =>
      rw [e] at p
      have p : Post (rE X.K) X.K pm Wx σ F g H Q ((if reprOk q then pure (.str q.shown) else bad : M D) cs) := p
      by_cases h : reprOk q = true
      · rw [if_pos h] at p
        exact ⟨F, g, v, d', q, rfl, w.sub, rd, e, h, p.now w (.str _)⟩
      · rw [if_neg h] at p
        exact p.elim
/-! ### texts' methods -/
def strsOf : List D → Option (List Str)
  | [] => some []
  | .str i :: r => (strsOf r).map fun l => i :: l
  | _ :: _ => none
theorem strsOf_eq : ∀ {xs : List D} {ns : List Str}, strsOf xs = some ns → xs = ns.map D.str
  | [], ns, h => by
    have h : some [] = some ns := h
    cases h; rfl
  | .str i :: r, ns, h => by
    simp only [strsOf, Option.map_eq_some_iff] at h
    obtain ⟨l, h, rfl⟩ := h
    rw [strsOf_eq h]; rfl
  | .non :: _, _, h => nomatch h
  | .bl _ :: _, _, h => nomatch h
  | .int _ :: _, _, h => nomatch h
  | .tup _ :: _, _, h => nomatch h
  | .lst _ :: _, _, h => nomatch h
  | .rol _ :: _, _, h => nomatch h
  | .dct _ _ :: _, _, h => nomatch h
  | .cell _ :: _, _, h => nomatch h
  | .raw _ :: _, _, h => nomatch h
def strOnly : D → M Str
  | .str x => pure x
  | _ => bad
theorem reps_strs {K : PySem.W.Frag} {F : Hp} {g : List Addr} : ∀ (ns : List Str), Reps K F g (ns.map V.str) (ns.map D.str)
  | [] => .nil
  | n :: ns => .cons (.str n) (reps_strs ns)
/-- x.m(y), x a text -/
def strOp (fD : Str → D → M D) (fo fa : DEnv → M D) : DEnv → M D := fun env => fo env >>= fun d => strOnly d >>= fun x => fa env >>= fun y => fD x y
theorem m1_ok {fD : Str → D → M D} {t u : TE} {r : V → List V → Hp → VK → Prop} (q : ∀ F g H0 env cs σ H Q, Wk X.K pm F g cs H → Slots Wx.hx X.K F g H0 env σ H → Post (rB X.K) X.K pm Wx σ F g H Q (fo env cs) → t σ H Q)
    (q2 : ∀ F g H0 env cs σ H Q, Wk X.K pm F g cs H → Slots Wx.hx X.K F g H0 env σ H → Post (rB X.K) X.K pm Wx σ F g H Q (fa env cs) → u σ H Q)
    (k : ∀ F g cs σ H x y dy Q, Wk X.K pm F g cs H → RepB X.K F g H y dy → Post (rE X.K) X.K pm Wx σ F g H Q (fD x dy cs) → r (.str x) [y] H Q) :
    ∀ F g H0 env cs σ H Q, Wk X.K pm F g cs H → Slots Wx.hx X.K F g H0 env σ H → Post (rE X.K) X.K pm Wx σ F g H Q (strOp fD fo fa env cs) → tM1 r t u σ H Q := by
  intro F g H0 env cs σ H Q w s z
  refine q F g H0 env cs σ H _ w s (Post.bind (rel2 := rE X.K) z fun d cs1 v H1 F1 g1 w1 x1 r1 z1 => ?_)
  cases d with
  | str x =>
    have e := r1.str
    subst e
    have z1 : Post (rE X.K) X.K pm Wx σ F1 g1 H1 Q ((fa env >>= fun y => fD x y) cs1) := z1
    refine ⟨⟨x, rfl⟩, q2 F1 g1 H0 env cs1 σ H1 _ w1 (s.next x1) (Post.bind (rel2 := rE X.K) z1 fun d2 cs2 v2 H2 F2 g2 w2 x2 r2 z2 => ?_)⟩
    exact k F2 g2 cs2 σ H2 x v2 d2 Q w2 r2 z2
  | _ => exact z1.elim
def splitD (a : Str) (y : D) : M D := match y with
  | .str b => if (b.length == 0) = false ∧ a.length + 2 ≤ sizeLine then pure (.lst ((Txt.split a b).map .str)) else bad
  | _ => bad
theorem de_split {apos : Pos} (ho : DB X pm Wx o fo) (he : DB X pm Wx e fa) (hs : starEach [e] X.env = [(false, eval e X.env)] := by rfl) (hbase : attributeBase o "split" X.env (eval o X.env) = eval o X.env := by rfl) (hline : (apos.endLine == pos.line) = true := by rfl) :
    DE X pm Wx (.Call (.Attribute o "split" apos) [e] [] pos) (strOp splitD fo fa) := by
  obtain ⟨t, p, q⟩ := ho.ex
  obtain ⟨u, p2, q2⟩ := he.ex
  refine ⟨_, pe_split p p2 hs hbase hline, m1_ok q q2 fun F g cs σ H x y dy Q w r p => ?_⟩
  cases dy with
  | str b =>
    have p : Post (rE X.K) X.K pm Wx σ F g H Q ((if (b.length == 0) = false ∧ x.length + 2 ≤ sizeLine then pure (.lst ((Txt.split x b).map .str)) else bad : M D) cs) := p
    by_cases h : (b.length == 0) = false ∧ x.length + 2 ≤ sizeLine
    · rw [if_pos h] at p
      refine ⟨x, b, rfl, by rw [r.str], h.1, h.2, fun a ha => ?_⟩
      obtain ⟨w1, x1⟩ := w.alloc (o := .lst ((Txt.split x b).map V.str)) ha
      exact p.at w1 x1 (.lst upd_same (reps_strs _))
    · rw [if_neg h] at p
      exact p.elim
  | _ => exact p.elim
def joinD (a : Str) (y : D) : M D := viewS y >>= fun xs => match strsOf xs with
  | some ys => if (ys.map (·.length)).sum + ys.length * a.length ≤ 16777216 then pure (.str (Txt.join a ys)) else bad
  | none => bad
theorem de_join {apos : Pos} (ho : DB X pm Wx o fo) (he : DB X pm Wx e fa) (hs : starEach [e] X.env = [(false, eval e X.env)] := by rfl) (hbase : attributeBase o "join" X.env (eval o X.env) = eval o X.env := by rfl) (hline : (apos.endLine == pos.line) = true := by rfl) :
    DE X pm Wx (.Call (.Attribute o "join" apos) [e] [] pos) (strOp joinD fo fa) := by
  obtain ⟨t, p, q⟩ := ho.ex
  obtain ⟨u, p2, q2⟩ := he.ex
  refine ⟨_, pe_join p p2 hs hbase hline, m1_ok q q2 fun F g cs σ H x y dy Q w r p => ?_⟩
  obtain ⟨a, vs, xs, e1, h, rr, p⟩ := Post.viewS p w r
  cases e : strsOf xs with
  | none => rw [e] at p; exact p.elim
  | some ys =>
    rw [e] at p
    have e2 := strsOf_eq e
    subst e2
    have p : Post (rE X.K) X.K pm Wx σ F g H Q ((if (ys.map (·.length)).sum + ys.length * x.length ≤ 16777216 then pure (.str (Txt.join x ys)) else bad : M D) cs) := p
    by_cases h2 : (ys.map (·.length)).sum + ys.length * x.length ≤ 16777216
    · rw [if_pos h2] at p
      exact ⟨x, a, ys, rfl, by rw [e1], by rw [← rr.strs]; exact h, h2, p.now w (.str _)⟩
    · rw [if_neg h2] at p
      exact p.elim
end
end Dn

end
set_option maxHeartbeats 4000000
section
namespace Dn
open PySem PySem.Spec L2
open PyProof.Rows hiding St

/-! ### statements -/
inductive Fl where
  | nx | rt (d : D) | bk | ct
inductive SRes where
  | ok (f : Fl) (env : DEnv) (cs : CS) | err (e : Exn) (env : DEnv) (cs : CS) | bad
abbrev SD := DEnv → CS → SRes
/-- an expression's end, within a statement -/
def thenS {α : Type} (m : M α) (env : DEnv) (k : α → SD) (cs : CS) : SRes := match m cs with
  | .ok a cs' => k a env cs'
  | .err e cs' => .err e env cs'
  | .bad => .bad
def goS (f : DEnv → DEnv) : SD := fun env cs => .ok .nx (f env) cs
def badS : SD := fun _ _ => .bad
/-- the frozen heap at the call, and a later point that is to be kept in sight -/
structure B0 where
  F : Hp
  Fc : Hp
  gc : List Addr
structure RS (hx : HX) (K : PySem.W.Frag) (pm : Bool) (F0 : B0) (g0 : List Addr) (H0 : Hp) (F : Hp) (g : List Addr) (env : DEnv) (cs : CS) (σ : St) (H : Hp) : Prop where
  w : Wk K pm F g cs H
  s : Slots hx K F g H0 env σ H
  n : Nx pm F0.F g0 H0 F g H
  c : Le F0.Fc F ∧ Pre F0.gc g
def PostS (K : PySem.W.Frag) (pm : Bool) (F0 : B0) (g0 : List Addr) (H0 : Hp) (Wx : WZ) (Dd : Ends) : SRes → Prop
  | .ok .nx env cs => ∀ σ H F g, RS Wx.hx K pm F0 g0 H0 F g env cs σ H → Dd.nx σ H
  | .ok .bk env cs => ∀ σ H F g, RS Wx.hx K pm F0 g0 H0 F g env cs σ H → Dd.bk σ H
  | .ok .ct env cs => ∀ σ H F g, RS Wx.hx K pm F0 g0 H0 F g env cs σ H → Dd.ct σ H
  | .ok (.rt d) env cs => ∀ v H F g, Wk K pm F g cs H → Nx pm F0.F g0 H0 F g H → Rep K F g v d → Dd.rt v H
  | .err e env cs => ∀ cls dx σ H F g, RS Wx.hx K pm F0 g0 H0 F g env cs σ H → ExnAt K F g e cls dx → Wx.W cls dx σ H
  | .bad => False
section
variable (X : Cx) (pm : Bool) (Wx : WZ)
structure DS (st : Stmt) (f : SD) : Prop where
  ex : ∃ t, PS X st t ∧ ∀ F0 g0 H0 F g env cs σ H Dd, RS Wx.hx X.K pm F0 g0 H0 F g env cs σ H → PostS X.K pm F0 g0 H0 Wx Dd (f env cs) → t Dd σ H
structure DSs (st : List Stmt) (f : SD) : Prop where
  ex : ∃ t, PSs X st t ∧ ∀ F0 g0 H0 F g env cs σ H Dd, RS Wx.hx X.K pm F0 g0 H0 F g env cs σ H → PostS X.K pm F0 g0 H0 Wx Dd (f env cs) → t Dd σ H
end
section
variable {X : Cx} {pm : Bool} {Wx : WZ} {K : PySem.W.Frag} {F0 : B0} {F F1 : Hp} {g0 g g1 : List Addr} {H0 H H1 : Hp} {env : DEnv} {cs cs1 : CS} {σ : St} {Dd : Ends}
theorem RS.next (r : RS Wx.hx K pm F0 g0 H0 F g env cs σ H) (w : Wk K pm F1 g1 cs1 H1) (x : Nx pm F g H F1 g1 H1) : RS Wx.hx K pm F0 g0 H0 F1 g1 env cs1 σ H1 := ⟨w, r.s.next x, r.n.trans x, r.c.1.trans x.lf, r.c.2.trans x.lg⟩
/-- an expression within a statement: what is asked of it -/
theorem PostS.expr {α β : Type} {rel : Rel α β} {m : M α} {k : α → SD} {Q : β → Hp → Prop} (r : RS Wx.hx K pm F0 g0 H0 F g env cs σ H) (p : PostS K pm F0 g0 H0 Wx Dd (thenS m env k cs))
    (h : ∀ a cs1 v H1 F1 g1, RS Wx.hx K pm F0 g0 H0 F1 g1 env cs1 σ H1 → Nx pm F g H F1 g1 H1 → rel F1 g1 H1 v a → PostS K pm F0 g0 H0 Wx Dd (k a env cs1) → Q v H1) : Post rel K pm Wx σ F g H Q (m cs) := by
  unfold thenS at p
  cases e : m cs with
  | ok a cs1 =>
    rw [e] at p
    exact fun v H1 F1 g1 w x rr => h a cs1 v H1 F1 g1 (r.next w x) x rr p
  | err e' cs1 =>
    rw [e] at p
    exact fun cls dx H1 F1 g1 w x ea => p cls dx σ H1 F1 g1 (r.next w x) ea
  | bad =>
    rw [e] at p
    exact p
/-! ### blocks -/
def seqS (f g : SD) : SD := fun env cs => match f env cs with
  | .ok .nx env' cs' => g env' cs'
  | r => r
def skipS : SD := fun env cs => .ok .nx env cs
theorem dss_nil : DSs X pm Wx [] skipS := ⟨_, pss_nil, fun F0 g0 H0 F g env cs σ H Dd r p => p σ H F g r⟩
theorem dss_one {st : Stmt} {f : SD} (h : DS X pm Wx st f) : DSs X pm Wx [st] f := by
  obtain ⟨t, p, q⟩ := h.ex
  exact ⟨t, pss_one p, q⟩
theorem dss_cons {st : Stmt} {rest : List Stmt} {f k : SD} (h1 : DS X pm Wx st f) (h2 : DSs X pm Wx rest k) : DSs X pm Wx (st :: rest) (seqS f k) := by
  obtain ⟨t, p, q⟩ := h1.ex
  obtain ⟨u, p2, q2⟩ := h2.ex
  refine ⟨_, pss_cons p p2, fun F0 g0 H0 F g env cs σ H Dd r z => ?_⟩
  refine q F0 g0 H0 F g env cs σ H _ r ?_
  unfold seqS at z
  cases e : f env cs with
  | ok fl env' cs' =>
    rw [e] at z
    cases fl with
    | nx => exact fun σ' H' F' g' r' => q2 F0 g0 H0 F' g' env' cs' σ' H' Dd r' z
    | rt d => exact z
    | bk => exact z
    | ct => exact z
  | err x env' cs' => rw [e] at z; exact z
  | bad => rw [e] at z; exact z
/-- what is never come to -/
theorem dss_never {sts : List Stmt} : DSs X pm Wx sts badS := ⟨_, pss_never, fun _ _ _ _ _ _ _ _ _ _ _ p => p⟩
theorem ds_never {st : Stmt} : DS X pm Wx st badS := ⟨_, ps_never, fun _ _ _ _ _ _ _ _ _ _ _ p => p⟩
/-- a list of one's own is given away -/
def frzS (i : Nat) : SD := fun env cs => match env[i]? with
  | some (some (.own xs)) => .ok .nx (env.set i (some (.sh (.lst xs)))) cs
  | _ => .ok .nx env cs
theorem Wk.freeze {a : Addr} {vs : List V} (w : Wk K pm F g cs H) (q : H a = some (.lst vs)) (n1 : F a = none) (n2 : a ∉ g) : Wk K pm (upd F a (.lst vs)) g cs H := by
  have le : Le F (upd F a (.lst vs)) := upd_le n1
  refine ⟨fun b o h => ?_, fun b hb => ?_, w.gnd, w.gH, w.mode, fun l hl => ?_⟩
  · by_cases z : b = a
    · subst z; rw [upd_same] at h; cases h; exact q
    · rw [upd_ne z] at h; exact w.sub b o h
  · have z : b ≠ a := fun z => by subst z; exact n2 hb
    rw [upd_ne z]; exact w.gF b hb
  · obtain ⟨h1, h2⟩ := w.cl l hl
    exact ⟨h1, fun k c b e1 e2 => (h2 k c b e1 e2).grow le (.refl _) fun _ h => h⟩
theorem Nx.freeze {Fi : Hp} {gi : List Addr} {Hi : Hp} {a : Addr} {vs : List V} (x : Nx pm Fi gi Hi F g H) (n1 : F a = none) (n3 : Hi a = none) : Nx pm Fi gi Hi (upd F a (.lst vs)) g H := by
  refine ⟨x.lf.trans (upd_le n1), x.lg, fun b o hb => ?_, x.kp, x.kd, x.gn, x.pg⟩
  by_cases zb : b = a
  · subst zb; exact .inr n3
  · rw [upd_ne zb] at hb; exact x.nw b o hb
theorem Slots.freeze {i : Nat} {xs : List D} {a : Addr} {vs : List V} (s : Slots Wx.hx K F g H0 env σ H) (w : Wk K pm F g cs H) (e : env[i]? = some (some (.own xs))) (ea : σ[i]? = some (some (.ref a))) (q : H a = some (.lst vs)) (r : Reps K F g vs xs) (n1 : F a = none) (n2 : a ∉ g) (n3 : H0 a = none) :
    Wk K pm (upd F a (.lst vs)) g cs H ∧ Slots Wx.hx K (upd F a (.lst vs)) g H0 (env.set i (some (.sh (.lst xs)))) σ H := by
  have le : Le F (upd F a (.lst vs)) := upd_le n1
  refine ⟨w.freeze q n1 n2, ?_⟩
  · have other : ∀ {j : Nat} {zs : List D}, (env.set i (some (.sh (.lst xs))))[j]? = some (some (.own zs)) → j ≠ i ∧ env[j]? = some (some (.own zs)) := fun {j zs} h => by
      rw [List.getElem?_set] at h
      by_cases e : i = j
      · subst e
        by_cases l : i < env.length <;> simp [l] at h
      · rw [if_neg e] at h
        exact ⟨fun z => e z.symm, h⟩
    refine ⟨by simp [s.len], fun j d h => ?_, fun j zs h => ?_, fun j e h => ?_, fun j k zs ys b h1 h2 h3 h4 => s.ne j k zs ys b (other h1).2 (other h2).2 h3 h4⟩
    · rw [List.getElem?_set] at h
      by_cases ej : i = j
      · subst ej
        by_cases l : i < env.length
        · simp [l] at h
          subst h
          exact ⟨.ref a, ea, .lst upd_same (r.mono le (.refl _))⟩
        · simp [l] at h
      · rw [if_neg ej] at h
        obtain ⟨v, h1, h2⟩ := s.sh j d h
        exact ⟨v, h1, h2.mono le (.refl _)⟩
    · obtain ⟨nj, h⟩ := other h
      obtain ⟨b, us, h1, h2, h3, h4, h5, h6⟩ := s.ow j zs h
      refine ⟨b, us, h1, h2, h3.mono le (.refl _), ?_, h5, h6⟩
      have z : b ≠ a := fun z => by subst z; exact nj (s.ne j i zs xs b h e h1 ea)
      rw [upd_ne z]
      exact h4
    · rw [List.getElem?_set] at h
      by_cases ei : i = j
      · subst ei
        by_cases l : i < env.length <;> simp [l] at h
      · rw [if_neg ei] at h
        obtain ⟨b, cls, d, h1, h2, h3⟩ := s.exc j e h
        exact ⟨b, cls, d, h1, h2, h3.mono le (.refl _)⟩
theorem dss_freeze {sts : List Stmt} {k : SD} (i : Nat) (h : DSs X pm Wx sts k) : DSs X pm Wx sts (seqS (frzS i) k) := by
  obtain ⟨t, p, q⟩ := h.ex
  refine ⟨t, p, fun F0 g0 H0 F g env cs σ H Dd r z => ?_⟩
  unfold seqS frzS at z
  cases e : env[i]? with
  | none => rw [e] at z; exact q F0 g0 H0 F g env cs σ H Dd r z
  | some o =>
    cases o with
    | none => rw [e] at z; exact q F0 g0 H0 F g env cs σ H Dd r z
    | some sl =>
      cases sl with
      | sh d => rw [e] at z; exact q F0 g0 H0 F g env cs σ H Dd r z
      | exc x => rw [e] at z; exact q F0 g0 H0 F g env cs σ H Dd r z
      | own xs =>
        rw [e] at z
        obtain ⟨a, vs, h1, h2, h3, h4, h5, h6⟩ := r.s.ow i xs e
        obtain ⟨w', s'⟩ := r.s.freeze r.w e h1 h2 h3 h4 h5 h6
        exact q F0 g0 H0 (upd F a (.lst vs)) g _ cs σ H Dd ⟨w', s', r.n.freeze h4 h6, r.c.1.trans (upd_le h4), r.c.2⟩ z
/-! ### small statements -/
variable {e a b c o : Expr} {es : List Expr} {f fa fb fc fo : DEnv → M D} {fr : DEnv → M (List D)} {pos : Pos}
theorem ds_pass : DS X pm Wx (.Pass pos) skipS := ⟨_, ps_pass, fun F0 g0 H0 F g env cs σ H Dd r p => p σ H F g r⟩
theorem ds_doc {x j pos'} : DS X pm Wx (.Expr (.Constant (.str x) j pos) pos') skipS := ⟨_, ps_doc, fun F0 g0 H0 F g env cs σ H Dd r p => p σ H F g r⟩
theorem ds_break : DS X pm Wx (.Break pos) (fun env cs => .ok .bk env cs) := ⟨_, ps_break, fun F0 g0 H0 F g env cs σ H Dd r p => p σ H F g r⟩
theorem ds_cont : DS X pm Wx (.Continue pos) (fun env cs => .ok .ct env cs) := ⟨_, ps_continue, fun F0 g0 H0 F g env cs σ H Dd r p => p σ H F g r⟩
def exprS (f : DEnv → M D) : SD := fun env cs => thenS (f env) env (fun _ => skipS) cs
theorem ds_expr (h : DB X pm Wx e f) (hs : swapsWith e none pos.line X.env = pure false := by rfl) : DS X pm Wx (.Expr e pos) (exprS f) := by
  obtain ⟨t, p, q⟩ := h.ex
  refine ⟨_, ps_expr p hs, fun F0 g0 H0 F g env cs σ H Dd r z => ?_⟩
  exact q F g H0 env cs σ H _ r.w r.s (PostS.expr r z fun d cs1 v H1 F1 g1 r1 x1 _ z1 => z1 σ H1 F1 g1 r1)
def retS (f : DEnv → M D) : SD := fun env cs => thenS (f env) env (fun d env cs => .ok (.rt d) env cs) cs
theorem ds_ret (h : DE X pm Wx e f) : DS X pm Wx (.Return (some e) pos) (retS f) := by
  obtain ⟨t, p, q⟩ := h.ex
  refine ⟨_, ps_ret p, fun F0 g0 H0 F g env cs σ H Dd r z => ?_⟩
  exact q F g H0 env cs σ H _ r.w r.s (PostS.expr r z fun d cs1 v H1 F1 g1 r1 x1 rr z1 => z1 v H1 F1 g1 r1.w r1.n rr)
theorem ds_retN : DS X pm Wx (.Return none pos) (fun env cs => .ok (.rt .non) env cs) := ⟨_, ps_retN, fun F0 g0 H0 F g env cs σ H Dd r p => p .non H F g r.w r.n .non⟩
def ifS (t : DEnv → M Bool) (f k : SD) : SD := fun env cs => thenS (t env) env (fun b => if b then f else k) cs
theorem ds_if {t : DEnv → M Bool} {x y : List Stmt} {f k : SD} (hc : DT X pm Wx c t) (h1 : DSs X pm Wx x f) (h2 : DSs X pm Wx y k) : DS X pm Wx (.If c x y pos) (ifS t f k) := by
  obtain ⟨t, p, q⟩ := hc.ex
  obtain ⟨u1, p1, q1⟩ := h1.ex
  obtain ⟨u2, p2, q2⟩ := h2.ex
  refine ⟨_, ps_if p p1 p2, fun F0 g0 H0 F g env cs σ H Dd r z => ?_⟩
  refine q F g H0 env cs σ H _ r.w r.s (PostS.expr (rel := rT) r z fun d cs1 v H1 F1 g1 r1 x1 rr z1 => ?_)
  have rr : v = d := rr
  subst rr
  cases v with
  | true => exact q1 F0 g0 H0 F1 g1 env cs1 σ H1 Dd r1 z1
  | false => exact q2 F0 g0 H0 F1 g1 env cs1 σ H1 Dd r1 z1
/-- x = e -/
def setS (i : Nat) (f : DEnv → M D) : SD := fun env cs => thenS (f env) env (fun d => goS fun env => env.set i (some (.sh d))) cs
theorem ds_set {i : Nat} {x : Str} {pos' : Pos} (hN : X.N.Nodup) (h : DE X pm Wx e f) (hi : X.N[i]? = some x := by rfl) (hx : Loc X.env.scope x := by first | exact .inl rfl | exact .inr rfl) (hs : swapsWith e (some (.Name x pos')) pos.line X.env = pure false := by rfl) (hf : X.fn x = true ∨ X.env.scope.names.lookup x = some .local := by first | exact .inl rfl | exact .inr rfl | assumption) :
    DS X pm Wx (.Assign [.Name x pos'] e pos) (setS i f) := by
  obtain ⟨t, p, q⟩ := h.ex
  refine ⟨_, ps_set (i := i) hN hi hx p hs hf, fun F0 g0 H0 F g env cs σ H Dd r z => ?_⟩
  exact q F g H0 env cs σ H _ r.w r.s (PostS.expr r z fun d cs1 v H1 F1 g1 r1 x1 rr z1 => z1 _ H1 F1 g1 ⟨r1.w, r1.s.set i rr, r1.n, r1.c⟩)
/-! ### lists of one's own -/
def rF (K : PySem.W.Frag) (Hi : Hp) : Rel (List D) V := fun F g H v d => ∃ a vs, v = .ref a ∧ H a = some (.lst vs) ∧ Reps K F g vs d ∧ F a = none ∧ a ∉ g ∧ Hi a = none
/-- an expression that makes a new list -/
structure DF (X : Cx) (pm : Bool) (Wx : WZ) (e : Expr) (f : DEnv → M (List D)) : Prop where
  ex : ∃ t, PE X e t ∧ ∀ F g H0 env cs σ H Q, Wk X.K pm F g cs H → Slots Wx.hx X.K F g H0 env σ H → Post (rF X.K H) X.K pm Wx σ F g H Q (f env cs) → t σ H Q
def lstM (f : DEnv → M (List D)) : DEnv → M D := fun env => f env >>= fun xs => pure (.lst xs)
theorem DF.toE {f : DEnv → M (List D)} (h : DF X pm Wx e f) : DE X pm Wx e (lstM f) := by
  obtain ⟨t, p, q⟩ := h.ex
  refine ⟨t, p, fun F g H0 env cs σ H Q w s z => ?_⟩
  refine q F g H0 env cs σ H Q w s ?_
  unfold lstM at z
  rw [M.bind_run] at z
  cases er : f env cs with
  | ok xs cs1 =>
    rw [er] at z
    intro v H1 F1 g1 w1 x1 r1
    obtain ⟨a, vs, rfl, h1, h2, h3, h4, h5⟩ := r1
    exact z (.ref a) H1 (upd F1 a (.lst vs)) g1 (w1.freeze h1 h3 h4) (x1.freeze h3 h5) (.lst upd_same (h2.mono (upd_le h3) (.refl _)))
  | err x cs1 => rw [er] at z; exact z
  | bad => rw [er] at z; exact z
end
end Dn

end
set_option maxHeartbeats 4000000
section
namespace Dn
open PySem PySem.Spec L2
open PyProof.Rows hiding St

/-! ### a list that is not frozen changes -/
section
variable {X : Cx} {K : PySem.W.Frag} {pm : Bool} {Wx : WZ} {F0 : B0} {F F1 : Hp} {g g0 g1 : List Addr} {H0 H H1 : Hp} {env : DEnv} {cs cs1 : CS} {σ : St} {a : Addr} {o : HO}
theorem Wk.touch (w : Wk K pm F g cs H) (n1 : F a = none) (n2 : a ∉ g) : Wk K pm F g cs (upd H a o) := by
  refine ⟨fun b u h => ?_, w.gF, w.gnd, fun b hb z => ?_, w.mode, fun l hl => ?_⟩
  · rw [upd_ne (fun z => by subst z; rw [n1] at h; cases h)]
    exact w.sub b u h
  · by_cases e : b = a
    · subst e; exact n2 hb
    · rw [upd_ne e] at z
      exact w.gH b hb z
  · obtain ⟨h1, h2⟩ := w.cl l hl
    refine ⟨h1, fun k c b e1 e2 => (h2 k c b e1 e2).grow (.refl _) (.refl _) fun u hu => ?_⟩
    rw [upd_ne (fun z => by subst z; exact n2 (List.mem_of_getElem? e2))]
    exact hu
theorem Nx.touch {Fi : Hp} {gi : List Addr} {Hi : Hp} (x : Nx pm Fi gi Hi F g H) (n : Hi a = none) : Nx pm Fi gi Hi F g (upd H a o) := by
  refine ⟨x.lf, x.lg, x.nw, fun b u h h2 h3 => ?_, fun b h z => ?_, x.gn, x.pg⟩
  · rw [upd_ne (fun z => by subst z; rw [n] at h; cases h)]
    exact x.kp b u h h2 h3
  · by_cases e : b = a
    · subst e; exact h n
    · rw [upd_ne e] at z
      exact x.kd b h z
theorem Slots.touch {i : Nat} {xs ys : List D} {us : List V} (s : Slots Wx.hx K F g H0 env σ H) (hi : env[i]? = some (some (.own xs))) (ha : σ[i]? = some (some (.ref a))) (r : Reps K F g us ys) (n1 : F a = none) (n2 : a ∉ g) (n3 : H0 a = none) :
    Slots Wx.hx K F g H0 (env.set i (some (.own ys))) σ (upd H a (.lst us)) := by
  have il : i < env.length := (List.getElem?_eq_some_iff.mp hi).1
  have look : ∀ {j : Nat} {zs : List D}, (env.set i (some (.own ys)))[j]? = some (some (.own zs)) → (j = i ∧ zs = ys) ∨ (j ≠ i ∧ env[j]? = some (some (.own zs))) := fun {j zs} h => by
    rw [List.getElem?_set] at h
    by_cases e : i = j
    · subst e
      simp [il] at h
      exact .inl ⟨rfl, h.symm⟩
    · rw [if_neg e] at h
      exact .inr ⟨fun z => e z.symm, h⟩
  refine ⟨by simp [s.len], fun j d h => ?_, fun j zs h => ?_, fun j e h => ?_, fun j k zs ws b h1 h2 h3 h4 => ?_⟩
  · rw [List.getElem?_set] at h
    by_cases e : i = j
    · subst e; simp [il] at h
    · rw [if_neg e] at h
      exact s.sh j d h
  · rcases look h with ⟨rfl, rfl⟩ | ⟨n, h⟩
    · exact ⟨a, us, ha, upd_same, r, n1, n2, n3⟩
    · obtain ⟨b, vs, e, q, rr, m1, m2, m3⟩ := s.ow j zs h
      refine ⟨b, vs, e, ?_, rr, m1, m2, m3⟩
      rw [upd_ne (fun z => by subst z; exact n (s.ne j i zs xs b h hi e ha))]
      exact q
  · rw [List.getElem?_set] at h
    by_cases ei : i = j
    · subst ei
      by_cases l : i < env.length <;> simp [l] at h
    · rw [if_neg ei] at h
      exact s.exc j e h
  · rcases look h1 with ⟨rfl, rfl⟩ | ⟨m1, h1'⟩ <;> rcases look h2 with ⟨rfl, rfl⟩ | ⟨m2, h2'⟩
    · rfl
    · exact s.ne j k xs ws b hi h2' h3 h4
    · exact s.ne j k zs xs b h1' hi h3 h4
    · exact s.ne j k zs ws b h1' h2' h3 h4
theorem RS.touch {i : Nat} {xs ys : List D} {us : List V} (r : RS Wx.hx K pm F0 g0 H0 F g env cs σ H) (hi : env[i]? = some (some (.own xs))) (ha : σ[i]? = some (some (.ref a))) (n1 : F a = none) (n2 : a ∉ g) (n3 : H0 a = none) (rr : Reps K F g us ys) :
    RS Wx.hx K pm F0 g0 H0 F g (env.set i (some (.own ys))) cs σ (upd H a (.lst us)) := ⟨r.w.touch n1 n2, r.s.touch hi ha rr n1 n2 n3, r.n.touch n3, r.c⟩
/-- a cell changes -/
theorem Wk.cellSet {l : List Cell} {k : Nat} {c : Cell} (w : Wk K pm F g (some l) H) (hg : g[k]? = some a) (hc : CellAt K F g (upd H a o) a c) : Wk K pm F g (some (l.set k c)) (upd H a o) ∧ Nx pm F g H F g (upd H a o) := by
  have ma : a ∈ g := List.mem_of_getElem? hg
  have pmf : pm = false := by have := w.mode; cases pm with | true => cases this | false => rfl
  subst pmf
  refine ⟨⟨fun b u h => ?_, w.gF, w.gnd, fun b hb z => ?_, rfl, fun l' hl => ?_⟩, ⟨.refl _, .refl _, fun _ _ h => .inl h, fun b u h n _ => ?_, fun b h z => ?_, fun b h n => absurd h n, fun _ => rfl⟩⟩
  · rw [upd_ne (fun z => by subst z; rw [w.gF _ ma] at h; cases h)]
    exact w.sub b u h
  · by_cases e : b = a
    · subst e; rw [upd_same] at z; cases z
    · rw [upd_ne e] at z; exact w.gH b hb z
  · cases hl
    obtain ⟨h1, h2⟩ := w.cl l rfl
    refine ⟨by simp [h1], fun j c' b e1 e2 => ?_⟩
    by_cases e : k = j
    · subst e
      rw [hg] at e2
      cases e2
      have kl : k < l.length := by rw [h1]; exact (List.getElem?_eq_some_iff.mp hg).1
      rw [List.getElem?_set_self kl] at e1
      cases e1
      exact hc
    · rw [List.getElem?_set_ne e] at e1
      refine (h2 j c' b e1 e2).grow (.refl _) (.refl _) fun u hu => ?_
      rw [upd_ne (fun z => by subst z; exact e ((List.getElem?_inj (List.getElem?_eq_some_iff.mp hg).1 w.gnd).mp (hg.trans e2.symm)))]
      exact hu
  · rw [upd_ne (fun z => by subst z; exact n ma)]
    exact h
  · by_cases e : b = a
    · subst e; rw [upd_same] at z; cases z
    · rw [upd_ne e] at z; exact h z
theorem RS.cell {l : List Cell} {k : Nat} {c : Cell} (r : RS Wx.hx K pm F0 g0 H0 F g env (some l) σ H) (hg : g[k]? = some a) (hc : CellAt K F g (upd H a o) a c) : RS Wx.hx K pm F0 g0 H0 F g env (some (l.set k c)) σ (upd H a o) := by
  obtain ⟨w', x'⟩ := r.w.cellSet hg hc
  exact r.next w' x'
end

/-! ### new lists -/
section
variable {X : Cx} {pm : Bool} {Wx : WZ} {e a b c o : Expr} {es : List Expr} {f fa fb fc fo : DEnv → M D} {fr : DEnv → M (List D)} {pos : Pos}
def fewL (xs : List D) : M (List D) := if few xs then pure xs else bad
theorem Post.fresh {K : PySem.W.Frag} {σ : St} {F F1 : Hp} {g g1 : List Addr} {H H1 : Hp} {cs : CS} {Q : V → Hp → Prop} {vs : List V} {xs : List D} (p : Post (rF K H) K pm Wx σ F1 g1 H1 Q (fewL xs cs)) (w : Wk K pm F1 g1 cs H1) (x : Nx pm F g H F1 g1 H1) (r : Reps K F1 g1 vs xs) :
    vs.length ≤ sizeLine ∧ ∀ a, H1 a = none → Q (.ref a) (upd H1 a (.lst vs)) := by
  unfold fewL at p
  split at p
  · rename_i h
    refine ⟨by rw [r.length]; exact of_decide_eq_true h, fun a ha => ?_⟩
    obtain ⟨w1, x1⟩ := w.alloc0 (o := .lst vs) ha
    refine p.at w1 x1 ⟨a, vs, rfl, upd_same, r, w.fnone ha, w.fresh ha, ?_⟩
    cases q : H a with
    | none => rfl
    | some u => exact absurd ha (x.kd a (by rw [q]; exact fun z => nomatch z))
  · exact p.elim
theorem df_disp (h : DA X pm Wx es fr) : DF X pm Wx (.List es pos) (fun env => fr env >>= fewL) := by
  obtain ⟨t, p, q⟩ := h.ex
  refine ⟨_, pe_lst p, fun F g H0 env cs σ H Q w s z => ?_⟩
  exact q F g H0 env cs σ H _ w s (Post.bind (rel2 := rF X.K H) z fun ds cs1 vs H1 F1 g1 w1 x1 r z1 => z1.fresh w1 x1 r)
/-- [..] * k, list + list: their operands made first -/
def repF (x y : D) : M (List D) := viewL x >>= fun xs => match y with | .int k => if repSize xs k then fewL (List.replicate k.toNat xs).flatten else bad | _ => bad
theorem df_rep (ha : DB X pm Wx a fa) (hb : DB X pm Wx b fb) : DF X pm Wx (.BinOp a .Mult b pos) (fun env => fa env >>= fun x => fb env >>= fun y => repF x y) := by
  obtain ⟨t, p, q⟩ := ha.ex
  obtain ⟨u, p2, q2⟩ := hb.ex
  refine ⟨_, pe_op op_rep p p2, fun F g H0 env cs σ H Q w s z => ?_⟩
  refine q F g H0 env cs σ H _ w s (Post.bind (rel2 := rF X.K H) z fun d cs1 v H1 F1 g1 w1 x1 r1 z1 => ?_)
  refine q2 F1 g1 H0 env cs1 σ H1 _ w1 (s.next x1) (Post.bind (rel2 := rF X.K H) z1 fun d2 cs2 v2 H2 F2 g2 w2 x2 r2 z2 => ?_)
  obtain ⟨l, vs, xs, e1, h1, rr, z2⟩ := z2.viewL w2 (r1.next x2)
  cases d2 with
  | int k =>
    have z2 : Post (rF X.K H) X.K pm Wx σ F2 g2 H2 Q ((if repSize xs k then fewL (List.replicate k.toNat xs).flatten else bad : M (List D)) cs2) := z2
    by_cases h : repSize xs k = true
    · rw [if_pos h] at z2
      obtain ⟨l', q⟩ := z2.fresh w2 (x1.trans x2) (rr.rep k.toNat)
      unfold repSize at h
      simp only [Bool.and_eq_true, decide_eq_true_eq] at h
      exact ⟨l, k, vs, e1, r2.int, h1, h.1.1, h.1.2, by rw [rr.length]; exact h.2, q⟩
    · rw [if_neg h] at z2
      exact z2.elim
  | _ => exact z2.elim
def catF (x y : D) : M (List D) := viewL x >>= fun xs => viewL y >>= fun ys => fewL (xs ++ ys)
theorem df_cat (ha : DB X pm Wx a fa) (hb : DB X pm Wx b fb) : DF X pm Wx (.BinOp a .Add b pos) (fun env => fa env >>= fun x => fb env >>= fun y => catF x y) := by
  obtain ⟨t, p, q⟩ := ha.ex
  obtain ⟨u, p2, q2⟩ := hb.ex
  refine ⟨_, pe_op op_cat p p2, fun F g H0 env cs σ H Q w s z => ?_⟩
  refine q F g H0 env cs σ H _ w s (Post.bind (rel2 := rF X.K H) z fun d cs1 v H1 F1 g1 w1 x1 r1 z1 => ?_)
  refine q2 F1 g1 H0 env cs1 σ H1 _ w1 (s.next x1) (Post.bind (rel2 := rF X.K H) z1 fun d2 cs2 v2 H2 F2 g2 w2 x2 r2 z2 => ?_)
  obtain ⟨l, vs, xs, e1, h1, rr, z2⟩ := z2.viewL w2 (r1.next x2)
  obtain ⟨l2, vs2, xs2, e2, h2, rr2, z2⟩ := z2.viewL w2 r2
  obtain ⟨l', q⟩ := z2.fresh w2 (x1.trans x2) (rr.append rr2)
  exact ⟨l, l2, vs, vs2, e1, e2, h1, h2, by simpa using l', q⟩
/-- list(x) -/
def listF (ds : List D) : M (List D) := match ds with | [d] => viewS d >>= fewL | _ => bad
theorem df_list {x : Str} {p : Pos} (hg : Gl X x) (hm : X.mg x = none) (hv : bootBuiltins x = some (.type "list")) (ha : DAB X pm Wx (e :: es) fr) (hn : x ≠ "__name__" := by decide) (hd : (x == ("__debug__" : Str)) = false := by decide)
    (hs : starEach (e :: es) X.env = (false, eval e X.env) :: starEach es X.env := by rfl) (hpl : (backTo pos (starEach es X.env)).any (·.1) = false := by rfl) : DF X pm Wx (.Call (.Name x p) (e :: es) [] pos) (fun env => fr env >>= listF) := by
  obtain ⟨t, p, q⟩ := ha.ex
  refine ⟨_, pe_callTy call_list_of hg hm hv p hn hd hs hpl, fun F g H0 env cs σ H Q w s z => ?_⟩
  refine q F g H0 env cs σ H _ w s (Post.bind (rel2 := rF X.K H) z fun ds cs1 vs H1 F1 g1 w1 x1 r1 z1 => ?_)
  unfold listF at z1
  split at z1
  · obtain ⟨v, rfl, r⟩ := r1.one
    obtain ⟨l, us, xs, rfl, h, rr, z1⟩ := Post.viewS z1 w1 r
    exact ⟨l, us, rfl, h, (z1.fresh w1 x1 rr).2⟩
  · exact z1.elim
/-- a list that becomes a cell -/
def newCell (c : Cell) : M D := fun cs => match cs with
  | some l => .ok (.cell l.length) (some (l ++ [c]))
  | none => .bad
def cellM (f : DEnv → M (List D)) : DEnv → M D := fun env => f env >>= fun xs => newCell (.lst xs)
theorem Wk.addCell {K : PySem.W.Frag} {F Fi : Hp} {g gi : List Addr} {H Hi : Hp} {l : List Cell} {a : Addr} {c : Cell} (w : Wk K false F g (some l) H) (n1 : F a = none) (n2 : a ∉ g) (hH : H a ≠ none) (hc : CellAt K F (g ++ [a]) H a c) : Wk K false F (g ++ [a]) (some (l ++ [c])) H := by
  obtain ⟨h1, h2⟩ := w.cl l rfl
  refine ⟨w.sub, fun b hb => ?_, ?_, fun b hb => ?_, rfl, fun l' hl => ?_⟩
  · rcases List.mem_append.mp hb with z | z
    · exact w.gF b z
    · rw [List.mem_singleton.mp z]; exact n1
  · refine List.nodup_append.mpr ⟨w.gnd, by simp, fun b hb c hc => ?_⟩
    rw [List.mem_singleton.mp hc]
    intro z; subst z; exact n2 hb
  · rcases List.mem_append.mp hb with z | z
    · exact w.gH b z
    · rw [List.mem_singleton.mp z]; exact hH
  · cases hl
    refine ⟨by simp [h1], fun k c' b e1 e2 => ?_⟩
    by_cases hk : k < l.length
    · rw [List.getElem?_append_left hk] at e1
      rw [List.getElem?_append_left (by rw [← h1]; exact hk)] at e2
      exact (h2 k c' b e1 e2).grow (.refl _) ⟨[a], rfl⟩ fun _ h => h
    · have hk : l.length ≤ k := Nat.le_of_not_lt hk
      rw [List.getElem?_append_right hk] at e1
      rw [List.getElem?_append_right (by rw [← h1]; exact hk)] at e2
      have z : k - l.length = 0 := by
        cases q : k - l.length with
        | zero => rfl
        | succ n => rw [q] at e1; simp at e1
      rw [z] at e1
      rw [← h1, z] at e2
      cases e1; cases e2
      exact hc
theorem Nx.addCell {Fi F : Hp} {gi g : List Addr} {Hi H : Hp} {a : Addr} (x : Nx false Fi gi Hi F g H) (n : Hi a = none) : Nx false Fi gi Hi F (g ++ [a]) H := by
  refine ⟨x.lf, x.lg.trans ⟨[a], rfl⟩, x.nw, x.kp, x.kd, fun b hb hn => ?_, fun z => nomatch z⟩
  rcases List.mem_append.mp hb with z | z
  · exact x.gn b z hn
  · rw [List.mem_singleton.mp z]; exact n
theorem DF.toCell {f : DEnv → M (List D)} (h : DF X pm Wx e f) : DE X pm Wx e (cellM f) := by
  obtain ⟨t, p, q⟩ := h.ex
  refine ⟨t, p, fun F g H0 env cs σ H Q w s z => ?_⟩
  refine q F g H0 env cs σ H Q w s ?_
  unfold cellM at z
  rw [M.bind_run] at z
  cases er : f env cs with
  | ok xs cs1 =>
    rw [er] at z
    intro v H1 F1 g1 w1 x1 r1
    obtain ⟨a, vs, rfl, h1, h2, h3, h4, h5⟩ := r1
    cases cs1 with
    | none => exact z.elim
    | some l =>
      have pmf : pm = false := by have := w1.mode; cases pm with | true => cases this | false => rfl
      subst pmf
      have hl := (w1.cl l rfl).1
      refine z (.ref a) H1 F1 (g1 ++ [a]) (w1.addCell (Fi := F) (gi := g) (Hi := H) h3 h4 (by rw [h1]; exact fun z => nomatch z) ⟨vs, h1, h2.mono (.refl _) ⟨[a], rfl⟩⟩) (x1.addCell h5) (.cell ?_)
      rw [hl]
      simp
  | err x cs1 => rw [er] at z; exact z
  | bad => rw [er] at z; exact z
/-! ### statements on lists of one's own -/
def setF (i : Nat) (f : DEnv → M (List D)) : SD := fun env cs => thenS (f env) env (fun xs => goS fun env => env.set i (some (.own xs))) cs
theorem setOwn_ok {K : PySem.W.Frag} {F0 : B0} {F F1 : Hp} {g0 g g1 : List Addr} {H0 H H1 : Hp} {env : DEnv} {cs cs1 : CS} {σ : St} {Dd : Ends} {i : Nat} {v : V} {xs : List D} (r : RS Wx.hx K pm F0 g0 H0 F g env cs σ H) (r1 : RS Wx.hx K pm F0 g0 H0 F1 g1 env cs1 σ H1) (x1 : Nx pm F g H F1 g1 H1)
    (rr : rF K H F1 g1 H1 v xs) (z1 : PostS K pm F0 g0 H0 Wx Dd (goS (fun env => env.set i (some (.own xs))) env cs1)) : Dd.nx (σ.set i (some v)) H1 := by
  obtain ⟨a, vs, rfl, h1, h2, h3, h4, h5⟩ := rr
  have h0 : H0 a = none := by
    cases q : H0 a with
    | none => rfl
    | some u => exact absurd h5 (r.n.kd a (by rw [q]; exact fun z => nomatch z))
  refine z1 _ H1 F1 g1 ⟨r1.w, r1.s.setOwn i h1 h2 h3 h4 h0 fun j ys hj hz => ?_, r1.n, r1.c⟩
  obtain ⟨b, us, e1, e2, _⟩ := r.s.ow j ys hj
  rw [e1] at hz
  cases hz
  rw [h5] at e2
  cases e2
theorem ds_setF {i : Nat} {x : Str} {pos' : Pos} {f : DEnv → M (List D)} (hN : X.N.Nodup) (h : DF X pm Wx e f) (hi : X.N[i]? = some x := by rfl) (hx : Loc X.env.scope x := by first | exact .inl rfl | exact .inr rfl) (hs : swapsWith e (some (.Name x pos')) pos.line X.env = pure false := by rfl) (hf : X.fn x = true ∨ X.env.scope.names.lookup x = some .local := by first | exact .inl rfl | exact .inr rfl | assumption) :
    DS X pm Wx (.Assign [.Name x pos'] e pos) (setF i f) := by
  obtain ⟨t, p, q⟩ := h.ex
  refine ⟨_, ps_set (i := i) hN hi hx p hs hf, fun F0 g0 H0 F g env cs σ H Dd r z => ?_⟩
  refine q F g H0 env cs σ H _ r.w r.s (PostS.expr r z fun xs cs1 v H1 F1 g1 r1 x1 rr z1 => ?_)
  exact setOwn_ok r r1 x1 rr z1
/-- x.append(e) -/
def appS (i : Nat) (f : DEnv → M D) : SD := fun env cs => match env[i]? with
  | some (some (.own xs)) => thenS (f env) env (fun d env cs => if xs.length < sizeLine then .ok .nx (env.set i (some (.own (xs ++ [d])))) cs else .bad) cs
  | _ => .bad
theorem tyL {K : PySem.W.Frag} {H : Hp} {a : Addr} {vs : List V} (h : H a = some (.lst vs)) : tyV K "list" (.ref a) H := .inl ⟨rfl, vs, SqL.of h⟩
theorem ds_app {i : Nat} {x : Str} {px apos cpos : Pos} (h : DE X pm Wx e f) (hi : X.N[i]? = some x := by rfl) (hv : Vis X.env.scope x := by first | exact Or.inl rfl | exact Or.inr (Or.inl rfl) | exact Or.inr (Or.inr rfl)) (hd : (x == ("__debug__" : Str)) = false := by decide)
    (hcd : (x == ("__classdict__" : Str)) = false := by decide) (hs : swapsWith (.Call (.Attribute (.Name x px) "append" apos) [e] [] cpos) none pos.line X.env = pure false := by rfl)
    (hfew : ((backTo cpos (starEach [e] X.env)).all (fun x => !x.1) && (backToKw cpos (keywordEach [] X.env)).all (fun x => x.1.isSome)
      && decide ([e].length + ([] : List Keyword).length + (if ([] : List Keyword).isEmpty then 0 else 1) < 30)) = true := by rfl)
    (hbase : attributeBase (.Name x px) "append" X.env (eval (.Name x px) X.env) = eval (.Name x px) X.env := by rfl) (hline : (apos.endLine == cpos.line) = true := by rfl) (hst : starEach [e] X.env = (false, eval e X.env) :: starEach [] X.env := by rfl) :
    DS X pm Wx (.Expr (.Call (.Attribute (.Name x px) "append" apos) [e] [] cpos) pos) (appS i f) := by
  obtain ⟨t, p, q⟩ := h.ex
  refine ⟨_, ps_expr (pe_bm PySem.F.plainAttrs_list PySem.F.slot_list_append PySem.F.type_list_append mt_append (pe_var (i := i) hi hv hd hcd) (pa_cons p pa_nil hst) hbase hfew hline hst) hs, fun F0 g0 H0 F g env cs σ H Dd r z => ?_⟩
  unfold appS at z
  cases he : env[i]? with
  | none => rw [he] at z; exact z.elim
  | some ow =>
    cases ow with
    | none => rw [he] at z; exact z.elim
    | some sl =>
      cases sl with
      | sh d => rw [he] at z; exact z.elim
      | exc x => rw [he] at z; exact z.elim
      | own xs =>
        rw [he] at z
        obtain ⟨a, vs, h1, h2, h3, h4, h5, h6⟩ := r.s.ow i xs he
        refine ⟨.ref a, h1, tyL h2, ?_⟩
        refine q F g H0 env cs σ H _ r.w r.s (PostS.expr r z fun d cs1 v H1 F1 g1 r1 x1 rr z1 => ?_)
        obtain ⟨a', vs', k1, k2, k3, k4, k5, k6⟩ := r1.s.ow i xs he
        rw [h1] at k1
        cases k1
        by_cases hl : xs.length < sizeLine
        · rw [if_pos hl] at z1
          refine ⟨a, vs', v, rfl, rfl, k2, by rw [k3.length]; exact hl, ?_⟩
          exact z1 _ _ _ _ (r1.touch he h1 k4 k5 k6 (k3.append (.cons rr .nil)))
        · rw [if_neg hl] at z1
          exact z1.elim
/-- x.extend(e), e a list -/
def extS (i : Nat) (f : DEnv → M D) : SD := fun env cs => match env[i]? with
  | some (some (.own xs)) => thenS (f env) env (fun d env cs => match d with
    | .lst ys => if xs.length + ys.length ≤ sizeLine then .ok .nx (env.set i (some (.own (xs ++ ys)))) cs else .bad
    | _ => .bad) cs
  | _ => .bad
theorem ds_ext {i : Nat} {x : Str} {px apos cpos : Pos} (h : DE X pm Wx e f) (hi : X.N[i]? = some x := by rfl) (hv : Vis X.env.scope x := by first | exact Or.inl rfl | exact Or.inr (Or.inl rfl) | exact Or.inr (Or.inr rfl)) (hd : (x == ("__debug__" : Str)) = false := by decide)
    (hcd : (x == ("__classdict__" : Str)) = false := by decide) (hs : swapsWith (.Call (.Attribute (.Name x px) "extend" apos) [e] [] cpos) none pos.line X.env = pure false := by rfl)
    (hfew : ((backTo cpos (starEach [e] X.env)).all (fun x => !x.1) && (backToKw cpos (keywordEach [] X.env)).all (fun x => x.1.isSome)
      && decide ([e].length + ([] : List Keyword).length + (if ([] : List Keyword).isEmpty then 0 else 1) < 30)) = true := by rfl)
    (hbase : attributeBase (.Name x px) "extend" X.env (eval (.Name x px) X.env) = eval (.Name x px) X.env := by rfl) (hline : (apos.endLine == cpos.line) = true := by rfl) (hst : starEach [e] X.env = (false, eval e X.env) :: starEach [] X.env := by rfl) :
    DS X pm Wx (.Expr (.Call (.Attribute (.Name x px) "extend" apos) [e] [] cpos) pos) (extS i f) := by
  obtain ⟨t, p, q⟩ := h.ex
  refine ⟨_, ps_expr (pe_bm PySem.F.plainAttrs_list PySem.F.slot_list_extend PySem.F.type_list_extend mt_extend (pe_var (i := i) hi hv hd hcd) (pa_cons p pa_nil hst) hbase hfew hline hst) hs, fun F0 g0 H0 F g env cs σ H Dd r z => ?_⟩
  unfold extS at z
  cases he : env[i]? with
  | none => rw [he] at z; exact z.elim
  | some ow =>
    cases ow with
    | none => rw [he] at z; exact z.elim
    | some sl =>
      cases sl with
      | sh d => rw [he] at z; exact z.elim
      | exc x => rw [he] at z; exact z.elim
      | own xs =>
        rw [he] at z
        obtain ⟨a, vs, h1, h2, h3, h4, h5, h6⟩ := r.s.ow i xs he
        refine ⟨.ref a, h1, tyL h2, ?_⟩
        refine q F g H0 env cs σ H _ r.w r.s (PostS.expr r z fun d cs1 v H1 F1 g1 r1 x1 rr z1 => ?_)
        obtain ⟨a', vs', k1, k2, k3, k4, k5, k6⟩ := r1.s.ow i xs he
        rw [h1] at k1
        cases k1
        cases d with
        | lst ys =>
          obtain ⟨b, us, rfl, hb, rb⟩ := RepB.lst (.inl rr) r1.w
          have z1 : PostS X.K pm F0 g0 H0 Wx Dd (if xs.length + ys.length ≤ sizeLine then .ok .nx (env.set i (some (.own (xs ++ ys)))) cs1 else .bad) := z1
          by_cases hl : xs.length + ys.length ≤ sizeLine
          · rw [if_pos hl] at z1
            refine ⟨a, b, vs', us, rfl, rfl, k2, hb, by rw [k3.length, rb.length]; exact hl, ?_⟩
            exact z1 _ _ _ _ (r1.touch he h1 k4 k5 k6 (k3.append rb))
          · rw [if_neg hl] at z1
            exact z1.elim
        | _ => exact z1.elim
/-! ### o[i] = e -/
def putI (xs : List D) (i : Int) (d : D) : Option (List D) := (ixN xs.length i).map fun j => xs.set j d
/-- x[i] = e with x a list of one's own -/
def subS (i : Nat) (f fi : DEnv → M D) : SD := fun env cs => match env[i]? with
  | some (some (.own xs)) => thenS (f env) env (fun d => fun env => thenS (fi env) env fun k => fun env cs => match k with
    | .int k => (match putI xs k d with | some ys => .ok .nx (env.set i (some (.own ys))) cs | none => .bad)
    | _ => .bad) cs
  | _ => .bad
theorem ds_sub {j : Expr} {fi : DEnv → M D} {i : Nat} {x : Str} {px spos : Pos} (h : DE X pm Wx e f) (hj : DB X pm Wx j fi) (hi : X.N[i]? = some x := by rfl) (hv : Vis X.env.scope x := by first | exact Or.inl rfl | exact Or.inr (Or.inl rfl) | exact Or.inr (Or.inr rfl)) (hd : (x == ("__debug__" : Str)) = false := by decide)
    (hcd : (x == ("__classdict__" : Str)) = false := by decide)
    (ha : ∀ v, assign (.Subscript (.Name x px) j spos) X.env v = (do
      let ov ← holding [v] (eval (.Name x px) X.env)
      let iv ← holding [v, ov] (eval j X.env)
      standAt spos
      holding [v, ov, iv] (setItem ov iv v)
      release [v, ov, iv] []) := by intro _; rfl)
    (hs : swapsWithSole [.Subscript (.Name x px) j spos] e pos.line X.env = pure false := by rfl) (hw : swappedStores [.Subscript (.Name x px) j spos] e X.env = pure none := by rfl)
    (h1 : (assignEach [.Subscript (.Name x px) j spos] X.env).map (·.2) = [assign (.Subscript (.Name x px) j spos) X.env] := by rfl) :
    DS X pm Wx (.Assign [.Subscript (.Name x px) j spos] e pos) (subS i f fi) := by
  obtain ⟨t, p, q⟩ := h.ex
  obtain ⟨u, p2, q2⟩ := hj.ex
  refine ⟨_, ps_asg p (pg_sub (pe_var (i := i) hi hv hd hcd) p2 set_list ha) hs hw h1, fun F0 g0 H0 F g env cs σ H Dd r z => ?_⟩
  unfold subS at z
  cases he : env[i]? with
  | none => rw [he] at z; exact z.elim
  | some ow =>
    cases ow with
    | none => rw [he] at z; exact z.elim
    | some sl =>
      cases sl with
      | sh d => rw [he] at z; exact z.elim
      | exc x => rw [he] at z; exact z.elim
      | own xs =>
        rw [he] at z
        refine q F g H0 env cs σ H _ r.w r.s (PostS.expr r z fun d cs1 v H1 F1 g1 r1 x1 rr z1 => ?_)
        obtain ⟨a, vs, k1, k2, k3, k4, k5, k6⟩ := r1.s.ow i xs he
        refine ⟨.ref a, k1, ?_⟩
        refine q2 F1 g1 H0 env cs1 σ H1 _ r1.w r1.s (PostS.expr (rel := rB X.K) r1 z1 fun k cs2 kv H2 F2 g2 r2 x2 rk z2 => ?_)
        obtain ⟨a', vs', m1, m2, m3, m4, m5, m6⟩ := r2.s.ow i xs he
        rw [k1] at m1
        cases m1
        cases k with
        | int n =>
          have z2 : PostS X.K pm F0 g0 H0 Wx Dd (match putI xs n d with | some ys => .ok .nx (env.set i (some (.own ys))) cs2 | none => .bad) := z2
          unfold putI at z2
          cases hx : ixN xs.length n with
          | none => rw [hx] at z2; exact z2.elim
          | some m =>
            rw [hx] at z2
            refine ⟨a, vs', n, m, rfl, rk.int, m2, by rw [m3.length]; exact hx, ?_⟩
            exact z2 _ _ _ _ (r2.touch he k1 m4 m5 m6 (m3.set m (rr.mono x2.lf x2.lg)))
        | _ => exact z2.elim
/-- o[i] = e with o a cell -/
def putCell (k : Nat) (c : Cell) : CS → Option CS
  | some l => some (some (l.set k c))
  | none => none
def subC (fo f fi : DEnv → M D) : SD := fun env => thenS (f env) env fun d => fun env => thenS (fo env) env fun o => fun env => thenS (fi env) env fun i => fun env cs => match o, i with
  | .cell k, .int n => (match cellAt cs k with
    | some (.lst xs) => (match putI xs n d with
      | some ys => (match putCell k (.lst ys) cs with | some cs' => .ok .nx env cs' | none => .bad)
      | none => .bad)
    | _ => .bad)
  | _, _ => .bad
theorem ds_subC {j : Expr} {fi : DEnv → M D} {spos : Pos} (h : DE X pm Wx e f) (ho : DB X pm Wx o fo) (hj : DB X pm Wx j fi)
    (ha : ∀ v, assign (.Subscript o j spos) X.env v = (do
      let ov ← holding [v] (eval o X.env)
      let iv ← holding [v, ov] (eval j X.env)
      standAt spos
      holding [v, ov, iv] (setItem ov iv v)
      release [v, ov, iv] []) := by intro _; rfl)
    (hs : swapsWithSole [.Subscript o j spos] e pos.line X.env = pure false := by rfl) (hw : swappedStores [.Subscript o j spos] e X.env = pure none := by rfl)
    (h1 : (assignEach [.Subscript o j spos] X.env).map (·.2) = [assign (.Subscript o j spos) X.env] := by rfl) :
    DS X pm Wx (.Assign [.Subscript o j spos] e pos) (subC fo f fi) := by
  obtain ⟨t, p, q⟩ := h.ex
  obtain ⟨u, p2, q2⟩ := ho.ex
  obtain ⟨u3, p3, q3⟩ := hj.ex
  refine ⟨_, ps_asg p (pg_sub p2 p3 set_list ha) hs hw h1, fun F0 g0 H0 F g env cs σ H Dd r z => ?_⟩
  refine q F g H0 env cs σ H _ r.w r.s (PostS.expr r z fun d cs1 v H1 F1 g1 r1 x1 rr z1 => ?_)
  refine q2 F1 g1 H0 env cs1 σ H1 _ r1.w r1.s (PostS.expr (rel := rB X.K) r1 z1 fun ov cs2 vo H2 F2 g2 r2 x2 ro z2 => ?_)
  refine q3 F2 g2 H0 env cs2 σ H2 _ r2.w r2.s (PostS.expr (rel := rB X.K) r2 z2 fun iv cs3 vi H3 F3 g3 r3 x3 ri z3 => ?_)
  cases ov with
  | cell k =>
    cases iv with
    | int n =>
      obtain ⟨a, rfl, hg⟩ := ro.cell
      have hg3 := x3.lg.get hg
      have z3 : PostS X.K pm F0 g0 H0 Wx Dd (match cellAt cs3 k with
        | some (.lst xs) => (match putI xs n d with
          | some ys => (match putCell k (.lst ys) cs3 with | some cs' => .ok .nx env cs' | none => .bad)
          | none => .bad)
        | _ => .bad) := z3
      cases hc : cellAt cs3 k with
      | none => rw [hc] at z3; exact z3.elim
      | some c =>
        rw [hc] at z3
        cases c with
        | ins C ns ds => exact z3.elim
        | lst xs =>
          obtain ⟨vs, hH, rv⟩ := cellAt_ok r3.w hc hg3
          have z3 : PostS X.K pm F0 g0 H0 Wx Dd (match putI xs n d with
              | some ys => (match putCell k (.lst ys) cs3 with | some cs' => .ok .nx env cs' | none => .bad)
              | none => .bad) := z3
          unfold putI at z3
          cases hx : ixN xs.length n with
          | none => rw [hx] at z3; exact z3.elim
          | some m =>
            rw [hx] at z3
            cases cs3 with
            | none => exact z3.elim
            | some l =>
              refine ⟨a, vs, n, m, rfl, ri.int, hH, by rw [rv.length]; exact hx, ?_⟩
              exact z3 _ _ _ _ (r3.cell hg3 ⟨_, upd_same, rv.set m (rr.mono (x2.lf.trans x3.lf) (x2.lg.trans x3.lg))⟩)
    | _ => exact z3.elim
  | _ => exact z3.elim
end
end Dn

end
set_option maxHeartbeats 4000000
section
namespace Dn
open PySem PySem.Spec L2
open PyProof.Rows hiding St

/-! ### slots wiped, for comprehensions -/
theorem wipe_get {σ : St} : ∀ {vs : List Nat} (i : Nat), (wipe σ vs)[i]? = if i ∈ vs ∧ i < σ.length then some none else σ[i]?
  | [], i => by simp [wipe]
  | v :: vs, i => by
    unfold wipe
    rw [List.getElem?_set, wipe_get (vs := vs) i, wipe_length]
    by_cases h : v = i
    · subst h
      by_cases l : v < σ.length
      · simp [l]
      · simp [l]
    · have h' : i ≠ v := fun z => h z.symm
      by_cases m : i ∈ vs
      · simp [h, h', m]
      · simp [h, h', m]
theorem wipe_ext {σ τ : St} {vs : List Nat} (l : σ.length = τ.length) (h : ∀ i, i ∉ vs → σ[i]? = τ[i]?) : wipe σ vs = wipe τ vs := by
  apply List.ext_getElem?
  intro i
  rw [wipe_get, wipe_get, l]
  by_cases m : i ∈ vs
  · by_cases k : i < τ.length
    · simp [m, k]
    · have k2 : ¬ i < σ.length := by rw [l]; exact k
      simp only [k, and_false, if_false]
      rw [List.getElem?_eq_none (Nat.le_of_not_lt k2), List.getElem?_eq_none (Nat.le_of_not_lt k)]
  · simp [m, h i m]
theorem wipe_set {σ : St} {i : Nat} {v : Option V} {vs : List Nat} (m : i ∈ vs) : wipe (σ.set i v) vs = wipe σ vs :=
  wipe_ext (by simp) fun j n => List.getElem?_set_ne fun z => by subst z; exact n m
theorem wipe_wipe {σ : St} {vs : List Nat} : wipe (wipe σ vs) vs = wipe σ vs :=
  wipe_ext (wipe_length σ vs) fun j n => wipe_out n
def wipeD (env : DEnv) : List Nat → DEnv
  | [] => env
  | v :: vs => (wipeD env vs).set v none
theorem wipeD_length (env : DEnv) : ∀ vs : List Nat, (wipeD env vs).length = env.length
  | [] => rfl
  | v :: vs => by unfold wipeD; rw [List.length_set, wipeD_length env vs]
theorem wipeD_some {env : DEnv} {i : Nat} {x : Slot} : ∀ {vs : List Nat}, (wipeD env vs)[i]? = some (some x) → env[i]? = some (some x) ∧ i ∉ vs
  | [], h => ⟨h, by simp⟩
  | v :: vs, h => by
    unfold wipeD at h
    by_cases hi : v = i
    · subst hi
      by_cases hv : v < (wipeD env vs).length
      · rw [List.getElem?_set_self hv] at h; cases h
      · rw [List.getElem?_eq_none (by simpa using hv)] at h; cases h
    · rw [List.getElem?_set_ne hi] at h
      obtain ⟨h1, h2⟩ := wipeD_some h
      exact ⟨h1, fun z => (List.mem_cons.mp z).elim (fun q => hi q.symm) h2⟩
section
variable {X : Cx} {K : PySem.W.Frag} {pm : Bool} {Wx : WZ} {F F0 F1 : Hp} {g g0 g1 : List Addr} {H0 H H1 : Hp} {env : DEnv} {cs cs1 : CS} {σ : St}
theorem Slots.wipe {hx : HX} (s : Slots hx K F g H0 env σ H) (vs : List Nat) : Slots hx K F g H0 (wipeD env vs) (L2.wipe σ vs) H := by
  refine ⟨by rw [wipeD_length, wipe_length]; exact s.len, fun i d h => ?_, fun i xs h => ?_, fun i e h => ?_, fun i j xs ys a h1 h2 h3 h4 => ?_⟩
  · obtain ⟨h, n⟩ := wipeD_some h
    obtain ⟨v, e, r⟩ := s.sh i d h
    exact ⟨v, by rw [wipe_out n]; exact e, r⟩
  · obtain ⟨h, n⟩ := wipeD_some h
    obtain ⟨a, us, e, r⟩ := s.ow i xs h
    exact ⟨a, us, by rw [wipe_out n]; exact e, r⟩
  · obtain ⟨h, n⟩ := wipeD_some h
    obtain ⟨a, cls, d, h1, h2, h3⟩ := s.exc i e h
    exact ⟨a, cls, d, h1, by rw [wipe_out n]; exact h2, h3⟩
  · obtain ⟨h1, n1⟩ := wipeD_some h1
    obtain ⟨h2, n2⟩ := wipeD_some h2
    rw [wipe_out n1] at h3
    rw [wipe_out n2] at h4
    exact s.ne i j xs ys a h1 h2 h3 h4
end

/-! ### targets -/
abbrev Bnd := D → DEnv → Option DEnv
abbrev Bnds := List D → DEnv → Option DEnv
section
variable (X : Cx)
/-- a target; ws: the slots that it sets -/
structure DG (tg : Expr) (ws : List Nat) (b : Bnd) : Prop where
  ex : ∃ t, PG X tg t ∧ ∀ hx pm F g H0 env cs σ H v d env' Q, Wk X.K pm F g cs H → Slots hx X.K F g H0 env σ H → Rep X.K F g v d → b d env = some env' →
    (∀ σ', Slots hx X.K F g H0 env' σ' H → (∀ vs, (∀ i ∈ ws, i ∈ vs) → wipe σ' vs = wipe σ vs) → Q σ' H) → t v σ H Q
structure DGs (tgs : List Expr) (ws : List Nat) (b : Bnds) : Prop where
  ex : ∃ t, PGs X tgs t ∧ ∀ hx pm F g H0 env cs σ H vs ds env' Q, Wk X.K pm F g cs H → Slots hx X.K F g H0 env σ H → Reps X.K F g vs ds → b ds env = some env' →
    (∀ σ', Slots hx X.K F g H0 env' σ' H → (∀ vs, (∀ i ∈ ws, i ∈ vs) → wipe σ' vs = wipe σ vs) → Q σ' H) → t vs σ H Q
end
section
variable {X : Cx} {pm : Bool} {Wx : WZ} {pos : Pos}
def bName (i : Nat) : Bnd := fun d env => some (env.set i (some (.sh d)))
theorem dg_name (i : Nat) {x : Str} (hN : X.N.Nodup) (hi : X.N[i]? = some x := by rfl) (hx : Loc X.env.scope x := by first | exact .inl rfl | exact .inr rfl) (hf : X.fn x = true ∨ X.env.scope.names.lookup x = some .local := by first | exact .inl rfl | exact .inr rfl | assumption) : DG X (.Name x pos) [i] (bName i) := by
  refine ⟨_, pg_name hN hi hx hf, fun hx pm F g H0 env cs σ H v d env' Q w s r e k => ?_⟩
  cases e
  exact k _ (s.set i r) fun vs hm => wipe_set (hm i (by simp))
def bNil : Bnds := fun ds env => match ds with | [] => some env | _ => none
def bCons (b : Bnd) (bs : Bnds) : Bnds := fun ds env => match ds with | d :: ds => (b d env).bind (bs ds) | [] => none
theorem dgs_nil : DGs X [] [] bNil := by
  refine ⟨_, pgs_nil, fun hx pm F g H0 env cs σ H vs ds env' Q w s r e k => ?_⟩
  cases r with
  | nil => cases e; exact ⟨rfl, k σ s fun _ _ => rfl⟩
  | cons _ _ => cases e
theorem dgs_cons {e : Expr} {es : List Expr} {ws us : List Nat} {b : Bnd} {bs : Bnds} (h1 : DG X e ws b) (h2 : DGs X es us bs)
    (hs : (assignEach (e :: es) X.env).map (·.2) = assign e X.env :: (assignEach es X.env).map (·.2) := by rfl) : DGs X (e :: es) (ws ++ us) (bCons b bs) := by
  obtain ⟨t, p, q⟩ := h1.ex
  obtain ⟨t2, p2, q2⟩ := h2.ex
  refine ⟨_, pgs_cons p p2 hs, fun hx pm F g H0 env cs σ H vs ds env' Q w s r e k => ?_⟩
  cases r with
  | nil => cases e
  | @cons v vs d ds r rr =>
    cases e1 : b d env with
    | none =>
      have e : (b d env).bind (bs ds) = some env' := e
      rw [e1] at e; cases e
    | some env1 =>
      have e : (b d env).bind (bs ds) = some env' := e
      rw [e1] at e
      refine ⟨v, vs, rfl, ?_⟩
      refine q hx pm F g H0 env cs σ H v d env1 _ w s r e1 fun σ1 s1 k1 => ?_
      refine q2 hx pm F g H0 env1 cs σ1 H vs ds env' Q w s1 rr e fun σ2 s2 k2 => ?_
      exact k σ2 s2 fun us hm => (k2 us fun i hi => hm i (List.mem_append_right _ hi)).trans (k1 us fun i hi => hm i (List.mem_append_left _ hi))
def bTup (n : Nat) (bs : Bnds) : Bnd := fun d env => match d with | .tup ds => if ds.length = n then bs ds env else none | _ => none
theorem dg_tup {es : List Expr} {k : Nat} {n : Nat} {ws : List Nat} {bs : Bnds} (hc : X.calm = true) (h : DGs X es ws bs)
    (hn : (assignEach es X.env).length = n := by rfl) (hst : (assignEach es X.env).findIdx? (·.1) = none := by rfl) : DG X (.Tuple es k pos) ws (bTup n bs) := by
  obtain ⟨t, p, q⟩ := h.ex
  refine ⟨_, pg_tup hc p hn hst, fun hx pm F g H0 env cs σ H v d env' Q w s r e k => ?_⟩
  cases d with
  | tup ds =>
    have e : (if ds.length = n then bs ds env else none) = some env' := e
    by_cases hl : ds.length = n
    · rw [if_pos hl] at e
      cases r with
      | tup hq rr => exact ⟨_, _, rfl, w.sub.seqT hq, by rw [rr.length]; exact hl, q hx pm F g H0 env cs σ H _ ds env' Q w s rr e k⟩
    · rw [if_neg hl] at e; cases e
  | _ => cases e

/-! ### what is walked over -/
def YD (K : PySem.W.Frag) (F : Hp) (g : List Addr) (xs : List D) : Nat → Hp → V → Hp → Prop := fun i Hc x Hn => ∃ d, xs[i]? = some d ∧
  ((Hn = Hc ∧ Rep K F g x d) ∨ ∃ T v u dv du, x = .ref T ∧ Hc T = none ∧ Hn = upd Hc T (.tup [v, u]) ∧ Rep K F g v dv ∧ Rep K F g u du ∧ d = .tup [dv, du])
abbrev rI (K : PySem.W.Frag) : Rel (List D) It := fun F g _ J xs => L2.Walk J xs.length (fun H' => Le F H') (YD K F g xs)
theorem YD.step {K : PySem.W.Frag} {F F1 : Hp} {g g1 : List Addr} {cs : CS} {H H' : Hp} {xs : List D} {i : Nat} {x : V} {d : D} (y : YD K F g xs i H x H') (hd : xs[i]? = some d) (w : Wk K pm F1 g1 cs H) (l : Le F F1) (p : Pre g g1) :
    ∃ F2, Wk K pm F2 g1 cs H' ∧ Nx pm F1 g1 H F2 g1 H' ∧ Rep K F2 g1 x d := by
  obtain ⟨d', e, h⟩ := y
  rw [hd] at e
  cases e
  rcases h with ⟨rfl, r⟩ | ⟨T, v, u, dv, du, rfl, hT, rfl, r1, r2, rfl⟩
  · exact ⟨F1, w, .refl _ _ _ _, r.mono l p⟩
  · obtain ⟨w1, x1⟩ := w.alloc (o := .tup [v, u]) hT
    exact ⟨_, w1, x1, .tup (.inl (.inl upd_same)) (.cons (r1.mono (l.trans x1.lf) p) (.cons (r2.mono (l.trans x1.lf) p) .nil))⟩
structure DI (X : Cx) (pm : Bool) (Wx : WZ) (tg iter : Expr) (f : DEnv → M (List D)) : Prop where
  ex : ∃ t, PI X tg iter t ∧ ∀ F g H0 env cs σ H R, Wk X.K pm F g cs H → Slots Wx.hx X.K F g H0 env σ H → Post (rI X.K) X.K pm Wx σ F g H R (f env cs) → t σ H R
variable {tg e a b : Expr} {es : List Expr} {f fa fb : DEnv → M D} {fr : DEnv → M (List D)}
/-- a list, a tuple, a text -/
def chars (x : Str) : List D := x.cps.toList.map fun c => .str ⟨#[c]⟩
def itD : D → M (List D)
  | .lst xs => pure xs
  | .rol xs => pure xs
  | .tup xs => pure xs
  | .str x => pure (chars x)
  | _ => bad
def iAny (K : PySem.W.Frag) (tl : TE) : TI := fun σ H R => tl σ H fun x H1 => (∃ a, x = .ref a ∧ (∃ xs, SqL K H1 a xs) ∧ R (Itl K a) H1) ∨ (∃ a, x = .ref a ∧ (∃ xs, SqT K H1 a xs) ∧ R (Itt K a) H1) ∨ ∃ z, x = .str z ∧ R (Its z) H1
theorem pi_any {l : Expr} {tl : TE} (hl : PE X l tl) : PI X tg l (iAny X.K tl) := by
  constructor
  intro pins s σ H R I h
  refine thn (hl.run pins s σ H _ I h) ?_
  rintro v s1 ⟨x, H1, I1, r1, ⟨a, rfl, ⟨xs, hq⟩, q⟩ | ⟨a, rfl, ⟨xs, hq⟩, q⟩ | ⟨z, rfl, q⟩⟩
  · cases r1
    obtain ⟨its, -, p, -⟩ := I1.list hq
    exact wpAny_pyIter_list p.isList (pi_one (tk := s1.toks) I1 _ (turn_list a _) ⟨_, Heap.get?_push_size _ rfl, rfl, rfl⟩ q)
  · cases r1
    obtain ⟨its, -, p, -⟩ := I1.tuple hq
    exact wpAny_pyIter_tuple (items := its.toArray) p (pi_one (tk := s1.toks) I1 _ (turn_tuple a _) ⟨_, Heap.get?_push_size _ rfl, rfl, rfl⟩ q)
  · obtain ⟨t, rfl⟩ := r1
    by_cases ha : z.cps.all (· < 128) = true
    · exact wpAny_pyIter_ascii ha (pi_one (tk := s1.toks) I1 _ (turn_str _ z t _ (.inl rfl)) ⟨_, Heap.get?_push_size _ rfl, rfl, rfl⟩ q)
    · exact wpAny_pyIter_wide (eq_false_of_ne_true ha) (pi_one (tk := s1.toks) I1 _ (turn_str _ z t _ (.inr rfl)) ⟨_, Heap.get?_push_size _ rfl, rfl, rfl⟩ q)
theorem YD.of {K : PySem.W.Frag} {F : Hp} {g : List Addr} {xs : List D} {vs : List V} {i : Nat} {H H' : Hp} {x : V} (r : Reps K F g vs xs) (y : YAt vs i H x H') : YD K F g xs i H x H' := by
  obtain ⟨e, h⟩ := y
  obtain ⟨d, h2, h3⟩ := r.getV h
  exact ⟨d, h2, .inl ⟨e, h3⟩⟩
theorem di_any (h : DE X pm Wx e f) : DI X pm Wx tg e (fun env => f env >>= itD) := by
  obtain ⟨t, p, q⟩ := h.ex
  refine ⟨_, pi_any p, fun F g H0 env cs σ H R w s z => ?_⟩
  refine q F g H0 env cs σ H _ w s (Post.bind (rel2 := rI X.K) z fun d cs1 v H1 F1 g1 w1 x1 r1 z1 => ?_)
  cases r1 with
  | lst h1 rr =>
    refine .inl ⟨_, rfl, ⟨_, SqL.of (w1.sub _ _ h1)⟩, Post.now (rel := rI X.K) (cs := cs1) z1 w1 ?_⟩
    show L2.Walk _ _ _ _
    rw [← rr.length]
    exact walk_list.mono (fun H' l => SqL.of (l _ _ h1)) fun i H x H' _ _ y => .of rr y
  | rol h1 rr =>
    refine .inl ⟨_, rfl, ⟨_, w1.sub.seqL h1⟩, Post.now (rel := rI X.K) (cs := cs1) z1 w1 ?_⟩
    show L2.Walk _ _ _ _
    rw [← rr.length]
    exact walk_list.mono (fun H' l => l.seqL h1) fun i H x H' _ _ y => .of rr y
  | tup h1 rr =>
    refine .inr (.inl ⟨_, rfl, ⟨_, w1.sub.seqT h1⟩, Post.now (rel := rI X.K) (cs := cs1) z1 w1 ?_⟩)
    show L2.Walk _ _ _ _
    rw [← rr.length]
    exact walk_tup.mono (fun H' l => l.seqT h1) fun i H x H' _ _ y => .of rr y
  | str x =>
    refine .inr (.inr ⟨x, rfl, Post.now (rel := rI X.K) (cs := cs1) (d := chars x) z1 w1 ?_⟩)
    have hl : (chars x).length = x.cps.size := by simp [chars]
    show L2.Walk _ _ _ _
    rw [hl]
    refine walk_str.mono (fun _ _ => trivial) fun i H v H' hi _ y => ?_
    obtain ⟨e, c, h, rfl⟩ := y
    refine ⟨.str ⟨#[c]⟩, ?_, .inl ⟨e, .str _⟩⟩
    unfold chars
    rw [List.getElem?_map, Array.getElem?_toList, h]
    rfl
  | _ => exact z1.elim
/-- range -/
def upTo (lo : Int) (n : Nat) : List D := (List.range n).map fun i => .int (lo + (i : Nat))
theorem upTo_length (lo : Int) (n : Nat) : (upTo lo n).length = n := by simp [upTo]
theorem upTo_get {lo : Int} {n i : Nat} (h : i < n) : (upTo lo n)[i]? = some (.int (lo + (i : Nat))) := by
  unfold upTo
  rw [List.getElem?_map, List.getElem?_range h]
  rfl
def rngOk (i j : Int) : Bool := decide (-(2 ^ 62) ≤ i) && decide (i < 2 ^ 62) && (decide (-(2 ^ 62) ≤ j) && decide (j < 2 ^ 62))
def rng1 (ds : List D) : M (List D) := match ds with
  | [.int j] => if rngOk 0 j then pure (upTo 0 j.toNat) else bad
  | _ => bad
def rng2 (ds : List D) : M (List D) := match ds with
  | [.int i, .int j] => if rngOk i j then pure (upTo i (j - i).toNat) else bad
  | _ => bad
theorem walk_upTo {K : PySem.W.Frag} {F : Hp} {g : List Addr} {lo : Int} {n : Nat} : L2.Walk (Itr lo n) (upTo lo n).length (fun H' => Le F H') (YD K F g (upTo lo n)) := by
  rw [upTo_length]
  refine walk_range.mono (fun _ _ => trivial) fun i H x H' hi _ y => ?_
  obtain ⟨e, rfl⟩ := y
  exact ⟨_, upTo_get hi, .inl ⟨e, .int _⟩⟩
theorem rngOk_ok {i j : Int} (h : rngOk i j = true) : -(2 ^ 62) ≤ i ∧ i < 2 ^ 62 ∧ -(2 ^ 62) ≤ j ∧ j < 2 ^ 62 := by
  unfold rngOk at h
  simp only [Bool.and_eq_true, decide_eq_true_eq] at h
  exact ⟨h.1.1, h.1.2, h.2.1, h.2.2⟩
theorem di_range1 {p : Pos} (hg : Gl X "range") (hm : X.mg "range" = none) (ha : DAB X pm Wx [a] fr) (hs : starEach [a] X.env = [(false, eval a X.env)] := by rfl) : DI X pm Wx tg (.Call (.Name "range" p) [a] [] pos) (fun env => fr env >>= rng1) := by
  obtain ⟨t, p, q⟩ := ha.ex
  refine ⟨_, pi_range1 hg hm p hs, fun F g H0 env cs σ H R w s z => ?_⟩
  refine q F g H0 env cs σ H _ w s (Post.bind (rel2 := rI X.K) z fun ds cs1 vs H1 F1 g1 w1 x1 r1 z1 => ?_)
  unfold rng1 at z1
  split at z1
  · rename_i j
    obtain ⟨v, rfl, r⟩ := r1.one
    split at z1
    · rename_i ok
      obtain ⟨-, -, h1, h2⟩ := rngOk_ok ok
      exact ⟨j, by rw [r.int], h1, h2, Post.now (rel := rI X.K) (cs := cs1) z1 w1 walk_upTo⟩
    · exact z1.elim
  · exact z1.elim
theorem di_range2 {p : Pos} (hg : Gl X "range") (hm : X.mg "range" = none) (ha : DAB X pm Wx [a, b] fr) (hs : starEach [a, b] X.env = [(false, eval a X.env), (false, eval b X.env)] := by rfl) (hs2 : starEach [b] X.env = [(false, eval b X.env)] := by rfl) :
    DI X pm Wx tg (.Call (.Name "range" p) [a, b] [] pos) (fun env => fr env >>= rng2) := by
  obtain ⟨t, p, q⟩ := ha.ex
  refine ⟨_, pi_range2 hg hm p hs hs2, fun F g H0 env cs σ H R w s z => ?_⟩
  refine q F g H0 env cs σ H _ w s (Post.bind (rel2 := rI X.K) z fun ds cs1 vs H1 F1 g1 w1 x1 r1 z1 => ?_)
  unfold rng2 at z1
  split at z1
  · rename_i i j
    obtain ⟨v, u, rfl, r, r'⟩ := r1.two
    split at z1
    · rename_i ok
      exact ⟨i, j, by rw [r.int, r'.int], rngOk_ok ok, Post.now (rel := rI X.K) (cs := cs1) z1 w1 walk_upTo⟩
    · exact z1.elim
  · exact z1.elim
/-! ### enumerate -/
/-- a tuple at a, its items in new pairs -/
def IteT (K : PySem.W.Frag) (a : Addr) : It where
  go i H := ∃ (xs : List V) (x : V), SqT K H a xs ∧ xs[i]? = some x
  yld i H v H' := ∃ T x, v = .ref T ∧ H T = none ∧ H' = upd H T (.tup [.int (i : Nat), x]) ∧ ∀ xs, SqT K H a xs → xs[i]? = some x
  stop i H := ∃ xs : List V, SqT K H a xs ∧ xs.length = i
theorem turn_enumT {P : Program} {w : World} {K : PySem.W.Frag} {elts : List Expr} {kk : Nat} {tpos : Pos} (a e it : Addr) :
    Turn P w K (.Tuple elts kk tpos) (IteT K a) [e, it] e (fun i h => (∃ old, IsEnum h e it ((i : Nat) : Int) old) ∧ h.IsTupleIter it a i ∧ e ≠ it ∧ a ≠ it) where
  mem := List.mem_cons_self
  obj := fun i h ⟨⟨old, he⟩, ⟨o, ho, _, hd⟩, _⟩ b hb => by
    rcases List.mem_cons.mp hb with rfl | hb
    · exact ⟨_, he, fun v q => nomatch q⟩
    · rw [List.mem_singleton.mp hb]
      refine ⟨o, ho, fun v q => ?_⟩
      rw [hd] at q
      cases q
  keep := fun i h h' ⟨⟨old, he⟩, hi, hne⟩ k => ⟨⟨old, k e (by simp) _ he⟩, hi.at fun o q => k it (by simp) o q, hne⟩
  item := by
    rintro X rfl rfl rfl hc i pins s σ H E I hf ⟨⟨old, he⟩, hit, hne, hai⟩ ⟨xs, x, hq, hx⟩
    obtain ⟨its, rv, p, -⟩ := I.tuple hq
    have el : e < s.heap.objs.size := Heap.lt_size he
    have il : it < s.heap.objs.size := by
      obtain ⟨_, q, _⟩ := hit
      exact Heap.lt_size q
    have al : i < its.toArray.size := by
      rw [List.size_toArray, ← rv.length]
      exact (List.getElem?_eq_some_iff.mp hx).1
    have hea : e ≠ a := fun z => by
      obtain ⟨o, ho, hcl, _⟩ := p
      rw [← z, he] at ho
      cases ho
      exact absurd (Value.type.inj hcl) (by decide)
    refine wpAny_pyNext_enum_itemC (Draws.tuple (A := X.A.in1) (I.ok.hd hc) it a hai its.toArray) he ⟨hit, p⟩ al hne (by simp [hne, hea]) fun y h' tk hy ho hs' hT hsz hk => ⟨_, rfl, ?_⟩
    refine wpAny_letOwnedTupleGo_enum (s := { s with heap := h', toks := tk + 1 }) ho fun h2 he2 sb => ?_
    have back : ∀ b ∈ [e, it], b < s.heap.objs.size := fun b hb => by
      rcases List.mem_cons.mp hb with rfl | hb
      · exact el
      · rw [List.mem_singleton.mp hb]; exact il
    have tup2 : h2.get? s.heap.objs.size = some { cls := .type "tuple", data := .seq #[.int i tk, y] } := (sb.2 _ (Nat.ne_of_gt el)).trans hT
    have ry : RelV x y := by
      obtain ⟨u, hu, ru⟩ := rv.get hx
      have : its.toArray[i]? = some u := by simpa using hu
      rw [this] at hy
      cases hy
      exact ru
    have ok : ObjOk X.prog X.w (upd H s.heap.objs.size (.tup [.int (i : Nat), x])) h2 s.heap.objs.size (.tup [.int (i : Nat), x]) := by
      refine ⟨by show 2 ≤ sizeLine; decide, [.int i tk, y], .cons ⟨_, rfl⟩ (.cons ry .nil), ?_⟩
      exact ⟨_, tup2, rfl, _, rfl⟩
    have I2 : Inv X pins σ (upd H s.heap.objs.size (.tup [.int (i : Nat), x])) { s with heap := h2, toks := tk + 1 } := by
      refine I.turnedNew (ch := [e, it]) (fun b ob hb q => ?_) hf (Nat.le_refl _) ok
      have n1 : b ≠ e := fun z => hb (by rw [z]; simp)
      have n2 : b ≠ it := fun z => hb (by rw [z]; simp)
      exact (sb.2 b n1).trans (hk b ob n1 n2 q)
    refine ⟨.ref s.heap.objs.size, _, I2, rfl, ⟨_, x, rfl, I.hok.fresh (Nat.le_refl _), rfl, fun ys hy => ?_⟩, ⟨⟨y, ?_⟩, hs'.1.at fun o q => (sb.2 it (Ne.symm hne)).trans q, hne, hai⟩, fun b hb => ?_⟩
    · rw [I.tuple_inj hy hq]
      exact hx
    · rw [show ((i + 1 : Nat) : Int) = (i : Int) + 1 by omega]
      exact he2
    · rw [upd_ne (Nat.ne_of_lt (back b hb))]
      exact (hf b hb).1
  done := by
    rintro X rfl rfl rfl hc i pins s σ H E I hf ⟨⟨old, he⟩, hit, hne, hai⟩ ⟨xs, hq, hx⟩
    obtain ⟨its, rv, p, -⟩ := I.tuple hq
    obtain ⟨f0, f1, f2, f3, f4, f5⟩ := hf it (by simp)
    have dr := Draws.tuple (prog := X.prog) (w := X.w) (A := X.A.in1) (I.ok.hd hc) it a hai its.toArray
    have hn : i = its.toArray.size := by rw [List.size_toArray, ← rv.length, hx]
    rw [hn] at hit
    refine wpAny_pyNext_enum_endD dr he ⟨hit, p⟩ fun h' eb => ⟨rfl, ?_⟩
    exact I.turned (t' := s.toks) (fun b o hb q => eb b o hb q) f0 f1 f3 f4 f5
  self := fun A i s Q E ⟨⟨_, he⟩, _⟩ h => wpAny_pyIter_enum he h
/-- enumerate(v): its two new cells -/
theorem meets_enum1 {v : Value} {o : Obj} {H : Heap → Prop} (B : Begins v o H) :
    Meets (Builtin.«enumerate.__new__» ⟨[.type "enumerate", v], []⟩) (fun _ R s => H s.heap ∧
      R (.ok (.ret (.ref (s.heap.push o).objs.size))) { s with heap := (s.heap.push o).push { cls := .type "enumerate", data := .fields #[.none, .bool false, .ref s.heap.objs.size, rawInt 0, .none, .none] } }) :=
  .of_wp fun prog w A R s h => by
    obtain ⟨hp, g, d, tk, os⟩ := s
    obtain ⟨h1, h⟩ := h
    have sub := sub_enumerate
    have q1 : ∀ {A' : Around} {E : Value → Shared → Prop} {Q : Value → Shared → Prop}, Q (.ref hp.objs.size) ⟨hp.push o, g, d, tk, os⟩ → wpAny (model prog w) A' (pyIter v) Q E ⟨hp, g, d, tk, os⟩ :=
      fun q => B.iter prog w _ _ ⟨hp, g, d, tk, os⟩ _ h1 q
    wp_walk
    refine wpAny_stack_any fun st => wpAny_pure ?_
    split
    · rename_i c _ _ _ _ _
      cases (c == Value.type "enumerate")
      · wp_walk using q1
        exact ⟨_, rfl, h⟩
      · wp_walk using q1
        exact ⟨_, rfl, h⟩
    · wp_walk using q1
      exact ⟨_, rfl, h⟩
theorem call_enumT {prog : Program} {w : World} {A : Around} {E : Value → Shared → Prop} {s : Shared} {a : Addr} {items : Array Value} {Q : Value → Shared → Prop} (hL : s.heap.IsTuple a items)
    (h : ∀ h', IsEnum h' (s.heap.objs.size + 1) s.heap.objs.size 0 .none → h'.IsTupleIter s.heap.objs.size a 0 → (∀ b o, s.heap.get? b = some o → h'.get? b = some o) → Q (.ref (s.heap.objs.size + 1)) { s with heap := h' }) :
    wpAny (model prog w) A (call (.type "enumerate") [.ref a]) Q E s := by
  refine callType_new F.called_enumerate (by decide) (F.typeCall_enumerate_1 _) (F.newCall_enumerate_1 _) (fun obj => F.args_object_init_2 obj _) F.entry_enumerate_new (meets_enum1 (begins_tuple a items)) ⟨hL, ?_⟩
  generalize ho : ({ cls := .type "tuple_iterator", data := .fields #[.ref a, .int 0 0] } : Obj) = o
  have fr : o.isFreed = false := by rw [← ho]; rfl
  have hz : (s.heap.push o).objs.size = s.heap.objs.size + 1 := Heap.size_push ..
  show _ ∧ _
  rw [hz]
  have he : IsEnum ((s.heap.push o).push { cls := .type "enumerate", data := .fields #[.none, .bool false, .ref s.heap.objs.size, rawInt 0, .none, .none] }) (s.heap.objs.size + 1) s.heap.objs.size 0 .none := by
    have q := Heap.get?_push_size (s.heap.push o) (o := { cls := .type "enumerate", data := .fields #[.none, .bool false, .ref s.heap.objs.size, rawInt 0, .none, .none] }) rfl
    rw [hz] at q
    exact q
  refine ⟨⟨_, he, rfl⟩, h _ he ?_ fun b u x => Heap.get?_push_of_some _ (Heap.get?_push_of_some _ x)⟩
  refine ⟨o, Heap.get?_push_of_some _ (Heap.get?_push_size _ fr), ?_⟩
  subst ho
  exact ⟨rfl, rfl⟩
def iEnumA (K : PySem.W.Frag) (ta : TA) : TI := fun σ H R => ta σ H fun vs H1 => ∃ a xs, vs = [.ref a] ∧ ((SqL K H1 a xs ∧ R (Ite K a) H1) ∨ (SqT K H1 a xs ∧ R (IteT K a) H1))
theorem pi_enumA {p tpos : Pos} {elts : List Expr} {kk : Nat} {ta : TA} (hg : Gl X "enumerate") (hm : X.mg "enumerate" = none) (ha : PA X [e] ta) (hs : starEach [e] X.env = [(false, eval e X.env)] := by rfl) :
    PI X (.Tuple elts kk tpos) (.Call (.Name "enumerate" p) [e] [] pos) (iEnumA X.K ta) := by
  constructor
  intro pins s σ H R I h
  refine Call_ (ld_blt I hg hm boot_enumerate (PyProof.Rows.callWith_type1 (thn (ha.run pos pins s σ H _ I h) ?_) hs rfl))
  rintro us s1 ⟨vs, H1, I1, r1, a, xs, rfl, q⟩
  cases r1 with
  | cons r rr =>
    cases rr
    cases r
    have two : ∀ b, b ∈ [s1.heap.objs.size + 1, s1.heap.objs.size] → FpOk X pins H1 b := fun b hb => by
      have le : s1.heap.objs.size ≤ b := by
        rcases List.mem_cons.mp hb with rfl | hb
        · exact Nat.le_add_right _ _
        · rw [List.mem_singleton.mp hb]
          exact Nat.le_refl _
      exact I1.fpOk le (I1.hok.fresh le)
    rcases q with ⟨hq, q⟩ | ⟨hq, q⟩
    · obtain ⟨its, rv, p', -⟩ := I1.list hq
      refine call_enumerate_list p'.isList fun h' he hit hsz hk => wpAny_pyIter_enum he ?_
      exact ⟨s1.heap.objs.size + 1, _, _, _, H1, rfl, I1.kept (t' := s1.toks) hk, turn_enum a (s1.heap.objs.size + 1) s1.heap.objs.size, ⟨⟨.none, he⟩, hit, Nat.succ_ne_self _⟩, two, q⟩
    · obtain ⟨its, rv, p', -⟩ := I1.tuple hq
      have al : a < s1.heap.objs.size := p'.lt
      refine call_enumT (items := its.toArray) p' fun h' he hit hk => wpAny_pyIter_enum he ?_
      exact ⟨s1.heap.objs.size + 1, _, _, _, H1, rfl, I1.kept (t' := s1.toks) hk, turn_enumT a (s1.heap.objs.size + 1) s1.heap.objs.size, ⟨⟨.none, he⟩, hit, Nat.succ_ne_self _, Nat.ne_of_lt al⟩, two, q⟩
def enumL (i : Nat) : List D → List D
  | [] => []
  | d :: ds => .tup [.int (i : Nat), d] :: enumL (i + 1) ds
theorem enumL_get : ∀ {ds : List D} {n i : Nat} {d : D}, ds[i]? = some d → (enumL n ds)[i]? = some (.tup [.int ((n + i : Nat) : Int), d])
  | [], _, _, _, h => by simp at h
  | d :: ds, n, 0, _, h => by
    simp at h
    subst h
    simp [enumL]
  | d :: ds, n, i + 1, d', h => by
    have ih := enumL_get (ds := ds) (n := n + 1) (i := i) (d := d') (by simpa using h)
    rw [show n + (i + 1) = n + 1 + i by omega]
    simpa [enumL] using ih
theorem enumL_length : ∀ (ds : List D) (n : Nat), (enumL n ds).length = ds.length
  | [], _ => rfl
  | _ :: ds, n => congrArg Nat.succ (enumL_length ds (n + 1))
def enumD (ds : List D) : M (List D) := match ds with
  | [d] => viewS d >>= fun xs => pure (enumL 0 xs)
  | _ => bad
theorem YD.enum {K : PySem.W.Frag} {F : Hp} {g : List Addr} {xs : List D} {vs : List V} {i : Nat} {H H' : Hp} {x : V} (r : Reps K F g vs xs) (y : ∃ T z, x = .ref T ∧ H T = none ∧ H' = upd H T (.tup [.int (i : Nat), z]) ∧ vs[i]? = some z) : YD K F g (enumL 0 xs) i H x H' := by
  obtain ⟨T, z, rfl, hT, rfl, hz⟩ := y
  obtain ⟨d, h1, h2⟩ := r.getV hz
  refine ⟨_, enumL_get h1, .inr ⟨T, _, _, _, _, rfl, hT, rfl, .int _, h2, ?_⟩⟩
  rw [Nat.zero_add]
theorem Rep.seq {K : PySem.W.Frag} {F : Hp} {g : List Addr} {v : V} {d : D} (r : Rep K F g v d) {xs : List D} {cs cs' : CS} (h : viewS d cs = .ok xs cs') (nc : ∀ k, d ≠ .cell k) : cs' = cs ∧ ∃ a vs, v = .ref a ∧ Reps K F g vs xs ∧ ((∀ H, Le F H → SqL K H a vs) ∨ (∀ H, Le F H → SqT K H a vs)) := by
  cases r with
  | lst h1 rr =>
    have h : (Res.ok _ cs : Res (List D)) = .ok xs cs' := h
    cases h
    exact ⟨rfl, _, _, rfl, rr, .inl fun H l => SqL.of (l _ _ h1)⟩
  | rol h1 rr =>
    have h : (Res.ok _ cs : Res (List D)) = .ok xs cs' := h
    cases h
    exact ⟨rfl, _, _, rfl, rr, .inl fun H l => l.seqL h1⟩
  | tup h1 rr =>
    have h : (Res.ok _ cs : Res (List D)) = .ok xs cs' := h
    cases h
    exact ⟨rfl, _, _, rfl, rr, .inr fun H l => l.seqT h1⟩
  | cell => exact absurd rfl (nc _)
  | _ => cases h
/-- the list or tuple that a frozen value is -/
def seqD : D → M (List D)
  | .lst xs => pure xs
  | .rol xs => pure xs
  | .tup xs => pure xs
  | _ => bad
theorem Rep.seqv {K : PySem.W.Frag} {F : Hp} {g : List Addr} {v : V} {d : D} (r : Rep K F g v d) {xs : List D} {cs cs' : CS} (h : seqD d cs = .ok xs cs') : cs' = cs ∧ ∃ a vs, v = .ref a ∧ Reps K F g vs xs ∧ ((∀ H, Le F H → SqL K H a vs) ∨ (∀ H, Le F H → SqT K H a vs)) := by
  cases d with
  | lst _ => exact r.seq h (fun k z => nomatch z)
  | rol _ => exact r.seq h (fun k z => nomatch z)
  | tup _ => exact r.seq h (fun k z => nomatch z)
  | _ => cases h
theorem seqD_ok (d : D) (cs : CS) : (∃ xs, seqD d cs = .ok xs cs) ∨ seqD d cs = .bad := by
  cases d with
  | lst _ => exact .inl ⟨_, rfl⟩
  | rol _ => exact .inl ⟨_, rfl⟩
  | tup _ => exact .inl ⟨_, rfl⟩
  | _ => exact .inr rfl
theorem Post.seqv {α β : Type} {rel : Rel α β} {K : PySem.W.Frag} {F : Hp} {g : List Addr} {H : Hp} {σ : St} {v : V} {d : D} {cs : CS} {Q : β → Hp → Prop} {k : List D → M α} (p : Post rel K pm Wx σ F g H Q ((seqD d >>= k) cs)) (r : Rep K F g v d) :
    ∃ xs a vs, v = .ref a ∧ Reps K F g vs xs ∧ ((∀ H, Le F H → SqL K H a vs) ∨ (∀ H, Le F H → SqT K H a vs)) ∧ Post rel K pm Wx σ F g H Q (k xs cs) := by
  rw [M.bind_run] at p
  rcases seqD_ok d cs with ⟨xs, h⟩ | h
  · rw [h] at p
    obtain ⟨-, a, vs, h1, h2, h3⟩ := r.seqv h
    exact ⟨xs, a, vs, h1, h2, h3, p⟩
  · rw [h] at p
    exact p.elim
theorem di_enum {p tpos : Pos} {elts : List Expr} {kk : Nat} (hg : Gl X "enumerate") (hm : X.mg "enumerate" = none) (ha : DE X pm Wx e f) (hs : starEach [e] X.env = [(false, eval e X.env)] := by rfl) :
    DI X pm Wx (.Tuple elts kk tpos) (.Call (.Name "enumerate" p) [e] [] pos) (fun env => f env >>= fun d => seqD d >>= fun xs => pure (enumL 0 xs)) := by
  obtain ⟨t, p, q⟩ := ha.ex
  refine ⟨_, pi_enumA hg hm (pa_cons p pa_nil hs) hs, fun F g H0 env cs σ H R w s z => ?_⟩
  refine q F g H0 env cs σ H _ w s (Post.bind (rel2 := rI X.K) z fun d cs1 v H1 F1 g1 w1 x1 r1 z1 => ?_)
  obtain ⟨xs, a, vs, rfl, rr, h, z1⟩ := z1.seqv r1
  refine ⟨a, vs, rfl, ?_⟩
  have hl : (enumL 0 xs).length = vs.length := (enumL_length xs 0).trans rr.length.symm
  rcases h with h | h
  · refine .inl ⟨h H1 w1.sub, Post.now (rel := rI X.K) (cs := cs1) z1 w1 ?_⟩
    show L2.Walk _ _ _ _
    rw [hl]
    refine walk_enum.mono (fun H' l => h H' l) fun i H x H' _ _ y => .enum rr ?_
    obtain ⟨T, z, u, e1, e2, e3, e4, e5⟩ := y
    cases e4
    exact ⟨T, u, e1, e2, e3, e5⟩
  · refine .inr ⟨h H1 w1.sub, Post.now (rel := rI X.K) (cs := cs1) z1 w1 ?_⟩
    show L2.Walk _ _ _ _
    rw [hl]
    refine ⟨fun i H hi l => ?_, fun H l => ⟨vs, h H l, rfl⟩, fun i H x H' hi l y => .enum rr ?_⟩
    · exact ⟨vs, vs[i], h H l, by simp [hi]⟩
    · obtain ⟨T, z, e1, e2, e3, e4⟩ := y
      exact ⟨T, z, e1, e2, e3, e4 vs (h H l)⟩
/-! ### zip of two lists, of two tuples -/
def zipL : List D → List D → List D
  | x :: xs, y :: ys => .tup [x, y] :: zipL xs ys
  | _, _ => []
theorem zipL_length : ∀ (xs ys : List D), (zipL xs ys).length = min xs.length ys.length
  | [], _ => by simp [zipL]
  | _ :: _, [] => by simp [zipL]
  | _ :: xs, _ :: ys => by simp [zipL, zipL_length xs ys]
theorem zipL_get : ∀ {xs ys : List D} {i : Nat} {x y : D}, xs[i]? = some x → ys[i]? = some y → (zipL xs ys)[i]? = some (.tup [x, y])
  | [], _, _, _, _, h, _ => by simp at h
  | _ :: _, [], _, _, _, _, h => by simp at h
  | x :: xs, y :: ys, 0, _, _, h1, h2 => by simp at h1 h2; subst h1 h2; simp [zipL]
  | x :: xs, y :: ys, i + 1, _, _, h1, h2 => by
    have ih := zipL_get (xs := xs) (ys := ys) (i := i) (by simpa using h1) (by simpa using h2)
    simpa [zipL] using ih
end
end Dn

end
set_option maxHeartbeats 4000000
section
namespace Dn
open PySem PySem.Spec L2
open PyProof.Rows hiding St

section
variable {X : Cx} {pm : Bool} {Wx : WZ} {pos : Pos} {tg e a b iter : Expr} {es : List Expr} {f fa fb : DEnv → M D} {fr : DEnv → M (List D)}
/-! ### for -/
/-- behind a turn of a loop -/
def afterS (r : SRes) (k : SD) : SRes := match r with
  | .ok .nx env cs => k env cs
  | .ok .ct env cs => k env cs
  | .ok .bk env cs => .ok .nx env cs
  | r => r
def loopS (b : Bnd) (body : SD) : List D → SD
  | [], env, cs => .ok .nx env cs
  | x :: xs, env, cs => match b x env with
    | none => .bad
    | some env1 => afterS (body env1 cs) (loopS b body xs)
def forS (it : DEnv → M (List D)) (b : Bnd) (body : SD) : SD := fun env => thenS (it env) env fun xs => loopS b body xs
theorem ds_for {body : List Stmt} {ws : List Nat} {bd : Bnd} {k : SD} (hp : PassesOwn (model X.prog X.w) X.A X.env X.xe) (hc : X.calm = true) (hi : DI X pm Wx tg iter fr) (hg : DG X tg ws bd) (hb : DSs X pm Wx body k)
    (hs : ∀ x, foldedSetIterable iter X.env x = pure x := by intro _; rfl) : DS X pm Wx (.For tg iter body [] pos) (forS fr bd k) := by
  obtain ⟨ti, pi, qi⟩ := hi.ex
  obtain ⟨tg', pg, qg⟩ := hg.ex
  obtain ⟨tb, pb, qb⟩ := hb.ex
  refine ⟨_, ps_for hp hc pi pg pb hs, fun F0 g0 H0 F g env cs σ H Dd r z => ?_⟩
  refine qi F g H0 env cs σ H _ r.w r.s (PostS.expr (rel := rI X.K) r z fun xs cs1 J H1 F1 g1 r1 x1 W z1 => ?_)
  refine for_it W (fun i σ' H' => ∃ F' g' env' cs', RS Wx.hx X.K pm ⟨F0.F, F1, g1⟩ g0 H0 F' g' env' cs' σ' H' ∧ Le F0.Fc F' ∧ Pre F0.gc g' ∧ PostS X.K pm F0 g0 H0 Wx Dd (loopS bd k (xs.drop i) env' cs')) ?_ ?_ ?_ ?_
  · exact ⟨F1, g1, env, cs1, ⟨r1.w, r1.s, r1.n, .refl _, .refl _⟩, r1.c.1, r1.c.2, z1⟩
  · rintro i σ' H' _ ⟨F', g', env', cs', r', _⟩
    exact r'.c.1.trans r'.w.sub
  · rintro i x σ' H' H2 hi ⟨F', g', env', cs', r', l', p', z'⟩ y
    have hd : xs[i]? = some xs[i] := by simp [hi]
    rw [List.drop_eq_getElem_cons hi] at z'
    obtain ⟨F2, w2, x2, rd⟩ := y.step hd r'.w r'.c.1 r'.c.2
    have r2 := r'.next w2 x2
    unfold loopS at z'
    cases hbd : bd xs[i] env' with
    | none => rw [hbd] at z'; exact z'.elim
    | some env1 =>
      rw [hbd] at z'
      refine qg Wx.hx pm F2 g' H0 env' cs' σ' H2 x xs[i] env1 _ w2 r2.s rd hbd fun σ3 s3 _ => ?_
      -- from what is kept in sight at this loop to what was
      refine qb ⟨F0.F, F2, g'⟩ g0 H0 F2 g' env1 cs' σ3 H2 _ ⟨w2, s3, r2.n, .refl _, .refl _⟩ ?_
      have out : ∀ {F4 : Hp} {g4 : List Addr} {env4 : DEnv} {cs4 : CS} {σ4 : St} {H4 : Hp}, RS Wx.hx X.K pm ⟨F0.F, F2, g'⟩ g0 H0 F4 g4 env4 cs4 σ4 H4 → RS Wx.hx X.K pm F0 g0 H0 F4 g4 env4 cs4 σ4 H4 := fun r4 =>
        ⟨r4.w, r4.s, r4.n, (l'.trans x2.lf).trans r4.c.1, p'.trans r4.c.2⟩
      have on : ∀ {F4 : Hp} {g4 : List Addr} {env4 : DEnv} {cs4 : CS} {σ4 : St} {H4 : Hp}, RS Wx.hx X.K pm ⟨F0.F, F2, g'⟩ g0 H0 F4 g4 env4 cs4 σ4 H4 → PostS X.K pm F0 g0 H0 Wx Dd (loopS bd k (xs.drop (i + 1)) env4 cs4) →
          ∃ F' g' env' cs', RS Wx.hx X.K pm ⟨F0.F, F1, g1⟩ g0 H0 F' g' env' cs' σ4 H4 ∧ Le F0.Fc F' ∧ Pre F0.gc g' ∧ PostS X.K pm F0 g0 H0 Wx Dd (loopS bd k (xs.drop (i + 1)) env' cs') := fun r4 z4 =>
        ⟨_, _, _, _, ⟨r4.w, r4.s, r4.n, r2.c.1.trans r4.c.1, r2.c.2.trans r4.c.2⟩, (out r4).c.1, (out r4).c.2, z4⟩
      have z' : PostS X.K pm F0 g0 H0 Wx Dd (afterS (k env1 cs') (loopS bd k (xs.drop (i + 1)))) := z'
      cases hk : k env1 cs' with
      | bad => rw [hk] at z'; exact z'.elim
      | err x env4 cs4 =>
        rw [hk] at z'
        exact fun cls dx σ4 H4 F4 g4 r4 ea => z' cls dx σ4 H4 F4 g4 (out r4) ea
      | ok fl env4 cs4 =>
        rw [hk] at z'
        cases fl with
        | nx => exact fun σ4 H4 F4 g4 r4 => on r4 z'
        | ct => exact fun σ4 H4 F4 g4 r4 => on r4 z'
        | bk => exact fun σ4 H4 F4 g4 r4 => z' σ4 H4 F4 g4 (out r4)
        | rt d => exact fun v H4 F4 g4 w4 x4 r4 => z' v H4 F4 g4 w4 x4 r4
  · rintro σ' H' ⟨F', g', env', cs', r', l', p', z'⟩
    rw [List.drop_length] at z'
    exact z' σ' H' F' g' ⟨r'.w, r'.s, r'.n, l', p'⟩
/-! ### while, with a bound on the turns -/
def whileS (t : DEnv → M Bool) (body : SD) : Nat → SD
  | 0 => badS
  | n + 1 => fun env => thenS (t env) env fun b => if b then fun env cs => afterS (body env cs) (whileS t body n) else skipS
theorem ds_while {c : Expr} {body : List Stmt} {t : DEnv → M Bool} {k : SD} (fuel : DEnv → CS → Nat) (hp : PassesOwn (model X.prog X.w) X.A X.env X.xe) (hc : DT X pm Wx c t) (hb : DSs X pm Wx body k) :
    DS X pm Wx (.While c body [] pos) (fun env cs => whileS t k (fuel env cs) env cs) := by
  obtain ⟨tc, pc, qc⟩ := hc.ex
  obtain ⟨tb, pb, qb⟩ := hb.ex
  refine ⟨_, ps_whileE hp pc pb pss_nil, fun F0 g0 H0 F g env cs σ H Dd r z => ?_⟩
  refine ⟨fun m σ' H' => ∃ F' g' env' cs', RS Wx.hx X.K pm F0 g0 H0 F' g' env' cs' σ' H' ∧ PostS X.K pm F0 g0 H0 Wx Dd (whileS t k m env' cs'), ⟨_, F, g, env, cs, r, z⟩, ?_⟩
  rintro m σ' H' ⟨F', g', env', cs', r', z'⟩
  cases m with
  | zero => exact z'.elim
  | succ m =>
    refine qc F' g' H0 env' cs' σ' H' _ r'.w r'.s (PostS.expr (rel := rT) r' z' fun b cs1 v H1 F1 g1 r1 x1 e z1 => ?_)
    have e : v = b := e
    subst e
    cases v with
    | false => exact z1 σ' H1 F1 g1 r1
    | true =>
      refine ⟨_, fun σ2 H2 h => ⟨m, Nat.lt_succ_self m, h⟩, ?_⟩
      refine qb F0 g0 H0 F1 g1 env' cs1 σ' H1 _ r1 ?_
      have z1 : PostS X.K pm F0 g0 H0 Wx Dd (afterS (k env' cs1) (whileS t k m)) := z1
      cases hk : k env' cs1 with
      | bad => rw [hk] at z1; exact z1.elim
      | err x env4 cs4 => rw [hk] at z1; exact z1
      | ok fl env4 cs4 =>
        rw [hk] at z1
        cases fl with
        | nx => exact fun σ4 H4 F4 g4 r4 => ⟨F4, g4, env4, cs4, r4, z1⟩
        | ct => exact fun σ4 H4 F4 g4 r4 => ⟨F4, g4, env4, cs4, r4, z1⟩
        | bk => exact z1
        | rt d => exact z1
/-! ### comprehensions -/
/-- nothing is raised -/
def calm {α : Type} (m : M α) : M α := fun cs => match m cs with | .err _ _ => .bad | r => r
theorem Post.calm {α β : Type} {rel : Rel α β} {K : PySem.W.Frag} {Wy : WZ} {σ τ : St} {F : Hp} {g : List Addr} {H : Hp} {Q : β → Hp → Prop} {m : M α} {cs : CS} (p : Post rel K pm Wx σ F g H Q (Dn.calm m cs)) : Post rel K pm Wy τ F g H Q (m cs) := by
  unfold Dn.calm at p
  cases e : m cs with
  | ok a cs' => rw [e] at p; exact p
  | err x cs' => rw [e] at p; exact p.elim
  | bad => rw [e] at p; exact p
def calm_ok {α : Type} (m : M α) (cs : CS) : (∃ a cs', m cs = .ok a cs' ∧ calm m cs = .ok a cs') ∨ calm m cs = .bad := by
  unfold calm
  cases m cs with
  | ok a cs' => exact .inl ⟨a, cs', rfl, rfl⟩
  | _ => exact .inr rfl
def compL (b : Bnd) (t : DEnv → M Bool) (el : DEnv → M D) (env : DEnv) : List D → M (List D)
  | [] => pure []
  | x :: xs => match b x env with
    | none => bad
    | some env1 => calm (t env1) >>= fun k => if k then calm (el env1) >>= fun y => compL b t el env xs >>= fun ys => pure (y :: ys) else compL b t el env xs
def compF (vs : List Nat) (it : DEnv → M (List D)) (b : Bnd) (t : DEnv → M Bool) (el : DEnv → M D) : DEnv → M (List D) := fun env => it env >>= fun xs => compL b t el (wipeD env vs) xs >>= fewL
structure DTs (X : Cx) (pm : Bool) (Wx : WZ) (es : List Expr) (f : DEnv → M Bool) : Prop where
  ex : ∃ t, PTs X es t ∧ ∀ F g H0 env cs σ H Q, Wk X.K pm F g cs H → Slots Wx.hx X.K F g H0 env σ H → Post rT X.K pm Wx σ F g H Q (f env cs) → t σ H Q
theorem dts_nil : DTs X pm Wx [] (fun _ => pure true) := ⟨_, pts_nil, fun F g H0 env cs σ H Q w s z => Post.now (rel := rT) z w rfl⟩
theorem dts_one {t : DEnv → M Bool} (h : DT X pm Wx e t) : DTs X pm Wx [e] t := by
  obtain ⟨u, p, q⟩ := h.ex
  exact ⟨_, pts_one p, q⟩
abbrev noX (Wx : WZ) : WZ := ⟨fun _ _ _ _ => False, Wx.hx⟩
/-- one test of all blocks -/
theorem pg_all {ι : Type} {Xi : ι → Cx} {tg : Expr} {ws : List Nat} {b : Bnd} {K : PySem.W.Frag} (hK : ∀ i, (Xi i).K = K) (h : ∀ i, DG (Xi i) tg ws b) : ∃ t : TG, (∀ i, PG (Xi i) tg t) ∧ ∀ hx pm F g H0 env cs σ H v d env' Q, Wk K pm F g cs H → Slots hx K F g H0 env σ H → Rep K F g v d → b d env = some env' →
    (∀ σ', Slots hx K F g H0 env' σ' H → (∀ vs, (∀ i ∈ ws, i ∈ vs) → wipe σ' vs = wipe σ vs) → Q σ' H) → t v σ H Q := by
  have h' : ∀ i, ∃ t : TG, PG (Xi i) tg t ∧ (∀ hx pm F g H0 env cs σ H v d env' Q, Wk K pm F g cs H → Slots hx K F g H0 env σ H → Rep K F g v d → b d env = some env' →
      (∀ σ', Slots hx K F g H0 env' σ' H → (∀ vs, (∀ i ∈ ws, i ∈ vs) → wipe σ' vs = wipe σ vs) → Q σ' H) → t v σ H Q) := fun i => by
    obtain ⟨t, p, q⟩ := (h i).ex
    rw [hK i] at q
    exact ⟨t, p, q⟩
  refine ⟨fun v σ H Q => ∀ i, (h' i).choose v σ H Q, fun i => ⟨fun pins s σ H v u Q I r hq => (h' i).choose_spec.1.run pins s σ H v u Q I r (hq i)⟩, fun hx pm F g H0 env cs σ H v d env' Q w s r e k i => ?_⟩
  exact (h' i).choose_spec.2 hx pm F g H0 env cs σ H v d env' Q w s r e k
theorem pe_all {ι : Type} {Xi : ι → Cx} {f : DEnv → M D} {K : PySem.W.Frag} (hK : ∀ i, (Xi i).K = K) (h : ∀ i, DE (Xi i) pm Wx e f) : ∃ t : TE, (∀ i, PE (Xi i) e t) ∧ ∀ F g H0 env cs σ H Q, Wk K pm F g cs H → Slots Wx.hx K F g H0 env σ H → Post (rE K) K pm Wx σ F g H Q (f env cs) → t σ H Q := by
  have h' : ∀ i, ∃ t, PE (Xi i) e t ∧ (∀ F g H0 env cs σ H Q, Wk K pm F g cs H → Slots Wx.hx K F g H0 env σ H → Post (rE K) K pm Wx σ F g H Q (f env cs) → t σ H Q) := fun i => by
    obtain ⟨t, p, q⟩ := (h i).ex
    rw [hK i] at q
    exact ⟨t, p, q⟩
  refine ⟨fun σ H Q => ∀ i, (h' i).choose σ H Q, fun i => ⟨fun pins s σ H Q I hq => (h' i).choose_spec.1.run pins s σ H Q I (hq i)⟩, fun F g H0 env cs σ H Q w s z i => ?_⟩
  exact (h' i).choose_spec.2 F g H0 env cs σ H Q w s z
theorem pt_all {ι : Type} {Xi : ι → Cx} {f : DEnv → M Bool} {K : PySem.W.Frag} (hK : ∀ i, (Xi i).K = K) (h : ∀ i, DTs (Xi i) pm Wx es f) : ∃ t : TT, (∀ i, PTs (Xi i) es t) ∧ ∀ F g H0 env cs σ H Q, Wk K pm F g cs H → Slots Wx.hx K F g H0 env σ H → Post rT K pm Wx σ F g H Q (f env cs) → t σ H Q := by
  have h' : ∀ i, ∃ t, PTs (Xi i) es t ∧ (∀ F g H0 env cs σ H Q, Wk K pm F g cs H → Slots Wx.hx K F g H0 env σ H → Post rT K pm Wx σ F g H Q (f env cs) → t σ H Q) := fun i => by
    obtain ⟨t, p, q⟩ := (h i).ex
    rw [hK i] at q
    exact ⟨t, p, q⟩
  refine ⟨fun σ H Q => ∀ i, (h' i).choose σ H Q, fun i => ⟨fun pins s σ H Q I hq => (h' i).choose_spec.1.run pins s σ H Q I (hq i)⟩, fun F g H0 env cs σ H Q w s z i => ?_⟩
  exact (h' i).choose_spec.2 F g H0 env cs σ H Q w s z
/-- what is asked of a block's parts -/
abbrev Blk := Shared × Hp × Addr × List (Str × Addr) × List Addr
abbrev blkX (X : Cx) (scope : Scope) (i : Blk) : Cx := X.blk i.1 i.2.1 scope (compEnvC scope i.2.2.2.1 i.2.2.1 X.env) i.2.2.2.2
theorem compL_calm {b : Bnd} {t : DEnv → M Bool} {el : DEnv → M D} {env : DEnv} : ∀ (xs : List D) (cs : CS), (∃ ys cs', compL b t el env xs cs = .ok ys cs') ∨ compL b t el env xs cs = .bad
  | [], cs => .inl ⟨[], cs, rfl⟩
  | x :: xs, cs => by
    unfold compL
    cases b x env with
    | none => exact .inr rfl
    | some env1 =>
      simp only [M.bind_run]
      rcases calm_ok (t env1) cs with ⟨k, cs1, _, h⟩ | h
      · rw [h]
        cases k with
        | false => exact compL_calm xs cs1
        | true =>
          simp only [if_true, M.bind_run]
          rcases calm_ok (el env1) cs1 with ⟨y, cs2, _, h2⟩ | h2
          · rw [h2]
            rcases compL_calm (b := b) (t := t) (el := el) (env := env) xs cs2 with ⟨ys, cs3, h3⟩ | h3
            · simp only [h3]
              exact .inl ⟨_, _, rfl⟩
            · simp only [h3]
              exact .inr trivial
          · rw [h2]
            exact .inr rfl
      · rw [h]
        exact .inr rfl
theorem comp_ok {K : PySem.W.Frag} {wi : TI} {g : TG} {tt : TT} {te : TE} {vs ws : List Nat} {it : DEnv → M (List D)} {b : Bnd} {t : DEnv → M Bool} {el : DEnv → M D}
    (qi : ∀ F g H0 env cs σ H R, Wk K pm F g cs H → Slots Wx.hx K F g H0 env σ H → Post (rI K) K pm Wx σ F g H R (it env cs) → wi σ H R)
    (qg : ∀ hx pm F gg H0 env cs σ H v d env' Q, Wk K pm F gg cs H → Slots hx K F gg H0 env σ H → Rep K F gg v d → b d env = some env' →
      (∀ σ', Slots hx K F gg H0 env' σ' H → (∀ vs, (∀ i ∈ ws, i ∈ vs) → wipe σ' vs = wipe σ vs) → Q σ' H) → g v σ H Q)
    (qt : ∀ F g H0 env cs σ H Q, Wk K pm F g cs H → Slots Wx.hx K F g H0 env σ H → Post rT K pm (noX Wx) σ F g H Q (t env cs) → tt σ H Q)
    (qe : ∀ F g H0 env cs σ H Q, Wk K pm F g cs H → Slots Wx.hx K F g H0 env σ H → Post (rE K) K pm (noX Wx) σ F g H Q (el env cs) → te σ H Q)
    (hw : ∀ i ∈ ws, i ∈ vs) : ∀ F g0 H0 env cs σ H Q, Wk K pm F g0 cs H → Slots Wx.hx K F g0 H0 env σ H → Post (rF K H) K pm Wx σ F g0 H Q (compF vs it b t el env cs) → tLc wi g tt te vs σ H Q := by
  intro F g0 H0 env cs σ H Q w s z
  refine qi F g0 H0 env cs σ H _ w s (Post.bind (rel2 := rF K H) z fun xs cs1 J H1 F1 g1 w1 x1 W z1 => ?_)
  intro A hA
  have hA0 : H A = none := by
    cases q : H A with
    | none => rfl
    | some u => exact absurd hA (x1.kd A (by rw [q]; exact fun z => nomatch z))
  have s1 := (s.next x1).wipe vs
  refine lc_it W (fun i H' => ∃ F' g' cs' acc ds, Wk K pm F' g' cs' H' ∧ Nx pm F1 g1 H1 F' g' H' ∧ H' A = some (.lst acc) ∧ Reps K F' g' acc ds ∧ F' A = none ∧ A ∉ g' ∧
    Post (rF K H) K pm Wx σ F1 g1 H1 Q ((compL b t el (wipeD env vs) (xs.drop i) >>= fun ys => fewL (ds ++ ys)) cs')) ?_ ?_ ?_ ?_
  · obtain ⟨w2, x2⟩ := w1.alloc0 (o := .lst []) hA
    refine ⟨F1, g1, cs1, [], [], w2, x2, upd_same, .nil, w1.fnone hA, w1.fresh hA, ?_⟩
    simpa using z1
  · rintro i H' _ ⟨F', g', cs', acc, ds, w', x', _⟩
    exact x'.lf.trans w'.sub
  · rintro i x H2 H3 hi ⟨F', g', cs', acc, ds, w', x', hacc, racc, n1, n2, z'⟩ y
    have hd : xs[i]? = some xs[i] := by simp [hi]
    rw [List.drop_eq_getElem_cons hi] at z'
    obtain ⟨F2, w2, x2, rd⟩ := y.step hd w' x'.lf x'.lg
    have st : ∀ {Fa : Hp} {ga : List Addr} {Ha : Hp}, Nx pm F' g' H2 Fa ga Ha → Ha A = some (.lst acc) ∧ Fa A = none ∧ A ∉ ga := fun {Fa ga Ha} xa => by
      refine ⟨xa.kp A _ hacc (not_ex n2) (fun _ z => nomatch z), ?_, fun z => ?_⟩
      · cases q : Fa A with
        | none => rfl
        | some u =>
          rcases xa.nw A u q with z | z
          · rw [n1] at z; cases z
          · rw [hacc] at z; cases z
      · have := xa.gn A z n2
        rw [hacc] at this
        cases this
    unfold compL at z'
    cases hb : b xs[i] (wipeD env vs) with
    | none => rw [hb] at z'; exact z'.elim
    | some env1 =>
      rw [hb] at z'
      refine qg Wx.hx pm F2 g' H0 (wipeD env vs) cs' (wipe σ vs) H3 x xs[i] env1 _ w2 ((s1.next x').next x2) rd hb fun σ3 s3 k3 => ⟨(k3 vs hw).trans wipe_wipe, ?_⟩
      have x12 := x'.trans x2
      have z' : Post (rF K H) K pm Wx σ F1 g1 H1 Q (((calm (t env1) >>= fun k => if k then calm (el env1) >>= fun y => compL b t el (wipeD env vs) (xs.drop (i + 1)) >>= fun ys => pure (y :: ys) else compL b t el (wipeD env vs) (xs.drop (i + 1))) >>= fun ys => fewL (ds ++ ys)) cs') := z'
      rcases calm_ok (t env1) cs' with ⟨k, cs3, e3, h⟩ | h
      · refine qt F2 g' H0 env1 cs' σ3 H3 _ w2 s3 ?_
        rw [e3]
        intro k' H4 F4 g4 w4 x4 rk
        have rk : k' = k := rk
        subst rk
        simp only [M.bind_run, h] at z'
        obtain ⟨a1, a2, a3⟩ := st (x2.trans x4)
        cases k' with
        | false =>
          rw [if_neg (by decide)]
          exact ⟨F4, g4, cs3, acc, ds, w4, x12.trans x4, a1, racc.mono (x2.trans x4).lf (x2.trans x4).lg, a2, a3, z'⟩
        | true =>
          rw [if_pos rfl]
          simp only [if_true, M.bind_run] at z'
          rcases calm_ok (el env1) cs3 with ⟨y', cs5, e5, h5⟩ | h5
          · refine qe F4 g4 H0 env1 cs3 σ3 H4 _ w4 (s3.next x4) ?_
            rw [e5]
            intro v5 H5 F5 g5 w5 x5 r5
            rw [h5] at z'
            simp only [M.bind_run] at z'
            have x25 := (x2.trans x4).trans x5
            obtain ⟨b1, b2, b3⟩ := st x25
            refine ⟨acc, b1, ?_, F5, g5, cs5, acc ++ [v5], ds ++ [y'], w5.touch b2 b3, ((x12.trans x4).trans x5).touch hA, upd_same, (racc.mono x25.lf x25.lg).append (.cons r5 .nil), b2, b3, ?_⟩
            · rcases compL_calm (b := b) (t := t) (el := el) (env := wipeD env vs) (xs.drop (i + 1)) cs5 with ⟨ys, cs6, h6⟩ | h6
              · rw [h6] at z'
                have z' : Post (rF K H) K pm Wx σ F1 g1 H1 Q (fewL (ds ++ y' :: ys) cs6) := z'
                unfold fewL at z'
                split at z'
                · rename_i hf
                  have hf := of_decide_eq_true hf
                  rw [racc.length]
                  simp only [List.length_append, List.length_cons] at hf
                  omega
                · exact z'.elim
              · rw [h6] at z'
                exact z'.elim
            · simp only [M.bind_run]
              cases h6 : compL b t el (wipeD env vs) (xs.drop (i + 1)) cs5 with
              | ok ys cs6 =>
                rw [h6] at z'
                simpa using z'
              | err _ _ => rw [h6] at z'; exact z'
              | bad => rw [h6] at z'; exact z'
          · rw [h5] at z'
            exact z'.elim
      · simp only [M.bind_run, h] at z'
        exact z'.elim
  · rintro H' ⟨F', g', cs', acc, ds, w', x', hacc, racc, n1, n2, z'⟩
    rw [List.drop_length] at z'
    have z' : Post (rF K H) K pm Wx σ F1 g1 H1 Q (fewL (ds ++ []) cs') := z'
    rw [List.append_nil] at z'
    unfold fewL at z'
    split at z'
    · exact z' _ H' F' g' w' x' ⟨A, acc, rfl, hacc, racc, n1, n2, hA0⟩
    · exact z'.elim
section
variable {elt : Expr} {ifs : List Expr} {scope : Scope} {ws : List Nat} {bd : Bnd} {t : DEnv → M Bool} {el : DEnv → M D}
theorem lc_ok {own : List (Str × Nat)} (hi : DI X pm Wx tg iter fr) (hg : ∀ i : Blk, DG (blkX X scope i) tg ws bd) (ht : ∀ i : Blk, DTs (blkX X scope i) pm (noX Wx) ifs t) (he : ∀ i : Blk, DE (blkX X scope i) pm (noX Wx) elt el) (hw : ws.all (fun i => decide (i ∈ own.map (·.2))) = true) :
    ∃ wi g tt te, PI X tg iter wi ∧ (∀ i : Blk, PG (blkX X scope i) tg g) ∧ (∀ i : Blk, PTs (blkX X scope i) ifs tt) ∧ (∀ i : Blk, PE (blkX X scope i) elt te) ∧
      ∀ F g0 H0 env cs σ H Q, Wk X.K pm F g0 cs H → Slots Wx.hx X.K F g0 H0 env σ H → Post (rF X.K H) X.K pm Wx σ F g0 H Q (compF (own.map (·.2)) fr bd t el env cs) → tLc wi g tt te (own.map (·.2)) σ H Q := by
  obtain ⟨wi, pi, qi⟩ := hi.ex
  obtain ⟨g, pg, qg⟩ := pg_all (Xi := blkX X scope) (K := X.K) (fun _ => rfl) hg
  obtain ⟨tt, pt, qt⟩ := pt_all (Xi := blkX X scope) (K := X.K) (fun _ => rfl) ht
  obtain ⟨te, pe, qe⟩ := pe_all (Xi := blkX X scope) (K := X.K) (fun _ => rfl) he
  exact ⟨wi, g, tt, te, pi, pg, pt, pe, comp_ok qi qg qt qe fun i hi => by simpa using (List.all_eq_true.mp hw i hi)⟩
theorem df_lc (own : List (Str × Nat)) {p : Pos} (hc : X.calm = true) (hN : X.N.Nodup) (hi : DI X pm Wx tg iter fr) (ok : blkC X.N X.env.scope scope own = true) (hg : ∀ i : Blk, DG (blkX X scope i) tg ws bd) (ht : ∀ i : Blk, DTs (blkX X scope i) pm (noX Wx) ifs t)
    (he : ∀ i : Blk, DE (blkX X scope i) pm (noX Wx) elt el) (hw : ws.all (fun i => decide (i ∈ own.map (·.2))) = true) (hs : ∀ x, foldedSetIterable iter X.env x = pure x := by intro _; rfl) :
    DF X pm Wx (.ListComp elt [⟨tg, iter, ifs, 0⟩] scope p) (compF (own.map (·.2)) fr bd t el) := by
  obtain ⟨wi, g, tt, te, pi, pg, pt, pe, q⟩ := lc_ok hi hg ht he hw
  exact ⟨_, pe_lc hc hN pi (blkOk_by ok) (fun s H C cl fp => pg ⟨s, H, C, cl, fp⟩) (fun s H C cl fp => pt ⟨s, H, C, cl, fp⟩) (fun s H C cl fp => pe ⟨s, H, C, cl, fp⟩) hs, q⟩
/-- x = [ .. for .. ] -/
theorem ds_setLc (own : List (Str × Nat)) {i : Nat} {x : Str} {px p : Pos} (hc : X.calm = true) (hN : X.N.Nodup) (hi : DI X pm Wx tg iter fr) (ok : blkC X.N X.env.scope scope own = true) (hg : ∀ i : Blk, DG (blkX X scope i) tg ws bd) (ht : ∀ i : Blk, DTs (blkX X scope i) pm (noX Wx) ifs t)
    (he : ∀ i : Blk, DE (blkX X scope i) pm (noX Wx) elt el) (hw : ws.all (fun i => decide (i ∈ own.map (·.2))) = true)
    (hsw : swapsWith (.ListComp elt [⟨tg, iter, ifs, 0⟩] scope p) (some (.Name x px)) pos.line X.env = pure true) (hx : X.N[i]? = some x := by rfl) (hl : X.env.scope.names.lookup x = some .local := by rfl) (hs : ∀ x, foldedSetIterable iter X.env x = pure x := by intro _; rfl) :
    DS X pm Wx (.Assign [.Name x px] (.ListComp elt [⟨tg, iter, ifs, 0⟩] scope p) pos) (setF i (compF (own.map (·.2)) fr bd t el)) := by
  obtain ⟨wi, g, tt, te, pi, pg, pt, pe, q⟩ := lc_ok hi hg ht he hw
  refine ⟨_, ps_setLc (i := i) hc hN hx hl hsw pi (blkOk_by ok) (fun s H C cl fp => pg ⟨s, H, C, cl, fp⟩) (fun s H C cl fp => pt ⟨s, H, C, cl, fp⟩) (fun s H C cl fp => pe ⟨s, H, C, cl, fp⟩) hs, fun F0 g0 H0 F g env cs σ H Dd r z => ?_⟩
  refine q F g H0 env cs σ H _ r.w r.s (PostS.expr r z fun xs cs1 v H1 F1 g1 r1 x1 rr z1 => ?_)
  exact setOwn_ok r r1 x1 rr z1
end
end
end Dn

end
set_option maxHeartbeats 4000000
section
namespace Dn
open PySem PySem.Spec L2
open PyProof.Rows hiding St

section
variable {X : Cx} {pm : Bool} {Wx : WZ} {pos : Pos} {tg e a b c : Expr} {es : List Expr} {f fa fb : DEnv → M D} {fr : DEnv → M (List D)}
/-! ### target = e -/
def asgS (f : DEnv → M D) (bd : Bnd) : SD := fun env => thenS (f env) env fun d env cs => match bd d env with
  | some env' => .ok .nx env' cs
  | none => .bad
theorem ds_asg {ws : List Nat} {bd : Bnd} (h : DE X pm Wx e f) (hg : DG X tg ws bd) (hs : swapsWithSole [tg] e pos.line X.env = pure false := by rfl) (hw : swappedStores [tg] e X.env = pure none := by rfl)
    (h1 : (assignEach [tg] X.env).map (·.2) = [assign tg X.env] := by rfl) : DS X pm Wx (.Assign [tg] e pos) (asgS f bd) := by
  obtain ⟨t, p, q⟩ := h.ex
  obtain ⟨u, p2, q2⟩ := hg.ex
  refine ⟨_, ps_asg p p2 hs hw h1, fun F0 g0 H0 F g env cs σ H Dd r z => ?_⟩
  refine q F g H0 env cs σ H _ r.w r.s (PostS.expr r z fun d cs1 v H1 F1 g1 r1 x1 rr z1 => ?_)
  have z1 : PostS X.K pm F0 g0 H0 Wx Dd (match bd d env with | some env' => .ok .nx env' cs1 | none => .bad) := z1
  cases hb : bd d env with
  | none => rw [hb] at z1; exact z1.elim
  | some env' =>
    rw [hb] at z1
    exact q2 Wx.hx pm F1 g1 H0 env cs1 σ H1 v d env' _ r1.w r1.s rr hb fun σ2 s2 _ => z1 σ2 H1 F1 g1 ⟨r1.w, s2, r1.n, r1.c⟩
/-- a, b = x, y -/
def parS (i j : Nat) (f : DEnv → M (List D)) : SD := fun env => thenS (f env) env fun ds => match ds with
  | [u, v] => goS fun env => (env.set i (some (.sh u))).set j (some (.sh v))
  | _ => badS
theorem ds_par {i j : Nat} {x y : Str} {px py pt : Pos} {kt k2 pt2} (hc : X.calm = true) (hN : X.N.Nodup) (ha : DA X pm Wx [a, b] fr) (hi : X.N[i]? = some x := by rfl) (hj : X.N[j]? = some y := by rfl) (hij : i ≠ j := by decide)
    (hx : X.env.scope.names.lookup x = some .local := by rfl) (hy : X.env.scope.names.lookup y = some .local := by rfl)
    (hw : swappedStores [.Tuple [.Name x px, .Name y py] kt pt] (.Tuple [a, b] k2 pt2) X.env = pure (some [x, y]) := by rfl)
    (hs : swapsWithSole [.Tuple [.Name x px, .Name y py] kt pt] (.Tuple [a, b] k2 pt2) pos.line X.env = pure false := by rfl) :
    DS X pm Wx (.Assign [.Tuple [.Name x px, .Name y py] kt pt] (.Tuple [a, b] k2 pt2) pos) (parS i j fr) := by
  obtain ⟨t, p, q⟩ := ha.ex
  refine ⟨_, ps_par (i := i) (j := j) hc hN hi hj hij hx hy p hw hs, fun F0 g0 H0 F g env cs σ H Dd r z => ?_⟩
  refine q F g H0 env cs σ H _ r.w r.s (PostS.expr (rel := rA X.K) r z fun ds cs1 vs H1 F1 g1 r1 x1 rr z1 => ?_)
  cases rr with
  | nil => exact z1.elim
  | @cons v _ d _ r2 rr =>
    cases rr with
    | nil => exact z1.elim
    | @cons v2 _ d2 _ r3 rr =>
      cases rr with
      | cons _ _ => exact z1.elim
      | nil => exact ⟨v, v2, rfl, z1 _ H1 F1 g1 ⟨r1.w, (r1.s.set i r2).set j r3, r1.n, r1.c⟩⟩
def par3S (i j l : Nat) (f : DEnv → M (List D)) : SD := fun env => thenS (f env) env fun ds => match ds with
  | [u, v, w] => goS fun env => ((env.set i (some (.sh u))).set j (some (.sh v))).set l (some (.sh w))
  | _ => badS
theorem ds_par3 {i j l : Nat} {x y y3 : Str} {px py pz pt : Pos} {kt k2 pt2} (hc : X.calm = true) (hN : X.N.Nodup) (ha : DA X pm Wx [a, b, c] fr) (hi : X.N[i]? = some x := by rfl) (hj : X.N[j]? = some y := by rfl) (hl : X.N[l]? = some y3 := by rfl) (hij : i ≠ j := by decide) (hil : i ≠ l := by decide) (hjl : j ≠ l := by decide)
    (hx : X.env.scope.names.lookup x = some .local := by rfl) (hy : X.env.scope.names.lookup y = some .local := by rfl) (hz : X.env.scope.names.lookup y3 = some .local := by rfl)
    (hw : swappedStores [.Tuple [.Name x px, .Name y py, .Name y3 pz] kt pt] (.Tuple [a, b, c] k2 pt2) X.env = pure (some [x, y, y3]) := by rfl)
    (hs : swapsWithSole [.Tuple [.Name x px, .Name y py, .Name y3 pz] kt pt] (.Tuple [a, b, c] k2 pt2) pos.line X.env = pure false := by rfl) :
    DS X pm Wx (.Assign [.Tuple [.Name x px, .Name y py, .Name y3 pz] kt pt] (.Tuple [a, b, c] k2 pt2) pos) (par3S i j l fr) := by
  obtain ⟨t, p, q⟩ := ha.ex
  refine ⟨_, ps_par3 (i := i) (j := j) (l := l) hc hN hi hj hl hij hil hjl hx hy hz p hw hs, fun F0 g0 H0 F g env cs σ H Dd r z => ?_⟩
  refine q F g H0 env cs σ H _ r.w r.s (PostS.expr (rel := rA X.K) r z fun ds cs1 vs H1 F1 g1 r1 x1 rr z1 => ?_)
  cases rr with
  | nil => exact z1.elim
  | @cons v _ d _ r2 rr =>
    cases rr with
    | nil => exact z1.elim
    | @cons v2 _ d2 _ r3 rr =>
      cases rr with
      | nil => exact z1.elim
      | @cons v3 _ d3 _ r4 rr =>
        cases rr with
        | cons _ _ => exact z1.elim
        | nil => exact ⟨v, v2, v3, rfl, z1 _ H1 F1 g1 ⟨r1.w, ((r1.s.set i r2).set j r3).set l r4, r1.n, r1.c⟩⟩
/-- x op= e, whole numbers -/
def augI (i : Nat) (f : DEnv → M D) (op : Int → Int → Int) : SD := fun env cs => match env[i]? with
  | some (some (.sh (.int n))) => thenS (f env) env (fun d => match d with
    | .int m => goS fun env => env.set i (some (.sh (.int (op n m))))
    | _ => badS) cs
  | _ => .bad
theorem ds_augI {i : Nat} {x : Str} {px : Pos} {op : Operator} {fn : Int → Int → Int} (ho : PIp X op (ipI fn)) (hN : X.N.Nodup) (h : DE X pm Wx e f) (hi : X.N[i]? = some x := by rfl) (hx : Loc X.env.scope x := by first | exact .inl rfl | exact .inr rfl)
    (hf : X.fn x = true ∨ X.env.scope.names.lookup x = some .local := by first | exact .inl rfl | exact .inr rfl) : DS X pm Wx (.AugAssign (.Name x px) op e pos) (augI i f fn) := by
  obtain ⟨t, p, q⟩ := h.ex
  refine ⟨_, ps_aug (i := i) hN hi hx p ho hf, fun F0 g0 H0 F g env cs σ H Dd r z => ?_⟩
  unfold augI at z
  split at z
  · rename_i n he
    obtain ⟨v, e1, rv⟩ := r.s.sh i _ he
    cases rv
    refine ⟨_, e1, q F g H0 env cs σ H _ r.w r.s (PostS.expr r z fun d cs1 v H1 F1 g1 r1 x1 rr z1 => ?_)⟩
    cases rr with
    | int m => exact ⟨n, m, rfl, rfl, z1 _ H1 F1 g1 ⟨r1.w, r1.s.set i (.int _), r1.n, r1.c⟩⟩
    | _ => exact z1.elim
  · exact z.elim

/-! ### a def's promise, by what it computes -/
/-- φ: the arguments, the cells, to a result -/
def spD (K : PySem.W.Frag) (pm : Bool) (np : Nat) (φ : List D → M D) : Sp := fun vs H Q E => vs.length = np ∧ ∃ F g cs ds, Wk K pm F g cs H ∧ Reps K F g vs ds ∧ Post (rE K) K pm ⟨fun cls dx _ H' => E cls dx H', none⟩ [] F g H Q (φ ds cs)
structure HasF (P : Program) (w : World) (K : PySem.W.Frag) (mg : Str → Option Value) (base : Heap) (pm : Bool) (k : Nat) (x : Str) (np : Nat) (φ : List D → M D) : Prop where
  ex : ∃ (f : Addr) (fd : FuncData) (ps : List Str), mg x = some (.ref f) ∧ ps.length = np ∧ PySem.W.keepIn K (.ref f) = true ∧ Binds K fd ps [] ∧ FnOk P w K mg base (L2.CX P w) k f fd ps (spD K pm np φ)
/-- .. with defaults that fill up -/
structure HasFD (P : Program) (w : World) (K : PySem.W.Frag) (mg : Str → Option Value) (base : Heap) (pm : Bool) (k : Nat) (x : Str) (np : Nat) (dfl : List D) (φ : List D → M D) : Prop where
  ex : ∃ (f : Addr) (fd : FuncData) (ps : List Str) (dvs : List V) (ds : List Value), mg x = some (.ref f) ∧ ps.length = np + dfl.length ∧ PySem.W.keepIn K (.ref f) = true ∧ Binds K fd ps ds ∧ Vals dvs ds ∧ (∀ F g, Reps K F g dvs dfl) ∧
    FnOk P w K mg base (L2.CX P w) k f fd ps (spD K pm (np + dfl.length) φ)
theorem Post.ret {K : PySem.W.Frag} {σ : St} {F : Hp} {g : List Addr} {H : Hp} {Q : V → Hp → Prop} {r : Res D} (p : Post (rE K) K pm Wx σ F g H Q r) : Post (rE K) K pm ⟨fun cls dx _ H' => Wx.W cls dx σ H', none⟩ [] F g H Q r := by
  cases r with
  | ok d cs => exact p
  | err e cs => exact p
  | bad => exact p
def callM (np : Nat) (φ : List D → M D) (ds : List D) : M D := if ds.length = np then φ ds else bad
theorem de_call {x : Str} {p : Pos} {k j np : Nat} {φ : List D → M D} (G : HasF X.prog X.w X.K X.mg X.base pm j x np φ) (hr : Room k X.A) (hj : j ≤ k) (tk : Takes X Wx.W) (ha : DA X pm Wx (e :: es) fr) (hg : Gl X x := by rfl) (hdb : (x == ("__debug__" : Str)) = false := by decide)
    (he : starEach (e :: es) X.env = (false, eval e X.env) :: starEach es X.env := by rfl) (hpl : (backTo pos (starEach es X.env)).any (·.1) = false := by rfl) :
    DE X pm Wx (.Call (.Name x p) (e :: es) [] pos) (fun env => fr env >>= callM np φ) := by
  obtain ⟨f', fd, ps, hm, hp, kp, bn, F⟩ := G.ex
  obtain ⟨t, pa, q⟩ := ha.ex
  refine ⟨_, pe_callSD (F.mono hj) hr hg hm kp bn .nil (fun σ => passAt tk σ) pa hdb he hpl, fun F g H0 env cs σ H Q w s z => ?_⟩
  refine q F g H0 env cs σ H _ w s (z.bind fun ds cs1 vs H1 F1 g1 w1 x1 rr z1 => ?_)
  unfold callM at z1
  split at z1
  · rename_i hl
    rw [List.append_nil]
    exact ⟨rr.length.trans hl, F1, g1, cs1, ds, w1, rr, z1.ret⟩
  · exact z1.elim
theorem de_callD {x : Str} {p : Pos} {k j np : Nat} {dfl : List D} {φ : List D → M D} (G : HasFD X.prog X.w X.K X.mg X.base pm j x np dfl φ) (hr : Room k X.A) (hj : j ≤ k) (tk : Takes X Wx.W) (ha : DA X pm Wx (e :: es) fr) (hg : Gl X x := by rfl) (hdb : (x == ("__debug__" : Str)) = false := by decide)
    (he : starEach (e :: es) X.env = (false, eval e X.env) :: starEach es X.env := by rfl) (hpl : (backTo pos (starEach es X.env)).any (·.1) = false := by rfl) :
    DE X pm Wx (.Call (.Name x p) (e :: es) [] pos) (fun env => fr env >>= fun ds => callM np (fun ds => φ (ds ++ dfl)) ds) := by
  obtain ⟨f', fd, ps, dvs, dv, hm, hp, kp, bn, hv, hd, F⟩ := G.ex
  obtain ⟨t, pa, q⟩ := ha.ex
  refine ⟨_, pe_callSD (F.mono hj) hr hg hm kp bn hv (fun σ => passAt tk σ) pa hdb he hpl, fun F g H0 env cs σ H Q w s z => ?_⟩
  refine q F g H0 env cs σ H _ w s (z.bind fun ds cs1 vs H1 F1 g1 w1 x1 rr z1 => ?_)
  unfold callM at z1
  split at z1
  · rename_i hl
    refine ⟨?_, F1, g1, cs1, ds ++ dfl, w1, rr.append (hd F1 g1), z1.ret⟩
    rw [List.length_append, rr.length, hl, (hd F1 g1).length]
  · exact z1.elim
theorem pa_callSD0 {CX : CXT} {k : Nat} {f : Addr} {fd : FuncData} {ps : List Str} {sp : Sp} {E : St → XK} {x : Str} {p pos : Pos} (F : FnOk X.prog X.w X.K X.mg X.base CX k f fd ps sp) (hr : Room k X.A) (hg : Gl X x) (hm : X.mg x = some (.ref f)) (hk : PySem.W.keepIn X.K (.ref f) = true) (hb : Binds X.K fd ps []) (hx : ∀ σ, PassesAt CX X σ (E σ))
    (hdb : (x == ("__debug__" : Str)) = false := by decide) : PE X (.Call (.Name x p) [] [] pos) (tCallSD sp [] E tNil) := by
  constructor
  intro pins s σ H Q I h
  exact wpAny_Call_Name_kw (ld_glob I hg hm (PySem.W.callWith_K0 I.kIn hk (run_fnSD (us := []) F hr hb .nil (hx σ) I .nil h)) hdb)
theorem de_call0 {x : Str} {p : Pos} {k j : Nat} {φ : List D → M D} (G : HasF X.prog X.w X.K X.mg X.base pm j x 0 φ) (hr : Room k X.A) (hj : j ≤ k) (tk : Takes X Wx.W) (hg : Gl X x := by rfl) (hdb : (x == ("__debug__" : Str)) = false := by decide) :
    DE X pm Wx (.Call (.Name x p) [] [] pos) (fun _ => φ []) := by
  obtain ⟨f', fd, ps, hm, hp, kp, bn, F⟩ := G.ex
  refine ⟨_, pa_callSD0 (F.mono hj) hr hg hm kp bn (fun σ => passAt tk σ) hdb, fun F g H0 env cs σ H Q w s z => ?_⟩
  exact ⟨rfl, F, g, cs, [], w, .nil, z.ret⟩

/-! ### a def, by its body -/
def runD (n np : Nat) (body : SD) (ds : List D) : M D := fun cs => if ds.length = np then (match body (ds.map (fun d => some (.sh d)) ++ List.replicate (n - ds.length) none) cs with
  | .ok .nx _ cs' => .ok .non cs'
  | .ok (.rt d) _ cs' => .ok d cs'
  | .err e _ cs' => .err e cs'
  | _ => .bad) else .bad
theorem Slots.start {hx : HX} {K : PySem.W.Frag} {F : Hp} {g : List Addr} {H0 H : Hp} {N : List Str} {vs : List V} {ds : List D} (r : Reps K F g vs ds) : Slots hx K F g H0 (ds.map (fun d => some (.sh d)) ++ List.replicate (N.length - ds.length) none) (L2.start N vs) H := by
  unfold L2.start
  have look : ∀ {i : Nat} {sl : Slot}, (ds.map (fun d => some (Slot.sh d)) ++ List.replicate (N.length - ds.length) none)[i]? = some (some sl) → ∃ d, ds[i]? = some d ∧ sl = .sh d := fun {i sl} h => by
    by_cases hi : i < ds.length
    · rw [List.getElem?_append_left (by simpa using hi), List.getElem?_map] at h
      cases e : ds[i]? with
      | none => rw [e] at h; cases h
      | some d =>
        rw [e] at h
        cases h
        exact ⟨d, rfl, rfl⟩
    · rw [List.getElem?_append_right (by simpa using hi), List.getElem?_replicate] at h
      split at h <;> cases h
  refine ⟨by simp [r.length], fun i d h => ?_, fun i xs h => ?_, fun i e h => ?_, fun i j xs ys a h => ?_⟩
  · obtain ⟨d', h1, h2⟩ := look h
    cases h2
    obtain ⟨v, e, rv⟩ := r.get h1
    have hi : i < vs.length := (List.getElem?_eq_some_iff.mp e).1
    exact ⟨v, by rw [List.getElem?_append_left (by simpa using hi), List.getElem?_map, e]; rfl, rv⟩
  · obtain ⟨_, _, h2⟩ := look h
    cases h2
  · obtain ⟨_, _, h2⟩ := look h
    cases h2
  · obtain ⟨_, _, h2⟩ := look h
    cases h2
variable {P : Program} {w : World} {K : PySem.W.Frag} {mg : Str → Option Value} {base : Heap} {x qual : Str} {params : Arguments} {body : List Stmt} {scope : Scope} {dvs : List V} {kws : List (Str × V)} {fn : Addr} {fd : FuncData} {N ps : List Str} {k : Nat}
/-- the context of a body -/
abbrev bodyX (P : Program) (w : World) (K : PySem.W.Frag) (mg : Str → Option Value) (base : Heap) (N : List Str) (qual : Str) (scope : Scope) (f : Addr) (cd : Value) (A : Around) (outer : List Env) (s : Shared) (H : Hp) (E : XK) : Cx :=
  cxOf (L2.CX P w) P w K mg base N qual scope f cd A outer s H E
theorem body_ok {qual : Str} {cdv : Value} {A : Around} {outer : List Env} {s : Shared} {H : Hp} {vs : List V} {Q : VK} {E : XK} {sd : SD}
    (h : DSs (bodyX P w K mg base N qual scope fn cdv A outer s H E) pm ⟨fun cls d _ H => E cls d H, none⟩ body sd) (hsp : spD K pm ps.length (runD N.length ps.length sd) vs H Q E) :
    ∃ t, PSs (bodyX P w K mg base N qual scope fn cdv A outer s H E) body t ∧ t { nx := fun _ H' => Q .non H', rt := Q } (L2.start N vs) H := by
  obtain ⟨t, p, q⟩ := h.ex
  obtain ⟨hl, F, g, cs, ds, w', r, z⟩ := hsp
  refine ⟨t, p, q ⟨F, F, g⟩ g H F g _ cs _ H _ ⟨w', Slots.start r, .refl _ _ _ _, .refl _, .refl _⟩ ?_⟩
  unfold runD at z
  rw [if_pos (r.length.symm.trans hl)] at z
  cases hb : sd (ds.map (fun d => some (.sh d)) ++ List.replicate (N.length - ds.length) none) cs with
  | bad => rw [hb] at z; exact z.elim
  | err e env' cs' =>
    rw [hb] at z
    exact fun cls dx σ H' F' g' r' ea => z cls dx H' F' g' r'.w r'.n ea
  | ok fl env' cs' =>
    rw [hb] at z
    cases fl with
    | nx => exact fun σ H' F' g' r' => z .non H' F' g' r'.w r'.n .non
    | rt d => exact fun v H' F' g' w2 x2 rr => z v H' F' g' w2 x2 rr
    | bk => exact z.elim
    | ct => exact z.elim
theorem fnD {sd : SD} (F : FunD K x qual params body scope dvs kws fn fd) (S : FnScope N ps scope)
    (h : ∀ (cdv : Value) (A : Around) (outer : List Env) (s : Shared) (H : Hp) (E : XK), Room k (A.deeper (envOfC qual scope s.heap.objs.size fn cdv)) →
      DSs (bodyX P w K mg base N qual scope fn cdv A outer s H E) pm ⟨fun cls d _ H => E cls d H, none⟩ body sd) :
    FnOk P w K mg base (L2.CX P w) (k + 1) fn fd ps (spD K pm ps.length (runD N.length ps.length sd)) :=
  F.ok S (fun vs H Q E h => h.1) fun cdv A outer s H vs Q E hr hsp => body_ok (h cdv A outer s H E hr) hsp
end
end Dn

end
set_option maxHeartbeats 4000000
section
namespace Dn
open PySem PySem.Spec L2
open PyProof.Rows hiding St

/-! ### the __init__ of an error: self.f = f, self.g = g -/
def exH (H : Hp) (d a C : Addr) (fs : List (Str × V)) : Hp := upd (upd H d (exd d fs)) a (exo a C (some d))
/-- fl: the names of the attributes, the last first -/
def spI (K : PySem.W.Frag) (C : Addr) (fl : List Str) : Sp := fun vs H Q _ => vs.length = fl.length + 1 ∧ ∃ a xs, vs = .ref a :: xs ∧ H a = some (exo a C none) ∧ ∀ d, H d = none → d ≠ a → Q .non (exH H d a C (fl.zip xs.reverse))
section
variable {P : Program} {w : World} {K : PySem.W.Frag} {mg : Str → Option Value} {base : Heap} {qual : Str} {params : Arguments} {scope : Scope} {fn : Addr} {fd : FuncData} {N : List Str} {k : Nat} {C : Addr}
theorem exH_twice {H : Hp} {d a C : Addr} {fs fs' : List (Str × V)} (h : d ≠ a) : upd (exH H d a C fs) d (exd d fs') = exH H d a C fs' := by
  funext b
  unfold exH
  by_cases h1 : b = d
  · subst h1
    rw [upd_same, upd_ne h, upd_same]
  · rw [upd_ne h1]
    by_cases h2 : b = a
    · subst h2
      rw [upd_same, upd_same]
    · rw [upd_ne h2, upd_ne h2, upd_ne h1, upd_ne h1]
theorem init1 {f x s : Str} {p1 p2 p3 p4 : Pos} (T : OexC K C) (hno : PySem.W.findIn K (.ref C) f = some none)
    (F : FunD K "__init__" qual params [.Assign [.Attribute (.Name s p1) f p2] (.Name x p3) p4] scope [] [] fn fd) (S : FnScope [s, x] [s, x] scope)
    (hs : Vis scope s) (hx : Vis scope x) (h1 : (s == ("__debug__" : Str)) = false := by decide) (h2 : (s == ("__classdict__" : Str)) = false := by decide) (h3 : (x == ("__debug__" : Str)) = false := by decide) (h4 : (x == ("__classdict__" : Str)) = false := by decide) :
    FnOk P w K mg base (L2.CX P w) 1 fn fd [s, x] (spI K C [f]) := by
  refine F.ok S (fun vs H Q E h => h.1) fun cdv A outer s' H vs Q E hr hsp => ?_
  refine ⟨_, pss_one (ps_ost (pe_var (i := 0) rfl hs h1 h2) (pe_var (i := 1) rfl hx h3 h4)), ?_⟩
  obtain ⟨hl, a, xs, rfl, e, q⟩ := hsp
  match xs, hl with
  | [y], _ =>
    exact ⟨y, rfl, .ref a, rfl, a, C, rfl, T, hno, .inl ⟨e, fun dx n1 n2 => q dx n1 n2⟩⟩
theorem init2 {f f2 x x2 s : Str} {p1 p2 p3 p4 p5 p6 p7 p8 : Pos} (T : OexC K C) (hno : PySem.W.findIn K (.ref C) f = some none) (hno2 : PySem.W.findIn K (.ref C) f2 = some none)
    (F : FunD K "__init__" qual params [.Assign [.Attribute (.Name s p1) f p2] (.Name x p3) p4, .Assign [.Attribute (.Name s p5) f2 p6] (.Name x2 p7) p8] scope [] [] fn fd) (S : FnScope [s, x, x2] [s, x, x2] scope)
    (hs : Vis scope s) (hx : Vis scope x) (hx2 : Vis scope x2) (h1 : (s == ("__debug__" : Str)) = false := by decide) (h2 : (s == ("__classdict__" : Str)) = false := by decide) (h3 : (x == ("__debug__" : Str)) = false := by decide) (h4 : (x == ("__classdict__" : Str)) = false := by decide)
    (h5 : (x2 == ("__debug__" : Str)) = false := by decide) (h6 : (x2 == ("__classdict__" : Str)) = false := by decide) :
    FnOk P w K mg base (L2.CX P w) 1 fn fd [s, x, x2] (spI K C [f2, f]) := by
  refine F.ok S (fun vs H Q E h => h.1) fun cdv A outer s' H vs Q E hr hsp => ?_
  refine ⟨_, pss_cons (ps_ost (pe_var (i := 0) rfl hs h1 h2) (pe_var (i := 1) rfl hx h3 h4)) (pss_one (ps_ost (pe_var (i := 0) rfl hs h1 h2) (pe_var (i := 2) rfl hx2 h5 h6))), ?_⟩
  obtain ⟨hl, a, xs, rfl, e, q⟩ := hsp
  match xs, hl with
  | [y, y2], _ =>
    refine ⟨y, rfl, .ref a, rfl, a, C, rfl, T, hno, .inl ⟨e, fun dx n1 n2 => ?_⟩⟩
    refine ⟨y2, rfl, .ref a, rfl, a, C, rfl, T, hno2, .inr ⟨dx, [(f, y)], upd_same, ?_, by simp, ?_⟩⟩
    · rw [upd_ne n2, upd_same]
    · have := q dx n1 n2
      rw [← exH_twice (fs := [(f, y)]) n2] at this
      exact this
end

/-! ### raise -/
/-- a class of errors, its attributes (the last first) -/
structure ErrC (P : Program) (w : World) (K : PySem.W.Frag) (mg : Str → Option Value) (base : Heap) (nm : Str) (fl : List Str) : Prop where
  T : OexC K (He.ga K nm)
  gm : mg nm = some (.ref (He.ga K nm))
  ini : ∃ (fI : Addr) (fd : FuncData) (ps : List Str), PySem.W.findIn K (.ref (He.ga K nm)) "__init__" = some (some (.ref fI)) ∧ PySem.W.typeIn K (.ref fI) = some (.type "function") ∧ Binds K fd ps [] ∧ FnOk P w K mg base (L2.CX P w) 1 fI fd ps (spI K (He.ga K nm) fl)
section
variable {X : Cx} {pm : Bool} {Wx : WZ} {pos : Pos} {e : Expr} {es : List Expr} {fr : DEnv → M (List D)}
theorem Reps.reverse {K : PySem.W.Frag} {F : Hp} {g : List Addr} : ∀ {vs : List V} {ds : List D}, Reps K F g vs ds → Reps K F g vs.reverse ds.reverse
  | _, _, .nil => .nil
  | _, _, .cons r t => by
    rw [List.reverse_cons, List.reverse_cons]
    exact (Reps.reverse t).append (.cons r .nil)
def raiseS (nm : Str) (fl : List Str) (f : DEnv → M (List D)) : SD := fun env => thenS (f env) env fun ds env cs => if ds.length = fl.length then .err ⟨nm, fl, ds.reverse⟩ env cs else .bad
theorem ds_raise {x nm : Str} {fl : List Str} {p pos' : Pos} (G : ErrC X.prog X.w X.K X.mg X.base nm fl) (hfl : fl.length ≤ 900) (hr : Room 2 X.A) (hc : X.calm = true) (tk : Takes X Wx.W) (ha : DA X pm Wx (e :: es) fr) (hxn : x = nm := by rfl) (hg : Gl X x := by rfl) (hdb : (x == ("__debug__" : Str)) = false := by decide)
    (he : starEach (e :: es) X.env = (false, eval e X.env) :: starEach es X.env := by rfl) (hpl : (backTo pos (starEach es X.env)).any (·.1) = false := by rfl) :
    DS X pm Wx (.Raise (some (.Call (.Name x p) (e :: es) [] pos)) none pos') (raiseS nm fl fr) := by
  subst hxn
  obtain ⟨fI, fd, ps, h1, h2, h3, F⟩ := G.ini
  obtain ⟨t, pa, q⟩ := ha.ex
  refine ⟨_, ps_raise hc tk (pmk_oex G.T h1 h2 F hr h3 .nil (passes_call (W := fun _ _ _ _ => False) (fun u s' x => by
    obtain ⟨_, _, _, _, _, _, _, _, _, _, _, _, _, _, _, _, z⟩ := x
    exact z.elim) (fun _ _ _ _ z => z)) hg G.gm pa hdb he hpl), fun F0 g0 H0 F g env cs σ H Dd r z => ?_⟩
  refine q F g H0 env cs σ H _ r.w r.s (PostS.expr (rel := rA X.K) r z fun ds cs1 vs H1 F1 g1 r1 x1 rr z1 => ?_)
  have z1 : PostS X.K pm F0 g0 H0 Wx Dd (if ds.length = fl.length then .err ⟨x, fl, ds.reverse⟩ env cs1 else .bad) := z1
  by_cases hl : ds.length = fl.length
  · rw [if_pos hl] at z1
    have hvl : vs.length = fl.length := rr.length.trans hl
    refine ⟨by omega, fun a ha => ⟨by simp [hvl], a, vs ++ [], rfl, upd_same, fun d hd hda => ⟨rfl, d, fl.zip (vs ++ []).reverse, upd_same, (upd_ne hda).trans upd_same, ?_, ?_⟩⟩⟩
    · rw [upd_ne hda] at hd
      exact hd
    · rw [upd_ne hda] at hd
      have eH : upd (del (exH (upd H1 a (exo a (He.ga X.K x) none)) d a (He.ga X.K x) (fl.zip (vs ++ []).reverse)) a) d (.xd (fl.zip (vs ++ []).reverse)) = upd H1 d (.xd (fl.zip vs.reverse)) := by
        rw [List.append_nil]
        funext b
        by_cases hb : b = d
        · subst hb
          rw [upd_same, upd_same]
        · rw [upd_ne hb, upd_ne hb]
          by_cases hba : b = a
          · subst hba
            rw [del_same, ha]
          · rw [del_ne hba]
            unfold exH
            rw [upd_ne hba, upd_ne hb, upd_ne hba]
      rw [eH]
      obtain ⟨w2, x2⟩ := r1.w.alloc (o := .xd (fl.zip vs.reverse)) hd
      refine z1 _ _ σ _ _ _ (r1.next w2 x2) ⟨rfl, fl.zip vs.reverse, upd_same, ?_, ?_⟩
      · rw [List.map_fst_zip]
        simp [hvl]
      · rw [List.map_snd_zip]
        · exact (rr.mono x2.lf x2.lg).reverse
        · simp [hvl]
  · rw [if_neg hl] at z1
    exact z1.elim

/-! ### try, except .. as .. -/
def dropX (env : DEnv) : DEnv := env.map fun s => match s with | some (.exc _) => none | s => s
theorem dropX_get {env : DEnv} {i : Nat} {s : Slot} (h : (dropX env)[i]? = some (some s)) : env[i]? = some (some s) ∧ ∀ e, s ≠ .exc e := by
  unfold dropX at h
  rw [List.getElem?_map] at h
  cases e : env[i]? with
  | none => rw [e] at h; cases h
  | some o =>
    rw [e] at h
    cases o with
    | none => cases h
    | some sl =>
      cases sl with
      | sh d => cases h; exact ⟨rfl, fun e z => nomatch z⟩
      | own xs => cases h; exact ⟨rfl, fun e z => nomatch z⟩
      | exc x => cases h
theorem Slots.dropX {hx hx' : HX} {K : PySem.W.Frag} {F : Hp} {g : List Addr} {H0 H : Hp} {env : DEnv} {σ : St} (s : Slots hx K F g H0 env σ H) : Slots hx' K F g H0 (Dn.dropX env) σ H := by
  refine ⟨by unfold Dn.dropX; rw [List.length_map]; exact s.len, fun i d h => s.sh i d (dropX_get h).1, fun i xs h => s.ow i xs (dropX_get h).1, fun i e h => absurd rfl ((dropX_get h).2 e), fun i j xs ys a h1 h2 => s.ne i j xs ys a (dropX_get h1).1 (dropX_get h2).1⟩
theorem Slots.clear {hx : HX} {K : PySem.W.Frag} {F : Hp} {g : List Addr} {H0 H : Hp} {env : DEnv} {σ : St} (s : Slots hx K F g H0 env σ H) (i : Nat) : Slots hx K F g H0 (env.set i none) (σ.set i none) H := by
  have e : ∀ {j : Nat} {sl : Slot}, (env.set i none)[j]? = some (some sl) → i ≠ j ∧ env[j]? = some (some sl) := fun {j sl} h => by
    rw [List.getElem?_set] at h
    by_cases z : i = j
    · subst z
      by_cases l : i < env.length <;> simp [l] at h
    · rw [if_neg z] at h
      exact ⟨z, h⟩
  refine ⟨by simp [s.len], fun j d h => ?_, fun j xs h => ?_, fun j x h => ?_, fun j k xs ys a h1 h2 h3 h4 => ?_⟩
  · obtain ⟨n, h⟩ := e h
    rw [List.getElem?_set_ne n]
    exact s.sh j d h
  · obtain ⟨n, h⟩ := e h
    rw [List.getElem?_set_ne n]
    exact s.ow j xs h
  · obtain ⟨n, h⟩ := e h
    rw [List.getElem?_set_ne n]
    exact s.exc j x h
  · obtain ⟨n, h1⟩ := e h1
    obtain ⟨n2, h2⟩ := e h2
    rw [List.getElem?_set_ne n] at h3
    rw [List.getElem?_set_ne n2] at h4
    exact s.ne j k xs ys a h1 h2 h3 h4
/-- the suite gets the exception in slot i -/
theorem Slots.caught {hx : HX} {K : PySem.W.Frag} {F : Hp} {g : List Addr} {H0 H : Hp} {env : DEnv} {σ : St} (s : Slots hx K F g H0 env σ H) (i : Nat) {a : Addr} {cls : Value} {d : Option Addr} {e : Exn} (ea : ExnAt K F g e cls d) :
    Slots (some (a, cls, d)) K F g H0 ((Dn.dropX env).set i (some (.exc e))) (σ.set i (some (.ref a))) H := by
  have s1 : Slots (some (a, cls, d)) K F g H0 (Dn.dropX env) σ H := s.dropX
  have look : ∀ {j : Nat} {sl : Slot}, ((Dn.dropX env).set i (some (.exc e)))[j]? = some (some sl) → (i = j ∧ i < (Dn.dropX env).length ∧ sl = .exc e) ∨ (i ≠ j ∧ (Dn.dropX env)[j]? = some (some sl)) := fun {j sl} h => by
    rw [List.getElem?_set] at h
    by_cases z : i = j
    · subst z
      by_cases l : i < (Dn.dropX env).length
      · simp [l] at h
        exact .inl ⟨rfl, l, h.symm⟩
      · simp [l] at h
    · rw [if_neg z] at h
      exact .inr ⟨z, h⟩
  refine ⟨by simp [s1.len], fun j d' h => ?_, fun j xs h => ?_, fun j x h => ?_, fun j k xs ys b h1 h2 h3 h4 => ?_⟩
  · rcases look h with ⟨_, _, z⟩ | ⟨n, h⟩
    · cases z
    · rw [List.getElem?_set_ne n]
      exact s1.sh j d' h
  · rcases look h with ⟨_, _, z⟩ | ⟨n, h⟩
    · cases z
    · rw [List.getElem?_set_ne n]
      exact s1.ow j xs h
  · rcases look h with ⟨rfl, l, z⟩ | ⟨n, h⟩
    · cases z
      exact ⟨a, cls, d, rfl, List.getElem?_set_self (by rw [← s1.len]; exact l), ea⟩
    · exact absurd rfl ((dropX_get h).2 x)
  · rcases look h1 with ⟨_, _, z⟩ | ⟨n, h1⟩
    · cases z
    rcases look h2 with ⟨_, _, z⟩ | ⟨n2, h2⟩
    · cases z
    rw [List.getElem?_set_ne n] at h3
    rw [List.getElem?_set_ne n2] at h4
    exact s1.ne j k xs ys b h1 h2 h3 h4
/-- behind the suite -/
def leaveS (i : Nat) : SRes → SRes
  | .ok (.rt d) env cs => .ok (.rt d) env cs
  | .ok f env cs => .ok f ((dropX env).set i none) cs
  | _ => .bad
/-- tab: of each class, whether the clause takes it -/
def tryS (body : SD) (tab : List (Str × Bool)) (i : Nat) (suite : SD) : SD := fun env cs => match body env cs with
  | .err e env1 cs1 => (match tab.lookup e.cls with
    | some true => leaveS i (suite ((dropX env1).set i (some (.exc e))) cs1)
    | some false => .err e env1 cs1
    | none => .bad)
  | r => r
/-- the body's judgement: under whatever wish -/
def DTry (X : Cx) (pm : Bool) (Wx : WZ) (body : List Stmt) (f : SD) : Prop := ∀ (W : WX) (pn : List (Addr × Obj)) (xe : Value → Shared → Prop), Takes (X.tr pn xe) W → PassesOwn (model X.prog X.w) X.A X.env xe → DSs (X.tr pn xe) pm ⟨W, Wx.hx⟩ body f
def DSuite (X : Cx) (pm : Bool) (suite : List Stmt) (f : SD) : Prop := ∀ (a : Addr) (oe : Obj) (cls : Value) (d : Option Addr) (pn : List (Addr × Obj)), Zc cls d oe → (∃ vs, oe.data = .fields vs) → DSs (X.suite a ((a, oe) :: pn)) pm ⟨fun _ _ _ _ => False, some (a, cls, d)⟩ suite f
/-- of each class in the table -/
def Tab (K : PySem.W.Frag) (c : Value) (tab : List (Str × Bool)) : Prop := ∀ x b, tab.lookup x = some b → PySem.W.exmOne K (.ref (He.ga K x)) c = some b
abbrev SoundS (K : PySem.W.Frag) (pm : Bool) (Wx : WZ) (f : SD) (t : TS) : Prop := ∀ F0 g0 H0 F g env cs σ H Dd, RS Wx.hx K pm F0 g0 H0 F g env cs σ H → PostS K pm F0 g0 H0 Wx Dd (f env cs) → t Dd σ H
theorem try_all {body : List Stmt} {f : SD} (h : DTry X pm Wx body f) : ∃ tb : WX → TS, (∀ (W : WX) (pn : List (Addr × Obj)) (xe : Value → Shared → Prop), Takes (X.tr pn xe) W → PassesOwn (model X.prog X.w) X.A X.env xe → PSs (X.tr pn xe) body (tb W)) ∧ ∀ W, SoundS X.K pm ⟨W, Wx.hx⟩ f (tb W) := by
  refine ⟨fun W Dd σ H => ∀ pn xe (t1 : Takes (X.tr pn xe) W) (t2 : PassesOwn (model X.prog X.w) X.A X.env xe), (h W pn xe t1 t2).ex.choose Dd σ H, fun W pn xe t1 t2 => ⟨fun pins s σ H Dd I hq => ?_⟩, fun W F0 g0 H0 F g env cs σ H Dd r z pn xe t1 t2 => ?_⟩
  · exact (h W pn xe t1 t2).ex.choose_spec.1.run pins s σ H Dd I (hq pn xe t1 t2)
  · exact (h W pn xe t1 t2).ex.choose_spec.2 F0 g0 H0 F g env cs σ H Dd r z
theorem suite_all {suite : List Stmt} {f : SD} (h : DSuite X pm suite f) : ∃ ts : Addr → Value → Option Addr → TS, (∀ (a : Addr) (oe : Obj) (cls : Value) (d : Option Addr) (pn : List (Addr × Obj)), Zc cls d oe → (∃ vs, oe.data = .fields vs) → PSs (X.suite a ((a, oe) :: pn)) suite (ts a cls d)) ∧
    ∀ a cls d, SoundS X.K pm ⟨fun _ _ _ _ => False, some (a, cls, d)⟩ f (ts a cls d) := by
  refine ⟨fun a cls d Dd σ H => ∀ oe pn (t1 : Zc cls d oe) (t2 : ∃ vs, oe.data = .fields vs), (h a oe cls d pn t1 t2).ex.choose Dd σ H, fun a oe cls d pn t1 t2 => ⟨fun pins s σ H Dd I hq => ?_⟩, fun a cls d F0 g0 H0 F g env cs σ H Dd r z oe pn t1 t2 => ?_⟩
  · exact (h a oe cls d pn t1 t2).ex.choose_spec.1.run pins s σ H Dd I (hq oe pn t1 t2)
  · exact (h a oe cls d pn t1 t2).ex.choose_spec.2 F0 g0 H0 F g env cs σ H Dd r z
theorem ds_tryAs {x n : Str} {c : Value} {i : Nat} {body suite : List Stmt} {b₀ : Stmt} {np pos' : Pos} {fb fs : SD} {tab : List (Str × Bool)} (hs : X.stack = X.env :: X.outer) (hf : X.env.frame = some X.env.locals) (hN : X.N.Nodup) (hc : Names X x c) (tk : Takes X Wx.W) (ht : Tab X.K c tab)
    (hb : DTry X pm Wx body fb) (hsu : DSuite X pm (b₀ :: suite) fs) (hi : X.N[i]? = some n := by rfl) (hln : X.env.kindOf n = some .local := by rfl) :
    DS X pm Wx (.Try body [.ExceptHandler (some (.Name x np)) (some n) (b₀ :: suite) pos'] [] [] pos) (tryS fb tab i fs) := by
  obtain ⟨tb, pb, qb⟩ := try_all hb
  obtain ⟨ts, ps, qs⟩ := suite_all hsu
  refine ⟨_, ps_try_as hs hf hN hi hln hc tk pb ps, fun F0 g0 H0 F g env cs σ H Dd r z => ?_⟩
  refine qb _ F0 g0 H0 F g env cs σ H Dd r ?_
  unfold tryS at z
  cases hk : fb env cs with
  | bad => rw [hk] at z; exact z.elim
  | ok fl env1 cs1 =>
    rw [hk] at z
    cases fl with
    | nx => exact z
    | bk => exact z
    | ct => exact z
    | rt d => exact z
  | err e env1 cs1 =>
    rw [hk] at z
    have z : PostS X.K pm F0 g0 H0 Wx Dd (match tab.lookup e.cls with
      | some true => leaveS i (fs ((dropX env1).set i (some (.exc e))) cs1)
      | some false => .err e env1 cs1
      | none => .bad) := z
    intro cls dx σ1 H1 F1 g1 r1 ea
    cases hl : tab.lookup e.cls with
    | none => rw [hl] at z; exact z.elim
    | some b =>
      rw [hl] at z
      have hex := ht _ _ hl
      rw [← ea.1] at hex
      refine ⟨b, hex, fun hb => ?_, fun hb => ?_⟩
      · subst hb
        intro a na
        have z : PostS X.K pm F0 g0 H0 Wx Dd (leaveS i (fs ((dropX env1).set i (some (.exc e))) cs1)) := z
        refine qs a cls dx F0 g0 H0 F1 g1 _ cs1 _ H1 _ ⟨r1.w, r1.s.caught i ea, r1.n, r1.c⟩ ?_
        have back : ∀ {env2 : DEnv} {cs2 : CS} {σ2 : St} {H2 F2 : Hp} {g2 : List Addr}, RS (some (a, cls, dx)) X.K pm F0 g0 H0 F2 g2 env2 cs2 σ2 H2 → RS Wx.hx X.K pm F0 g0 H0 F2 g2 ((dropX env2).set i none) cs2 (σ2.set i none) H2 := fun r2 => ⟨r2.w, r2.s.dropX.clear i, r2.n, r2.c⟩
        cases hk2 : fs ((dropX env1).set i (some (.exc e))) cs1 with
        | bad => rw [hk2] at z; exact z.elim
        | err _ _ _ => rw [hk2] at z; exact z.elim
        | ok fl env2 cs2 =>
          rw [hk2] at z
          cases fl with
          | nx => exact fun σ2 H2 F2 g2 r2 => z _ H2 F2 g2 (back r2)
          | bk => exact fun σ2 H2 F2 g2 r2 => z _ H2 F2 g2 (back r2)
          | ct => exact fun σ2 H2 F2 g2 r2 => z _ H2 F2 g2 (back r2)
          | rt d => exact z
      · subst hb
        exact z cls dx σ1 H1 F1 g1 r1 ea
/-! ### in the suite: isinstance(error, C), error.field -/
def excAt (env : DEnv) (i : Nat) : Option Exn := match env[i]? with
  | some (some (.exc e)) => some e
  | _ => none
theorem excAt_some {env : DEnv} {i : Nat} {e : Exn} (h : excAt env i = some e) : env[i]? = some (some (.exc e)) := by
  unfold excAt at h
  split at h
  · cases h
    assumption
  · cases h
def rIsEx (K : PySem.W.Frag) (a : Addr) (cls : Value) (d : Option Addr) : List V → Hp → VK → Prop := fun xs H Q => ∃ (A : Addr) (c : V) (cv : Value) (b : Bool), xs = [.ref a, c] ∧ cls = .ref A ∧ ExcC K A ∧ (d = none ∨ ∃ dx fs, d = some dx ∧ H dx = some (.xd fs)) ∧ (∀ u, RelV c u → u = cv) ∧ PySem.W.kitOne K (.ref A) cv = some b ∧ Q (.bl b) H
theorem call_isEx {a : Addr} {oe : Obj} {cls : Value} {d : Option Addr} {pn : List (Addr × Obj)} (hz : Zc cls d oe) (hf : ∃ vs, oe.data = .fields vs) : CallR (X.suite a ((a, oe) :: pn)) (.builtin "isinstance") (rIsEx X.K a cls d) := by
  rintro pins s σ H xs us Q I r ⟨A, c, cv, b, rfl, rfl, T, hd, hcv, e, q⟩
  cases r with
  | cons rx rr =>
    cases rr with
    | cons rt rr =>
      cases rr
      cases rx
      have ec := hcv _ rt
      subst ec
      obtain ⟨hget, -⟩ := I.pin (a, oe) (List.mem_append.mpr (.inl List.mem_cons_self))
      obtain ⟨vs, hv⟩ := hf
      obtain ⟨od, J⟩ : ∃ od, PySem.W.InstAt s.heap a oe A od := by
        have no : PySem.W.notCls oe = true := by unfold PySem.W.notCls; rw [hv] <;> rfl
        rcases hd with rfl | ⟨dx, fs, rfl, hx⟩
        · exact ⟨none, hget, hz.1, no, by rw [hz.2]; trivial⟩
        · obtain ⟨mA, hns, -⟩ := (I.hok dx _ hx)
          obtain ⟨od, ho, -⟩ := lookIn_ns hns
          exact ⟨some od, hget, hz.1, no, by rw [hz.2]; exact ho⟩
      have hcl : (PySem.W.clsIn X.K A).isSome = true := by
        have h := T.hd
        unfold PySem.W.hasDictIn at h
        cases q : PySem.W.clsIn X.K A with
        | some _ => rfl
        | none => rw [q] at h; cases h
      exact PySem.W.kia_one (PySem.W.kitx_exc hcl T.hg T.hk T.hs T.ha T.hn T.ht T.hm) I.kIn J e (fun z => nomatch z) fun tk => ⟨.bl b, H, I.kept (t' := tk) fun _ _ z => z, rfl, q⟩
def isExD (i : Nat) (tab : List (Str × Bool)) : DEnv → M D := fun env => match (excAt env i).bind fun e => tab.lookup e.cls with
  | some b => pure (.bl b)
  | none => bad
/-- of each class in the table: what isinstance tells -/
def Kit (K : PySem.W.Frag) (c : Value) (tab : List (Str × Bool)) : Prop := ∀ x b, tab.lookup x = some b → ExcC K (He.ga K x) ∧ PySem.W.kitOne K (.ref (He.ga K x)) c = some b
theorem de_isEx {a : Addr} {oe : Obj} {cls : Value} {d : Option Addr} {pn : List (Addr × Obj)} {x y : Str} {i : Nat} {c : V} {cv : Value} {tab : List (Str × Bool)} {p p1 p2 : Pos} {W : WX} (hz : Zc cls d oe) (hf : ∃ vs, oe.data = .fields vs) (ht : Kit X.K cv tab)
    (hi : X.N[i]? = some x) (hv : Vis X.env.scope x) (hd : (x == ("__debug__" : Str)) = false) (hcd : (x == ("__classdict__" : Str)) = false) (hgi : Gl X "isinstance") (hmi : X.mg "isinstance" = none)
    (hc : PE (X.suite a ((a, oe) :: pn)) (.Name y p2) (tC c)) (hcv : ∀ u, RelV c u → u = cv)
    (he : starEach [.Name x p1, .Name y p2] X.env = (false, eval (.Name x p1) X.env) :: starEach [.Name y p2] X.env := by rfl) (hpl : (backTo pos (starEach [.Name y p2] X.env)).any (·.1) = false := by rfl)
    (hs1 : starEach [Expr.Name y p2] X.env = (false, eval (.Name y p2) X.env) :: starEach [] X.env := by rfl) (hvi : bootBuiltins "isinstance" = some (.builtin "isinstance") := by decide +kernel) :
    DE (X.suite a ((a, oe) :: pn)) pm ⟨W, some (a, cls, d)⟩ (.Call (.Name "isinstance" p) [.Name x p1, .Name y p2] [] pos) (isExD i tab) := by
  refine ⟨_, pe_callB (X := X.suite a ((a, oe) :: pn)) (call_isEx hz hf) hgi hmi hvi (pa_cons (pe_var (i := i) hi hv hd hcd) (pa_cons hc pa_nil hs1) he) (by decide) (by decide) he hpl, fun F g H0 env cs σ H Q w s z => ?_⟩
  unfold isExD at z
  cases hq : (excAt env i).bind (fun e => tab.lookup e.cls) with
  | none => rw [hq] at z; exact z.elim
  | some b =>
    rw [hq] at z
    obtain ⟨e, hei, hl⟩ := Option.bind_eq_some_iff.mp hq
    obtain ⟨a', cls', d', h1, h2, h3⟩ := s.exc i e (excAt_some hei)
    cases h1
    obtain ⟨k1, k2⟩ := ht _ _ hl
    refine ⟨.ref a, h2, _, c, cv, b, rfl, h3.1, k1, ?_, hcv, k2, Post.now (rel := rE X.K) (d := .bl b) z w (.bl b)⟩
    cases d with
    | none => exact .inl rfl
    | some dx =>
      obtain ⟨fs, q1, -⟩ := h3.2
      exact .inr ⟨dx, fs, rfl, w.sub _ _ q1⟩
theorem Reps.look {K : PySem.W.Frag} {F : Hp} {g : List Addr} {n : Str} {d : D} : ∀ {fs : List (Str × V)} {ds : List D}, Reps K F g (fs.map (·.2)) ds → ((fs.map (·.1)).zip ds).lookup n = some d → ∃ v, fs.lookup n = some v ∧ Rep K F g v d
  | [], _, _, h => by simp at h
  | (x, v) :: fs, _, .cons r t, h => by
    simp only [List.map_cons, List.zip_cons_cons, List.lookup_cons] at h ⊢
    cases hb : n == x with
    | true =>
      rw [hb] at h
      cases h
      exact ⟨v, rfl, r⟩
    | false =>
      rw [hb] at h
      exact Reps.look t h
/-- of each class that may be met: it has no attribute of that name -/
def Fld (K : PySem.W.Frag) (n : Str) (tab : List Str) : Prop := ∀ x ∈ tab, XfC K (He.ga K x) ∧ PySem.W.findIn K (.ref (He.ga K x)) n = some none
def xfT (i : Nat) (n : Str) (tab : List Str) : DEnv → M D := fun env => match (excAt env i).bind fun e => if e.cls ∈ tab then (e.ns.zip e.ds).lookup n else none with
  | some d => pure d
  | none => bad
theorem de_xf {a : Addr} {oe : Obj} {cls : Value} {d : Option Addr} {pn : List (Addr × Obj)} {x n : Str} {i : Nat} {tab : List Str} {p1 : Pos} {W : WX} (hz : Zc cls d oe) (hf : ∃ vs, oe.data = .fields vs) (ht : Fld X.K n tab)
    (hi : X.N[i]? = some x) (hv : Vis X.env.scope x) (hd : (x == ("__debug__" : Str)) = false) (hcd : (x == ("__classdict__" : Str)) = false) (hb : attributeBase (.Name x p1) n X.env (eval (.Name x p1) X.env) = eval (.Name x p1) X.env := by rfl) :
    DE (X.suite a ((a, oe) :: pn)) pm ⟨W, some (a, cls, d)⟩ (.Attribute (.Name x p1) n pos) (xfT i n tab) := by
  have hp : PE (X.suite a ((a, oe) :: pn)) (.Name x p1) (tVar i) := pe_var (i := i) hi hv hd hcd
  refine ⟨fun σ H Q => ∃ nm ∈ tab, tXf a cls d (He.ga X.K nm) n (tVar i) σ H Q, ⟨fun pins s σ H Q I h => ?_⟩, fun F g H0 env cs σ H Q w s z => ?_⟩
  · obtain ⟨nm, hm, h⟩ := h
    obtain ⟨k1, k2⟩ := ht nm hm
    exact (pe_xf (X := X) k1 k2 hz hf hp hb).run pins s σ H Q I h
  · unfold xfT at z
    cases hq : (excAt env i).bind (fun e => if e.cls ∈ tab then (e.ns.zip e.ds).lookup n else none) with
    | none => rw [hq] at z; exact z.elim
    | some dv =>
      rw [hq] at z
      obtain ⟨e, hei, hl⟩ := Option.bind_eq_some_iff.mp hq
      obtain ⟨a', cls', d', h1, h2, h3⟩ := s.exc i e (excAt_some hei)
      cases h1
      split at hl
      · rename_i hm
        refine ⟨e.cls, hm, .ref a, h2, rfl, h3.1, ?_⟩
        cases d with
        | none =>
          have q := h3.2
          rw [q.1] at hl
          cases hl
        | some dx =>
          obtain ⟨fs, q1, q2, q3⟩ := h3.2
          rw [← q2] at hl
          obtain ⟨v, l1, l2⟩ := Reps.look q3 hl
          exact ⟨dx, fs, v, rfl, w.sub _ _ q1, l1, Post.now (rel := rE X.K) (d := dv) z w l2⟩
      · cases hl
end
end Dn

end
set_option maxHeartbeats 4000000
section
namespace Dn
open PySem PySem.Spec L2
open PyProof.Rows hiding St

/-! ### the law's def, run by its caller: A is known there -/
section
variable {P : Program} {w : World} {K : PySem.W.Frag} {mg : Str → Option Value} {base : Heap} {x qual : Str} {params : Arguments} {body : List Stmt} {scope : Scope} {dvs : List V} {kws : List (Str × V)} {fn : Addr} {fd : FuncData} {N ps : List Str} {k : Nat}
theorem run_at {A : Around} {sd : SD} (F : FunD K x qual params body scope dvs kws fn fd) (S : FnScope N ps scope) (hr : Room (k + 1) A)
    (hbody : ∀ (cdv : Value) (outer : List Env) (s : Shared) (H : Hp) (E : XK), Room k (A.deeper (envOfC qual scope s.heap.objs.size fn cdv)) →
      DSs (bodyX P w K mg base N qual scope fn cdv A outer s H E) false ⟨fun cls d _ H => E cls d H, none⟩ body sd)
    (outer : List Env) (s : Shared) (H : Hp) (args : Args) (us : List Value) (vs : List V) (Q : VK) (E : XK) (e0 : Env0 P w K mg base A outer s H) (hb : BindsTo s fd args (ps.zip us)) (r : Vals vs us)
    (hsp : spD K false ps.length (runD N.length ps.length sd) vs H Q E) : codeAny (model P w) A (.call (.ref fn) args) (CR (L2.CX P w) outer P w H s Q E) s := by
  obtain ⟨oc, od, dV, kV, doc, pm, an, cdv, ct, osl, rfl, lk, hcd, _, _⟩ := F.ex
  have KX : K.In s.heap := e0.mod.kin.keeps fun b o e => (e0.bs b o e).1
  have par : ∀ y ∈ ps.zip us, scope.names.lookup y.1 = some .local ∨ (scope.names.lookup y.1 = some .cell ∧ ((cellsFrom (s.heap.objs.size + 1) scope.names []).lookup y.1).isSome = true) := by
    rintro ⟨n, v⟩ hy
    exact (S.par n (List.of_mem_zip hy).1).imp id fun q => ⟨q, PySem.W.cellsFrom_some _ _ _ (.inl q)⟩
  refine codeAny_call_function hr.depth (KX _ _ lk) rfl S.co S.gen rfl (PySem.W.codeRec_of KX hcd) (hb _ _ _ _ ?_)
  refine wpAny_newFunctionEnv_cells S.kind par fun env he s1 y => ?_
  subst he
  have nolim : s.heap.NoLimit := e0.mod.nolimit.keeps fun b o e => (e0.bs b o e).1
  refine ⟨nolim.keeps y.toInCall.keep, codeAny_func ?_⟩
  obtain ⟨t, ht, hq⟩ := body_ok (hbody cdv outer s H E (hr.deeper _)) hsp
  have I := inv_start (CX := L2.CX P w) (P := P) (w := w) (K := K) (mg := mg) (base := base) (cd := cdv) (E := E) S hr.hd e0 hsp.1 r y
  refine wpAny_mono (ht.run [] s1 _ H _ I hq) ?_ fun _ _ hs => hs
  rintro fl s' hs
  have done : ∀ {τ : St} {H' : Hp} {v : V} {u : Value}, Inv (bodyX P w K mg base N qual scope fn cdv A outer s H E) [] τ H' s' → RelV v u → Q v H' → CE outer P w H s Q u s' := fun {τ H' v u} J rv q => ⟨v, H', J.os, J.bare, J.base, J.hok, rv, q⟩
  cases fl with
  | brk => exact hs.elim fun _ ⟨_, _, q⟩ => q.elim
  | cont => exact hs.elim fun _ ⟨_, _, q⟩ => q.elim
  | next =>
    obtain ⟨_, _, J, q⟩ := hs
    exact done (v := V.non) (u := Value.none) J rfl q
  | ret u =>
    obtain ⟨_, _, _, J, rv, q⟩ := hs
    exact done J rv q
end
/-- the law called: from what it computes of a script -/
theorem law_top {P : Program} {w : World} {K : PySem.W.Frag} {mg mb : Str → Option Value} {k : Nat} {fa a : Addr} {fd : FuncData} {x nm qual : Str} {params : Arguments} {body : List Stmt} {scope : Scope} {dvs : List V} {kws : List (Str × V)} {N : List Str} {sd : SD} {s₁ : Shared} {vs : List Value} {ns : List Int}
    (KX : K.In s₁.heap) (hns : s₁.heap.Ns mainGlobals mg) (hb : s₁.heap.Ns builtinsNs mb) (hbb : ∀ x : Str, x ≠ "__name__" → mb x = bootBuiltins x) (hlim : s₁.heap.NoLimit) (hg : s₁.gens = #[])
    (ha : s₁.heap.get? a = some { cls := .type "list", data := .seq vs.toArray }) (hi : IntsAre vs ns) (hl : ns.length ≤ sizeLine) (hr : Room (k + 1) callerA)
    (F : FunD K nm qual params body scope dvs kws fa fd) (S : FnScope N [x] scope)
    (hbody : ∀ base : Heap, K.In base → base.Ns mainGlobals mg → ∀ (cdv : Value) (outer : List Env) (s : Shared) (H : Hp) (E : XK), Room k (callerA.deeper (envOfC qual scope s.heap.objs.size fa cdv)) →
      DSs (bodyX P w K mg base N qual scope fa cdv callerA outer s H E) false ⟨fun cls d _ H => E cls d H, none⟩ body sd)
    (hbind : ∀ (s : Shared) (u : Value), BindsTo s fd ⟨[u], []⟩ [(x, u)]) (hlaw : ∃ cs, runD N.length 1 sd [.rol (ns.map .int)] (some []) = .ok (.bl true) cs) :
    codeAny (model P w) callerA (.call (.ref fa) ⟨[.ref a], []⟩) (fun r s' => r = .ok (.ret (.bool true)) ∧ OldK s₁.heap s'.heap ∧ s'.os = s₁.os ∧ AllBare s'.gens) s₁ := by
  have rv := vals_ints hi
  have lv := hi.length
  -- the abstract heap: the script alone, or nothing
  have go : ∀ H : Hp, Only H → SqL K H a (ns.map V.int) → HOk P w H s₁.heap → (∀ b, H b ≠ none → b = a ∧ K.lookup a = none) →
      codeAny (model P w) callerA (.call (.ref fa) ⟨[.ref a], []⟩) (fun r s' => r = .ok (.ret (.bool true)) ∧ OldK s₁.heap s'.heap ∧ s'.os = s₁.os ∧ AllBare s'.gens) s₁ := by
    intro H hO hS hok hA
    have out : ∀ {b : Addr}, b ≠ a → H b = none := fun {b} h => by
      cases q : H b with
      | none => rfl
      | some u => exact absurd (hA b (by rw [q]; exact fun z => nomatch z)).1 h
    have dicts : ∀ {b : Addr} {o : Obj} {es : Array DictEntry} {ep : Nat}, s₁.heap.get? b = some o → o.data = .dict es ep → H b = none := fun {b o es ep} e d => out fun z => by
      rw [z, ha] at e
      cases e
      cases d
    have nsK : ∀ {b : Addr} {m : Str → Option Value}, s₁.heap.Ns b m → (hidT s₁.heap H).Ns b m := by
      rintro b m ⟨o, es, ep, e, d, q⟩
      exact ⟨o, es, ep, hidT_get e (dicts e d), d, q⟩
    have kin : K.In (hidT s₁.heap H) := fun b o e => hidT_get (KX b o e) (by
      cases q : H b with
      | none => rfl
      | some u =>
        obtain ⟨z, n⟩ := hA b (by rw [q]; exact fun z => nomatch z)
        rw [z, n] at e
        cases e)
    have M : Mod K mg (hidT s₁.heap H) := by
      obtain ⟨mc, l1, l2⟩ := hlim
      exact ⟨kin, nsK hns, ⟨mb, nsK hb, hbb⟩, ⟨mc, nsK l1, l2⟩⟩
    have e0 : Env0 P w K mg (hidT s₁.heap H) callerA [] s₁ H := ⟨rfl, M, fun b o e => of_hidT e, Nat.le_of_eq (hidT_size _ _), trivial, fun b z => (List.not_mem_nil z).elim, hok, .of_eq hg⟩
    obtain ⟨cs, hlaw⟩ := hlaw
    have start : spD K false 1 (runD N.length 1 sd) [.ref a] H (fun v _ => v = .bl true) (fun _ _ _ => False) := by
      have toD : ∀ l : List Int, Reps K H [] (l.map V.int) (l.map D.int) := fun l => by
        induction l with
        | nil => exact .nil
        | cons i l ih => exact .cons (.int i) ih
      refine ⟨rfl, H, [], some [], [.rol (ns.map .int)], ⟨.refl _, fun _ z => (List.not_mem_nil z).elim, .nil, fun _ z => (List.not_mem_nil z).elim, rfl, fun l e => ?_⟩, .cons (.rol hS (toD ns)) .nil, ?_⟩
      · cases e
        exact ⟨rfl, fun k c b h => by simp at h⟩
      · rw [hlaw]
        intro v H' F' g' _ _ r
        cases r
        rfl
    refine codeAny_mono (run_at (base := hidT s₁.heap H) F S hr (fun cdv outer s H E => hbody _ kin (nsK hns) cdv outer s H E) [] s₁ H ⟨[.ref a], []⟩ [.ref a] [.ref a] _ _ e0 (hbind s₁ _) (.cons rfl .nil) start) ?_
    rintro (e | fl) s' h
    · obtain ⟨_, _, _, _, _, _, _, _, _, _, _, _, z⟩ := h
      exact z.elim
    · cases fl with
      | ret u =>
        obtain ⟨v, H', os, bare, un, hok', r', q⟩ := h
        have q : v = .bl true := q
        subst q
        obtain rfl : u = Value.bool true := r'
        refine ⟨rfl, .of_keep fun b o e => ?_, os, bare⟩
        rcases hO b with z | ⟨ob, xs, z⟩
        · exact un.keep b o e z (fun z => (List.not_mem_nil z).elim) (fun z => (List.not_mem_nil z).elim)
        · obtain ⟨e2, -⟩ := hok' b _ (un.frzs b ob _ z)
          obtain ⟨e1, -⟩ := hok b _ z
          rw [e] at e1
          cases e1
          exact e2
      | _ => exact h.elim
  cases hk : K.lookup a with
  | some o =>
    have e := KX a o hk
    rw [ha] at e
    cases e
    exact go (fun _ => none) (fun _ => .inl rfl) (.inr ⟨_, vs.toArray, _, hk, rfl, rfl, rfl, by rw [List.size_toArray, lv]; exact hl, by simpa using rv⟩) (fun b u z => nomatch z) fun b z => absurd rfl z
  | none =>
    let o : Obj := { cls := .type "list", data := .seq vs.toArray }
    have at_ : ∀ b u, (if b = a then some (HO.frz o (.lst (ns.map V.int))) else none) = some u → b = a ∧ u = .frz o (.lst (ns.map V.int)) := fun b u z => by
      split at z
      · rename_i h
        cases z
        exact ⟨h, rfl⟩
      · cases z
    refine go (fun b => if b = a then some (.frz o (.lst (ns.map V.int))) else none) (fun b => ?_) (.inl (.inr ⟨o, if_pos rfl⟩)) (fun b u z => ?_) fun b z => ?_
    · cases q : (if b = a then some (HO.frz o (.lst (ns.map V.int))) else none) with
      | none => exact .inl q
      | some u =>
        obtain ⟨-, rfl⟩ := at_ b u q
        exact .inr ⟨o, _, q⟩
    · obtain ⟨rfl, rfl⟩ := at_ b u z
      exact ⟨ha, by rw [List.length_map]; exact hl, vs, _, rv, ha⟩
    · cases q : (if b = a then some (HO.frz o (.lst (ns.map V.int))) else none) with
      | none => exact absurd q z
      | some u => exact ⟨(at_ b u q).1, hk⟩
/-- .. and so the row holds behind its top -/
theorem walk_top {l : PySem.W.OpenLaw} {n k : Nat} {q : Program} {loose : List Str} {XP : (Str → Option Value) → Heap → Prop} {YP : World → Heap → Prop} {d : DefRec} {x : Str} {N : List Str} {sd : SD}
    (hn : l.most = some n) (hn2 : n ≤ sizeLine) (hdf : d.params.defaults = []) (hr : Room (k + 1) callerA)
    (F : ∀ (w : World) (mg : Str → Option Value) (fa : Addr) (h : Heap), YP w h → h.Ns mainGlobals mg → mg d.name = some (.ref fa) →
      ∃ (K : PySem.W.Frag) (fd : FuncData) (nm qual : Str) (params : Arguments) (body : List Stmt) (scope : Scope) (dvs : List V) (kws : List (Str × V)), K.In h ∧ (∀ (s : Shared) (u : Value), BindsTo s fd ⟨[u], []⟩ [(x, u)]) ∧ FunD K nm qual params body scope dvs kws fa fd ∧ FnScope N [x] scope ∧
        ∀ base : Heap, K.In base → base.Ns mainGlobals mg → ∀ (cdv : Value) (outer : List Env) (s : Shared) (H : Hp) (E : XK), Room k (callerA.deeper (envOfC qual scope s.heap.objs.size fa cdv)) →
          DSs (bodyX l.prog w K mg base N qual scope fa cdv callerA outer s H E) false ⟨fun cls d _ H => E cls d H, none⟩ body sd)
    (hlaw : ∀ ns : List Int, ns.length ≤ n → (∀ z ∈ ns, Builtin.Int.intBits z ≤ 1048576) → ∃ cs, runD N.length 1 sd [.rol (ns.map .int)] (some []) = .ok (.bl true) cs) :
    PySem.W.WalkO q loose XP YP l.row.toRowW d [] (fun f vs => PySem.call f vs) := by
  refine Att.attach_callB hn hdf ?_
  intro w s₀ s₁ mg mb fa o pm cd doc a vs ns G Y _ _ _ hmg hobj hints hlen hbits hg
  obtain ⟨K, fd, nm, qual, params, body, scope, dvs, kws, KX, hb, FD, S, hbody⟩ := F w mg fa _ Y G.T.g hmg
  exact law_top KX G.T.g G.T.b G.T.builtins G.T.nolimit hg hobj hints (Nat.le_trans hlen hn2) hr FD S hbody hb (hlaw ns hlen hbits)
end Dn

end
set_option maxHeartbeats 4000000
section
namespace Dn
open PySem PySem.Spec L2
open PyProof.Rows hiding St

/-! ### the head: facts that are Bools over the written part -/
abbrev FB := PySem.W.Frag → Bool
def asB (g : Addr → Option Obj) (n : Nat) (more : List Addr) : List Addr := (He.asD g n ++ more).eraseDups
def obsB (fb : List FB) (fn : List He.DefD) (K : PySem.W.Frag) : He.AlD := ((fb.all fun f => f K) && fn.all fun d => d.ok K, fn.map fun d => He.fnW K d.at_)
def SaysB (fb : List FB) (fn : List He.DefD) (K : PySem.W.Frag) : Prop := obsB fb fn K = He.valD fn
def obsBG (n : Nat) (more : List Addr) (fb : List FB) (fn : List He.DefD) (g : Addr → Option Obj) : He.AlD := obsB fb fn (He.frG g (asB g n more))
def hookB (n : Nat) (more : List Addr) (fb : List FB) (fn : List He.DefD) : PySem.W.Hook where
  α := He.AlD
  obs := fun s => obsBG n more fb fn s.heap.get?
  val := fun _ => He.valD fn
  says := fun _ h => ∃ K : PySem.W.Frag, K.In h ∧ SaysB fb fn K
  of := fun _ _ e => ⟨_, He.frG_in, e⟩
  keeps := fun _ _ _ ⟨K, hK, c⟩ k => ⟨K, PySem.W.Frag.In.keeps hK k, c⟩
theorem obsBG_eq {n : Nat} {more : List Addr} {fb : List FB} {fn : List He.DefD} {g : Addr → Option Obj} {s : Shared} (h : ∀ a, g a = s.heap.get? a) : obsBG n more fb fn g = (hookB n more fb fn).obs s := by
  rw [funext h] <;> rfl
section
variable {fb : List FB} {fn : List He.DefD} {K : PySem.W.Frag}
theorem SaysB.fact (c : SaysB fb fn K) (i : Nat) {f : FB} (h : fb[i]? = some f := by rfl) : f K = true := by
  have z := (He.ba (congrArg (fun z : He.AlD => z.1) c : ((fb.all fun f => f K) && fn.all fun d => d.ok K) = true)).1
  exact List.all_eq_true.mp z f (List.mem_of_getElem? h)
theorem SaysB.all (c : SaysB fb fn K) {f : FB} (h : f ∈ fb) : f K = true :=
  List.all_eq_true.mp (He.ba (congrArg (fun z : He.AlD => z.1) c : ((fb.all fun f => f K) && fn.all fun d => d.ok K) = true)).1 f h
theorem SaysB.def_ (c : SaysB fb fn K) (i : Nat) {d : He.DefD} (h : fn[i]? = some d := by rfl) : ∃ fd, FunD K d.name d.qual d.params d.body d.scope (d.dvs K) (d.kws K) (He.fAd K d.at_) fd := by
  have z := (He.ba (congrArg (fun z : He.AlD => z.1) c : ((fb.all fun f => f K) && fn.all fun d => d.ok K) = true)).2
  have e : (fn.map fun d => He.fnW K d.at_)[i]? = (fn.map He.DefD.val)[i]? := by rw [show fn.map (fun d => He.fnW K d.at_) = fn.map He.DefD.val from congrArg (fun z : He.AlD => z.2) c]
  rw [List.getElem?_map, List.getElem?_map, h] at e
  exact He.DefD.funD (Option.some.inj e) (List.all_eq_true.mp z d (List.mem_of_getElem? h))
end
/-! ### the facts -/
def fGlo (x : Str) : FB := fun K => (He.Fa.glo x).ok K
def fFree (x : Str) : FB := fun K => (He.Fa.free x).ok K
def fInt (x : Str) (i : Int) : FB := fun K => (He.Fa.int x i).ok K
def fStr (x z : Str) : FB := fun K => (He.Fa.str x z).ok K
def fMod : FB := fun K => (K.lookup sysModules).isSome
/-- a class over ValueError, with __init__ of its own -/
def oexB (K : PySem.W.Frag) (C : Addr) : Bool := match K.lookup C with
  | some ⟨.type "type", _, .cls cd, sl⟩ => (match cd.mro, sl.toList with
    | .ref C' :: bm, [_, _, _, _, some (.builtin n), _] => C' == C && (n == "ValueError.__new__" && (!cd.hasDel && (cd.hasDict && PySem.HandSPX.refsVE bm)))
    | _, _ => false)
  | _ => false
def fErr (x : Str) : FB := fun K => oexB K (He.ga K x) && (decide (PySem.W.findIn K (.ref (He.ga K x)) "__setattr__" = some (some (.builtin "object.__setattr__"))) && (decide (PySem.W.subIn K (.ref (He.ga K x)) (.type "BaseException") = some true) &&
  (decide (PySem.W.typeIn K (.ref (He.ga K x)) = some (.type "type")) && PySem.W.keepIn K (.ref (He.ga K x)))))
def fIni (x : Str) : FB := fun K => decide (PySem.W.findIn K (.ref (He.ga K x)) "__init__" = some (some (.ref (He.ma K (He.ga K x) "__init__")))) && decide (PySem.W.typeIn K (.ref (He.ma K (He.ga K x) "__init__")) = some (.type "function"))
def fNo (x f : Str) : FB := fun K => decide (PySem.W.findIn K (.ref (He.ga K x)) f = some none)
def fExm (x : Str) (c : PySem.W.Frag → Value) (b : Bool) : FB := fun K => decide (PySem.W.exmOne K (.ref (He.ga K x)) (c K) = some b)
def fKit (x : Str) (c : PySem.W.Frag → Value) (b : Bool) : FB := fun K => decide (PySem.W.kitOne K (.ref (He.ga K x)) (c K) = some b)
def own (x : Str) (K : PySem.W.Frag) : Value := .ref (He.ga K x)
def ty (T : String) (_ : PySem.W.Frag) : Value := .type T
def fXc (x : Str) : FB := fun K => decide (PySem.W.findIn K (.ref (He.ga K x)) "__getattribute__" = some (some (.builtin "BaseException.__getattribute__"))) && (decide (PySem.W.findIn K (.ref (He.ga K x)) "__getattr__" = some none) && (decide (PySem.W.subIn K (.ref (He.ga K x)) (.type "BaseException") = some true) && (PySem.W.hasDictIn K (He.ga K x) &&
  (decide (PySem.W.findIn K (.ref (He.ga K x)) "__class__" = some (some (.builtin "object.__class__"))) && (decide (PySem.W.specialIn K (.builtin "object.__class__") "__get__" = some (some (.builtin "getset_descriptor.__get__"))) && (decide (PySem.W.takesIn K (.builtin "object.__class__") = some true) && decide (PySem.W.mroIn K (He.ga K x) (.type "object") = some true)))))))
section
variable {K : PySem.W.Frag} {h : Heap} {mg : Str → Option Value}
theorem oexB_ok {C : Addr} (q : oexB K C = true) : ∃ nm q N bs bm sn sub ab col dd k0 k1 k2 k3 k5, K.lookup C = some (excClassObj nm q C N bs bm true sn sub ab col dd k0 k1 k2 k3 k5 "ValueError.__new__") ∧ PySem.HandSPX.refsVE bm = true := by
  unfold oexB at q
  split at q
  · rename_i dd cd sl ho
    split at q
    · rename_i C' bm k0 k1 k2 k3 n k5 hm hs
      simp only [Bool.and_eq_true, beq_iff_eq, Bool.not_eq_true'] at q
      obtain ⟨rfl, rfl, h1, h2, h3⟩ := q
      obtain ⟨nm, bs, mro, ns, qn, hd, sn, sub, ab, col, del⟩ := cd
      dsimp only at hm h1 h2
      subst hm h1 h2
      obtain ⟨l⟩ := sl
      have hl : l = [k0, k1, k2, k3, some (.builtin "ValueError.__new__"), k5] := hs
      subst hl
      exact ⟨nm, qn, ns, bs, bm, sn, sub, ab, col, dd, k0, k1, k2, k3, k5, ho, h3⟩
    · cases q
  · cases q
theorem err_ok {x : Str} (q : fErr x K = true) : OexC K (He.ga K x) := by
  obtain ⟨h1, q⟩ := He.ba q
  obtain ⟨h2, q⟩ := He.ba q
  obtain ⟨h3, q⟩ := He.ba q
  obtain ⟨h4, h5⟩ := He.ba q
  exact ⟨oexB_ok h1, of_decide_eq_true h2, of_decide_eq_true h3, of_decide_eq_true h4, h5⟩
theorem xc_ok {x : Str} (q : fXc x K = true) : ExcC K (He.ga K x) ∧ XfC K (He.ga K x) := by
  obtain ⟨h1, q⟩ := He.ba q
  obtain ⟨h2, q⟩ := He.ba q
  obtain ⟨h3, q⟩ := He.ba q
  obtain ⟨h4, q⟩ := He.ba q
  obtain ⟨h5, q⟩ := He.ba q
  obtain ⟨h6, q⟩ := He.ba q
  obtain ⟨h7, h8⟩ := He.ba q
  have e1 := of_decide_eq_true h1
  have e2 := of_decide_eq_true h2
  have e3 := of_decide_eq_true h3
  exact ⟨⟨e1, e2, e3, h4, of_decide_eq_true h5, of_decide_eq_true h6, of_decide_eq_true h7, of_decide_eq_true h8⟩, ⟨e1, e2, e3, h4⟩⟩
theorem mod_ok (q : fMod K = true) : KnowsM K := Option.isSome_iff_exists.mp q
/-- the facts of a name list -/
theorem glo_of (X : K.In h) (G : h.Ns mainGlobals mg) {x : Str} (q : fGlo x K = true) : mg x = some (.ref (He.ga K x)) := He.glo_ok X G q
theorem free_of (X : K.In h) (G : h.Ns mainGlobals mg) {x : Str} (q : fFree x K = true) : mg x = none := He.free_ok X G q
theorem int_of (X : K.In h) (G : h.Ns mainGlobals mg) {x : Str} {i : Int} (q : fInt x i K = true) : ∃ t, mg x = some (.int i t) := He.int_ok X G q
end
end Dn

end
set_option maxHeartbeats 4000000
section
namespace Dn
open PySem PySem.Spec L2
open PyProof.Rows hiding St

section
variable {X : Cx} {pm : Bool} {Wx : WZ} {pos : Pos} {e a b o : Expr} {es : List Expr} {f fa fb fo : DEnv → M D} {fr : DEnv → M (List D)}
/-! ### {} and {"k": v} -/
theorem de_dict0 : DE X pm Wx (.Dict [] [] pos) (fun _ => pure (.dct [] [])) := by
  refine ⟨_, pe_dnewK, fun F g H0 env cs σ H Q w s z => ?_⟩
  intro p hp
  obtain ⟨w1, x1⟩ := w.alloc (o := .dK []) hp
  exact Post.at (rel := rE X.K) (d := .dct [] []) (Q := Q) (cs := cs) z w1 x1 (.dct upd_same rfl .nil)
theorem de_dict1 {x : Str} {j : Nat} {p1 : Pos} (h : DE X pm Wx e f) : DE X pm Wx (.Dict [some (.Constant (.str x) j p1)] [e] pos) (fun env => f env >>= fun d => pure (.dct [.inr x] [d])) := by
  obtain ⟨t, p, q⟩ := h.ex
  refine ⟨_, pe_disp (pps_cons pe_str p pps_nil) rfl rfl (by simp) (by simp), fun F g H0 env cs σ H Q w s z => ?_⟩
  intro a ha
  obtain ⟨w1, x1⟩ := w.alloc0 (o := .dK []) ha
  refine q F g H0 env cs σ _ _ w1 (s.next x1) ?_
  rw [M.bind_run] at z
  cases er : f env cs with
  | bad => rw [er] at z; exact z.elim
  | err e' cs1 =>
    rw [er] at z
    exact Post.next z w1 x1
  | ok d cs1 =>
    rw [er] at z
    intro v H1 F1 g1 w2 x2 r
    have n1 : F1 a = none := by
      cases q : F1 a with
      | none => rfl
      | some u =>
        rcases x2.nw a u q with z | z
        · rw [w.fnone ha] at z; cases z
        · rw [upd_same] at z; cases z
    have n2 : a ∉ g1 := fun m => by
      have := x2.gn a m (w.fresh ha)
      rw [upd_same] at this
      cases this
    have h1 : H1 a = some (.dK []) := x2.kp a _ upd_same (not_ex (w.fresh ha)) (fun _ z => nomatch z)
    refine ⟨h1, [(.inr x, v)], rfl, by simp, ?_⟩
    have e2 : (mergeK [] [(.inr x, v)] : List (Key × V)) = [(.inr x, v)] := rfl
    rw [e2]
    have t1 := w2.touch (o := .dK [(.inr x, v)]) n1 n2
    have y := (x1.trans x2).touch (o := .dK [(.inr x, v)]) ha
    have le : Le F1 (upd F1 a (.dK [(.inr x, v)])) := upd_le n1
    refine z (.ref a) _ (upd F1 a (.dK [(.inr x, v)])) g1 ⟨fun b u hb => ?_, fun b hb => ?_, t1.gnd, t1.gH, t1.mode, fun l hl => ?_⟩ ⟨y.lf.trans le, y.lg, fun b u hb => ?_, y.kp, y.kd, y.gn, y.pg⟩ (.dct upd_same rfl (.cons (r.mono le (.refl _)) .nil))
    · by_cases z : b = a
      · subst z; rw [upd_same] at hb ⊢; exact hb
      · rw [upd_ne z] at hb ⊢; exact w2.sub b u hb
    · rw [upd_ne (fun z => by subst z; exact n2 hb)]
      exact t1.gF b hb
    · obtain ⟨k1, k2⟩ := t1.cl l hl
      exact ⟨k1, fun k c b e1 e2 => (k2 k c b e1 e2).grow le (.refl _) fun _ h => h⟩
    · by_cases z : b = a
      · subst z; exact .inr ha
      · rw [upd_ne z] at hb; exact y.nw b u hb
/-! ### upper -/
def upperD (x : D) : M D := strOnly x >>= fun x => if x.length ≤ 5592405 then pure (.str (Txt.upper x)) else bad
theorem de_upper {apos : Pos} (ho : DB X pm Wx o fo) (hbase : attributeBase o "upper" X.env (eval o X.env) = eval o X.env := by rfl) (hline : (apos.endLine == pos.line) = true := by rfl) :
    DE X pm Wx (.Call (.Attribute o "upper" apos) [] [] pos) (fun env => fo env >>= upperD) := by
  obtain ⟨t, p, q⟩ := ho.ex
  refine ⟨_, pe_upper p hbase hline, fun F g H0 env cs σ H Q w s z => ?_⟩
  refine q F g H0 env cs σ H _ w s (Post.bind (rel2 := rE X.K) z fun d cs1 v H1 F1 g1 w1 x1 r1 z1 => ?_)
  cases d with
  | str x =>
    have e := r1.str
    subst e
    have z1 : Post (rE X.K) X.K pm Wx σ F1 g1 H1 Q ((if x.length ≤ 5592405 then pure (.str (Txt.upper x)) else bad : M D) cs1) := z1
    by_cases h : x.length ≤ 5592405
    · rw [if_pos h] at z1
      exact ⟨⟨x, rfl⟩, x, rfl, rfl, h, z1.now w1 (.str _)⟩
    · rw [if_neg h] at z1
      exact z1.elim
  | _ => exact z1.elim
/-! ### sorted -/
def pyD (d : D) : PyData := (pyOf d).getD .none
def sortOk (xs : List D) : Bool := xs.all (fun d => (pyOf d).isSome && decide ((pyD d).depth ≤ 60)) && (xs.all (fun d => xs.all fun d' => PySem.W.alike (pyD d) (pyD d')) && (xs.all (fun d => match pyD d with | .tuple (_ :: _) => true | _ => false) || xs.all fun d => match pyD d with | .none => false | .tuple _ => false | _ => true))
def leD (a b : D) : Bool := PySem.W.dataLe false pyD a b
def sortD (d : D) : M D := viewL d >>= fun xs => if sortOk xs then mkLst (xs.mergeSort leD) else bad
theorem each_of {K : PySem.W.Frag} {F : Hp} {g : List Addr} : ∀ {vs : List V} {ds : List D} {us : List Value}, Reps K F g vs ds → Vals vs us → PySem.W.EachIs (fun u (b : V × D) => RelV b.1 u ∧ Rep K F g b.1 b.2) us (vs.zip ds)
  | _, _, _, .nil, .nil => .nil
  | _, _, _, .cons r t, .cons q u => .cons ⟨q, r⟩ (each_of t u)
theorem of_each {K : PySem.W.Frag} {F : Hp} {g : List Addr} : ∀ {bs : List (V × D)} {us : List Value}, PySem.W.EachIs (fun u (b : V × D) => RelV b.1 u ∧ Rep K F g b.1 b.2) us bs → Reps K F g (bs.map (·.1)) (bs.map (·.2)) ∧ Vals (bs.map (·.1)) us
  | [], _, .nil => ⟨.nil, .nil⟩
  | _ :: _, _, .cons h t => ⟨.cons h.2 (of_each t).1, .cons h.1 (of_each t).2⟩
theorem each_reads {pins : List (Addr × Obj)} {σ : St} {s : Shared} {F H : Hp} {g : List Addr} (I : Inv X pins σ H s) (le : Le F H) (hM : H sysModules = none) : ∀ {vs : List V} {ds : List D} {us : List Value}, (ds.all fun d => (pyOf d).isSome) = true → Reps X.K F g vs ds → Vals vs us →
    PySem.W.EachIs (fun u (b : V × D) => ∃ as, Reads s.heap u (pyD b.2) as) us (vs.zip ds)
  | _, _, _, _, .nil, .nil => .nil
  | _, d :: _, _, h, .cons r t, .cons q u => by
    rw [List.all_cons, Bool.and_eq_true] at h
    obtain ⟨p, hp⟩ := Option.isSome_iff_exists.mp h.1
    obtain ⟨as, hr, -⟩ := Rep.reads I le hM d p _ _ hp r q
    refine .cons ⟨as, ?_⟩ (each_reads I le hM h.2 t u)
    show Reads s.heap _ ((pyOf d).getD .none) as
    rw [hp]
    exact hr
def rSort (K : PySem.W.Frag) : List V → Hp → VK → Prop := fun vs H Q => ∃ (F : Hp) (g : List Addr) (a : Addr) (ws : List V) (ds : List D), vs = [.ref a] ∧ SqL K H a ws ∧ Le F H ∧ Reps K F g ws ds ∧ sortOk ds = true ∧
  ∀ ys p, Reps K F g ys (ds.mergeSort leD) → H p = none → Q (.ref p) (upd H p (.lst ys))
theorem zip_snd {K : PySem.W.Frag} {F : Hp} {g : List Addr} : ∀ {vs : List V} {ds : List D}, Reps K F g vs ds → (vs.zip ds).map (·.2) = ds
  | _, _, .nil => rfl
  | _, d :: _, .cons _ t => by
    rw [List.zip_cons_cons, List.map_cons, zip_snd t]
theorem call_sort (hu : X.A.units + 64 < cLine) (hm : KnowsM X.K) : CallR X (.builtin "sorted") (rSort X.K) := by
  rintro pins s σ H vs us Q I r ⟨F, g, a, ws, ds, rfl, hs, le, rr, ok, q⟩
  obtain ⟨its, rv, hl, hz⟩ := I.list hs
  obtain ⟨u, rfl, ru⟩ := vals1 r
  obtain rfl : u = Value.ref a := ru
  have hM := Dn.Inv.noM I hm
  unfold sortOk at ok
  simp only [Bool.and_eq_true, Bool.or_eq_true, List.all_eq_true, decide_eq_true_eq] at ok
  obtain ⟨ok1, ok2, ok3⟩ := ok
  have es : (ws.zip ds).map (·.2) = ds := zip_snd rr
  have mem : ∀ b ∈ ws.zip ds, b.2 ∈ ds := fun b hb => by
    rw [← es]
    exact List.mem_map_of_mem hb
  have le2 : ((ws.zip ds).mergeSort (PySem.W.dataLe false fun b => pyD b.2)).map (·.2) = ds.mergeSort leD := by
    refine (List.map_mergeSort (r := PySem.W.dataLe false fun b : V × D => pyD b.2) (s := leD) (f := fun b : V × D => b.2) (fun _ _ _ _ => rfl)).trans ?_
    rw [es]
  have lz : (ws.zip ds).length = ws.length := by rw [List.length_zip, ← rr.length, Nat.min_self]
  refine PySem.W.sorted_data (bs := ws.zip ds) (enc := fun b => pyD b.2) hl.isList (each_of rr rv) (each_reads I le hM (List.all_eq_true.mpr fun d hd => (ok1 d hd).1) rr rv) ?_ ?_ (by rw [lz]; exact hz) ?_ ?_
  · intro p hp p' hp'
    obtain ⟨b, hb, rfl⟩ := List.mem_map.mp hp
    obtain ⟨b', hb', rfl⟩ := List.mem_map.mp hp'
    exact ok2 _ (mem b hb) _ (mem b' hb')
  · rcases ok3 with h | h
    · refine .inl fun p hp => ?_
      obtain ⟨b, hb, rfl⟩ := List.mem_map.mp hp
      have := h _ (mem b hb)
      split at this
      · rename_i x l e
        exact ⟨x, l, e⟩
      · cases this
    · refine .inr fun p hp => ?_
      obtain ⟨b, hb, rfl⟩ := List.mem_map.mp hp
      have := h _ (mem b hb)
      split at this
      · cases this
      · cases this
      · rename_i h1 h2
        exact ⟨h1, h2⟩
  · intro b hb
    have := (ok1 _ (mem b hb)).2
    omega
  · intro out ho eo
    obtain ⟨r1, r2⟩ := of_each eo
    rw [le2] at r1
    obtain ⟨n, hn⟩ := sortedAll_at s.heap its (List.toArray out)
    have zz : (List.map (·.1) ((ws.zip ds).mergeSort (PySem.W.dataLe false fun b => pyD b.2))).length ≤ sizeLine := by
      rw [List.length_map, List.length_mergeSort, lz]
      exact hz
    exact ⟨.ref (s.heap.objs.size + 1), _, I.laid (a := s.heap.objs.size + 1) (t' := s.toks) (o := .lst (List.map (·.1) ((ws.zip ds).mergeSort (PySem.W.dataLe false fun b => pyD b.2)))) (fun b o e => sortedAll_old e) (Nat.le_succ _) ⟨zz, out, n, r2, hn⟩, rfl, q _ _ r1 (I.hok.fresh (Nat.le_succ _))⟩
theorem cd_sorted (hu : X.A.units + 64 < cLine) (hm : KnowsM X.K) : CallD X pm Wx (.builtin "sorted") (arg1 sortD) := by
  refine call1 (call_sort hu hm) fun F g cs σ H v d Q w r p => ?_
  unfold sortD at p
  obtain ⟨a, vs, xs, rfl, h, rr, p⟩ := p.viewL w r
  split at p
  · rename_i ok
    exact ⟨F, g, a, vs, xs, rfl, SqL.of h, w.sub, rr, ok, fun ys q r2 hq => (p.lst w r2).2 q hq⟩
  · exact p.elim
end
end Dn

end
set_option maxHeartbeats 4000000
section
namespace Dn
open PySem PySem.Spec L2
open PyProof.Rows hiding St

/-! ### short names for what the printed terms hold -/
def ltD : D → D → M D := intsD always fun i j => .bl (decide (i < j))
def leqD : D → D → M D := intsD always fun i j => .bl (decide (i ≤ j))
def gtD : D → D → M D := intsD always fun i j => .bl (decide (j < i))
def geqD : D → D → M D := intsD always fun i j => .bl (decide (j ≤ i))
def consA (fa : DEnv → M D) (fr : DEnv → M (List D)) : DEnv → M (List D) := fun env => fa env >>= fun d => fr env >>= fun ds => pure (d :: ds)
def tst (f : DEnv → M D) : DEnv → M Bool := fun env => f env >>= isB
def nott (f : DEnv → M Bool) : DEnv → M Bool := fun env => f env >>= fun k => pure (!k)
def cutM (fa : DEnv → M D) (fl fh : DEnv → M (Option Int)) : DEnv → M D := fun env => fa env >>= fun x => fl env >>= fun l => fh env >>= fun h => slD x l h
def repM (fa fb : DEnv → M D) : DEnv → M (List D) := fun env => fa env >>= fun x => fb env >>= fun y => repF x y
def enumM (f : DEnv → M D) : DEnv → M (List D) := fun env => f env >>= fun d => seqD d >>= fun xs => pure (enumL 0 xs)
theorem de_gint {X : Cx} {pm : Bool} {Wx : WZ} {pos : Pos} {x : Str} {i : Int} {t : Tok} (hm : X.mg x = some (.int i t)) (hg : Gl X x := by rfl) (hd : (x == ("__debug__" : Str)) = false := by decide) : DE X pm Wx (.Name x pos) (fun _ => pure (.int i)) :=
  de_glob (v := .int i) hg hm ⟨_, rfl⟩ (fun _ _ => .int _) hd
section
variable {P : Program} {w : World} {K : PySem.W.Frag} {mg : Str → Option Value} {base : Heap} {x qual : Str} {params : Arguments} {body : List Stmt} {scope : Scope} {dvs : List V} {kws : List (Str × V)} {fn : Addr} {fd : FuncData} {N ps : List Str} {k : Nat}
theorem _root_.L2.Room.u65 {k : Nat} {A : Around} (r : Room k A) : A.units + 65 < cLine := by have := r.un; omega
theorem bodyTk {cd : Value} {A : Around} {outer : List Env} {s : Shared} {H : Hp} {E : XK} : Takes (bodyX P w K mg base N qual scope fn cd A outer s H E) (fun cls d _ H => E cls d H) := takes_of rfl rfl rfl rfl
theorem bodyHp {cd : Value} {A : Around} {outer : List Env} {s : Shared} {H : Hp} {E : XK} : PassesOwn (model P w) (A.deeper (envOfC qual scope s.heap.objs.size fn cd)) (envOfC qual scope s.heap.objs.size fn cd) (bodyX P w K mg base N qual scope fn cd A outer s H E).xe := passes_of (X := bodyX P w K mg base N qual scope fn cd A outer s H E) rfl
theorem noTk {X : Cx} : Takes X (fun _ _ _ _ => False) := fun _ _ x => by
  obtain ⟨_, _, _, _, _, _, _, _, _, _, _, _, _, _, _, _, z⟩ := x
  exact z.elim
/-- a def's body, with what its terms lean on -/
theorem fnB {sd : SD} (F : FunD K x qual params body scope dvs kws fn fd) (S : FnScope N ps scope)
    (h : ∀ (cdv : Value) (A : Around) (outer : List Env) (s : Shared) (H : Hp) (E : XK), Room k (bodyX P w K mg base N qual scope fn cdv A outer s H E).A → Takes (bodyX P w K mg base N qual scope fn cdv A outer s H E) (fun cls d _ H => E cls d H) →
      PassesOwn (model (bodyX P w K mg base N qual scope fn cdv A outer s H E).prog (bodyX P w K mg base N qual scope fn cdv A outer s H E).w) (bodyX P w K mg base N qual scope fn cdv A outer s H E).A (bodyX P w K mg base N qual scope fn cdv A outer s H E).env (bodyX P w K mg base N qual scope fn cdv A outer s H E).xe →
      (bodyX P w K mg base N qual scope fn cdv A outer s H E).N.Nodup →
      DSs (bodyX P w K mg base N qual scope fn cdv A outer s H E) false ⟨fun cls d _ H => E cls d H, none⟩ body sd) :
    FnOk P w K mg base (L2.CX P w) (k + 1) fn fd ps (spD K false ps.length (runD N.length ps.length sd)) :=
  fnD F S fun cdv A outer s H E hr => h cdv A outer s H E hr bodyTk bodyHp S.nd
end
end Dn

end
set_option maxHeartbeats 4000000
section
namespace Dn
open PySem PySem.Spec L2
open PyProof.Rows hiding St

/-! ### where a token is out: text.replace -/
section
variable (X : Cx)
/-- .. and a token is out behind it -/
def PEK (e : Expr) (t : TE) : Prop := ∀ (pins : List (Addr × Obj)) (s : Shared) (σ : St) (H : Hp) (Q : VK), Inv X pins σ H s → t σ H Q → wpAny (model X.prog X.w) X.A (eval e X.env) (fun v s' => EP X pins σ Q v s' ∧ 1 ≤ s'.toks) X.xe s
def PAK (es : List Expr) (t : TA) : Prop := ∀ (pos : Pos) (pins : List (Addr × Obj)) (s : Shared) (σ : St) (H : Hp) (Q : List V → Hp → Prop), Inv X pins σ H s → t σ H Q → wpAny (model X.prog X.w) X.A (spliced (backTo pos (starEach es X.env))) (fun vs s' => AP X pins σ Q vs s' ∧ 1 ≤ s'.toks) X.xe s
variable (pm : Bool) (Wx : WZ)
abbrev SoundE (f : DEnv → M D) (t : TE) : Prop := ∀ F g H0 env cs σ H Q, Wk X.K pm F g cs H → Slots Wx.hx X.K F g H0 env σ H → Post (rE X.K) X.K pm Wx σ F g H Q (f env cs) → t σ H Q
abbrev SoundB (f : DEnv → M D) (t : TE) : Prop := ∀ F g H0 env cs σ H Q, Wk X.K pm F g cs H → Slots Wx.hx X.K F g H0 env σ H → Post (rB X.K) X.K pm Wx σ F g H Q (f env cs) → t σ H Q
abbrev SoundA (f : DEnv → M (List D)) (t : TA) : Prop := ∀ F g H0 env cs σ H Q, Wk X.K pm F g cs H → Slots Wx.hx X.K F g H0 env σ H → Post (rA X.K) X.K pm Wx σ F g H Q (f env cs) → t σ H Q
structure DEK (e : Expr) (f : DEnv → M D) : Prop where
  ex : ∃ t, PEK X e t ∧ SoundE X pm Wx f t
structure DAK (es : List Expr) (f : DEnv → M (List D)) : Prop where
  ex : ∃ t, PAK X es t ∧ SoundA X pm Wx f t
/-- .. where a token is out ahead of it -/
structure DET (e : Expr) (f : DEnv → M D) : Prop where
  ex : ∃ t, PET X e t ∧ SoundE X pm Wx f t
structure DBT (e : Expr) (f : DEnv → M D) : Prop where
  ex : ∃ t, PET X e t ∧ SoundB X pm Wx f t
structure DAT (es : List Expr) (f : DEnv → M (List D)) : Prop where
  ex : ∃ t, PAT X es t ∧ SoundA X pm Wx f t
structure DSsT (st : List Stmt) (f : SD) : Prop where
  ex : ∃ t, PSsT X st t ∧ SoundS X.K pm Wx f t
end
section
variable {X : Cx} {pm : Bool} {Wx : WZ} {pos : Pos} {e a b o : Expr} {es : List Expr} {f fa fb fo : DEnv → M D} {fr : DEnv → M (List D)}
theorem dek_str {x : Str} {j : Nat} : DEK X pm Wx (.Constant (.str x) j pos) (fun _ => pure (.str x)) := by
  refine ⟨tC (.str x), fun pins s σ H Q I h => Calls.Constant_str ⟨⟨.str x, H, I.tok _, ⟨_, rfl⟩, h⟩, ?_⟩, fun F g H0 env cs σ H Q w s p => p.now w (.str x)⟩
  show 1 ≤ s.toks + 1
  omega
theorem DEK.toE (h : DEK X pm Wx e f) : DE X pm Wx e f := by
  obtain ⟨t, p, q⟩ := h.ex
  exact ⟨t, ⟨fun pins s σ H Q I h => thn (p pins s σ H Q I h) fun _ _ z => z.1⟩, q⟩
theorem det_of (h : DE X pm Wx e f) : DET X pm Wx e f := by
  obtain ⟨t, p, q⟩ := h.ex
  exact ⟨t, fun pins s σ H Q _ I h => p.run pins s σ H Q I h, q⟩
theorem dbt_of (h : DB X pm Wx e f) : DBT X pm Wx e f := by
  obtain ⟨t, p, q⟩ := h.ex
  exact ⟨t, fun pins s σ H Q _ I h => p.run pins s σ H Q I h, q⟩
theorem DET.toB (h : DET X pm Wx e f) : DBT X pm Wx e f := by
  obtain ⟨t, p, q⟩ := h.ex
  exact ⟨t, p, fun F g H0 env cs σ H Q w s z => q F g H0 env cs σ H Q w s z.toB⟩
theorem tops {r : R2} {fD : D → D → M D} {t u : TE} (q : SoundB X pm Wx fa t) (q2 : SoundB X pm Wx fb u) (o : ∀ F g cs σ H x y dx dy Q, Wk X.K pm F g cs H → RepB X.K F g H x dx → RepB X.K F g H y dy → Post (rE X.K) X.K pm Wx σ F g H Q (fD dx dy cs) → r x y H Q) :
    SoundE X pm Wx (op2 fD fa fb) (tOp r t u) := bin2 q q2 o
theorem dek_op {op : Operator} {fD : D → D → M D} (ho : OpD X pm Wx (binaryOp op) fD) (ha : DB X pm Wx a fa) (hb : DEK X pm Wx b fb) : DEK X pm Wx (.BinOp a op b pos) (op2 fD fa fb) := by
  obtain ⟨r, h1, h2⟩ := ho.ex
  obtain ⟨t, p, q⟩ := ha.ex
  obtain ⟨u, p2, q2⟩ := hb.ex
  refine ⟨tOp r t u, fun pins s σ H Q I h => ?_, tops q (fun F g H0 env cs σ H Q w s z => q2 F g H0 env cs σ H Q w s z.toB) h2⟩
  refine wpAny_BinOp (thn (p.run pins s σ H _ I h) ?_)
  rintro v s1 ⟨x, H1, I1, r1, q1⟩
  refine thn (p2 pins s1 σ H1 _ I1 q1) ?_
  rintro u' s2 ⟨⟨y, H2, I2, r2, q2⟩, hk⟩
  refine wpAny_mono (PySem.wpAny_toks (h1 pins s2 σ H2 x y v u' Q I2 r1 r2 q2)) (fun _ _ z => ⟨z.2, Nat.le_trans hk z.1⟩) fun _ _ z => z.2
/-- a token comes of the left side -/
theorem de_opK {op : Operator} {fD : D → D → M D} (ho : OpD X pm Wx (binaryOp op) fD) (ha : DEK X pm Wx a fa) (hb : DBT X pm Wx b fb) : DE X pm Wx (.BinOp a op b pos) (op2 fD fa fb) := by
  obtain ⟨r, h1, h2⟩ := ho.ex
  obtain ⟨t, p, q⟩ := ha.ex
  obtain ⟨u, p2, q2⟩ := hb.ex
  refine ⟨tOp r t u, ⟨fun pins s σ H Q I h => ?_⟩, tops (fun F g H0 env cs σ H Q w s z => q F g H0 env cs σ H Q w s z.toB) q2 h2⟩
  refine wpAny_BinOp (thn (p pins s σ H _ I h) ?_)
  rintro v s1 ⟨⟨x, H1, I1, r1, q1⟩, hk⟩
  refine thn (p2 pins s1 σ H1 _ hk I1 q1) ?_
  rintro u' s2 ⟨y, H2, I2, r2, q2⟩
  exact h1 pins s2 σ H2 x y v u' Q I2 r1 r2 q2
theorem det_op {op : Operator} {fD : D → D → M D} (ho : OpD X pm Wx (binaryOp op) fD) (ha : DBT X pm Wx a fa) (hb : DBT X pm Wx b fb) : DET X pm Wx (.BinOp a op b pos) (op2 fD fa fb) := by
  obtain ⟨r, h1, h2⟩ := ho.ex
  obtain ⟨t, p, q⟩ := ha.ex
  obtain ⟨u, p2, q2⟩ := hb.ex
  exact ⟨_, CwR.pet_op h1 p p2, tops q q2 h2⟩
theorem dak_head (ha : DEK X pm Wx e fa) (hr : DA X pm Wx es fr) (hs : starEach (e :: es) X.env = (false, eval e X.env) :: starEach es X.env := by rfl) : DAK X pm Wx (e :: es) (consA fa fr) := by
  obtain ⟨t, p, q⟩ := ha.ex
  obtain ⟨u, p2, q2⟩ := hr.ex
  refine ⟨tCons t u, fun pos pins s σ H Q I h => ?_, fun F g H0 env cs σ H Q w s z => ?_⟩
  · rw [hs]
    show wpAny _ _ (spliced ((false, eval e X.env) :: backTo pos (starEach es X.env))) _ _ s
    refine Calls.spliced_cons (thn (p pins s σ H _ I h) ?_)
    rintro v s1 ⟨⟨x, H1, I1, r1, q1⟩, hk⟩
    refine wpAny_mono (PySem.wpAny_toks (p2.run pos pins s1 σ H1 _ I1 q1)) ?_ fun _ _ z => z.2
    rintro us s2 ⟨h2, xs, H2, I2, r2, q2⟩
    exact ⟨⟨x :: xs, H2, I2, .cons r1 r2, q2⟩, Nat.le_trans hk h2⟩
  · refine q F g H0 env cs σ H _ w s (Post.bind (rel2 := rA X.K) z fun d cs1 v H1 F1 g1 w1 x1 r z1 => ?_)
    refine q2 F1 g1 H0 env cs1 σ H1 _ w1 (s.next x1) (Post.bind (rel2 := rA X.K) z1 fun ds cs2 vs H2 F2 g2 w2 x2 rs z2 => ?_)
    exact Post.now (rel := rA X.K) z2 w2 (.cons (r.mono x2.lf x2.lg) rs)
theorem dak_tail (ha : DE X pm Wx e fa) (hr : DAK X pm Wx es fr) (hs : starEach (e :: es) X.env = (false, eval e X.env) :: starEach es X.env := by rfl) : DAK X pm Wx (e :: es) (consA fa fr) := by
  obtain ⟨t, p, q⟩ := ha.ex
  obtain ⟨u, p2, q2⟩ := hr.ex
  refine ⟨tCons t u, fun pos pins s σ H Q I h => ?_, fun F g H0 env cs σ H Q w s z => ?_⟩
  · rw [hs]
    show wpAny _ _ (spliced ((false, eval e X.env) :: backTo pos (starEach es X.env))) _ _ s
    refine Calls.spliced_cons (thn (p.run pins s σ H _ I h) ?_)
    rintro v s1 ⟨x, H1, I1, r1, q1⟩
    refine thn (p2 pos pins s1 σ H1 _ I1 q1) ?_
    rintro us s2 ⟨⟨xs, H2, I2, r2, q2⟩, hk⟩
    exact ⟨⟨x :: xs, H2, I2, .cons r1 r2, q2⟩, hk⟩
  · refine q F g H0 env cs σ H _ w s (Post.bind (rel2 := rA X.K) z fun d cs1 v H1 F1 g1 w1 x1 r z1 => ?_)
    refine q2 F1 g1 H0 env cs1 σ H1 _ w1 (s.next x1) (Post.bind (rel2 := rA X.K) z1 fun ds cs2 vs H2 F2 g2 w2 x2 rs z2 => ?_)
    exact Post.now (rel := rA X.K) z2 w2 (.cons (r.mono x2.lf x2.lg) rs)
theorem sound_lst {u : TA} (q : SoundA X pm Wx fr u) : SoundE X pm Wx (fun env => fr env >>= mkLst) (tLst u) := fun F g H0 env cs σ H Q w s z =>
  q F g H0 env cs σ H _ w s (Post.bind (rel2 := rE X.K) z fun ds cs1 vs H1 F1 g1 w1 x1 r z1 => z1.lst w1 r)
theorem dek_lst (h : DAK X pm Wx es fr) : DEK X pm Wx (.List es pos) (fun env => fr env >>= mkLst) := by
  obtain ⟨t, p, q⟩ := h.ex
  refine ⟨tLst t, fun pins s σ H Q I h => ?_, sound_lst q⟩
  refine wpAny_List_spliced (thn (p pos pins s σ H _ I h) ?_)
  rintro us s1 ⟨⟨xs, H1, I1, r, z, q⟩, hk⟩
  refine ⟨by rw [← r.length]; exact z, ⟨.ref s1.heap.objs.size, upd H1 s1.heap.objs.size (.lst xs), ?_, rfl, q _ (I1.hok.fresh (Nat.le_refl _))⟩, hk⟩
  exact I1.laid (t' := s1.toks) (fun b u e => Heap.get?_push_of_some _ e) (Nat.le_refl _) ⟨z, us, 0, r, Heap.get?_push_size _ rfl⟩
theorem dat_nil : DAT X pm Wx [] (fun _ => pure []) := ⟨_, pat_nil, fun F g H0 env cs σ H Q w s p => p.now w .nil⟩
theorem dat_cons (ha : DET X pm Wx e fa) (hr : DAT X pm Wx es fr) (hs : starEach (e :: es) X.env = (false, eval e X.env) :: starEach es X.env := by rfl) : DAT X pm Wx (e :: es) (consA fa fr) := by
  obtain ⟨t, p, q⟩ := ha.ex
  obtain ⟨u, p2, q2⟩ := hr.ex
  refine ⟨_, pat_cons p p2 hs, fun F g H0 env cs σ H Q w s z => ?_⟩
  refine q F g H0 env cs σ H _ w s (Post.bind (rel2 := rA X.K) z fun d cs1 v H1 F1 g1 w1 x1 r z1 => ?_)
  refine q2 F1 g1 H0 env cs1 σ H1 _ w1 (s.next x1) (Post.bind (rel2 := rA X.K) z1 fun ds cs2 vs H2 F2 g2 w2 x2 rs z2 => ?_)
  exact Post.now (rel := rA X.K) z2 w2 (.cons (r.mono x2.lf x2.lg) rs)
theorem det_lst (h : DAT X pm Wx es fr) : DET X pm Wx (.List es pos) (fun env => fr env >>= mkLst) := by
  obtain ⟨t, p, q⟩ := h.ex
  exact ⟨_, pet_lst p, sound_lst q⟩
/-- x.replace("y", "z") -/
def replD (y z : Str) (x : D) : M D := strOnly x >>= fun x => if x.length + (x.length + 1) * z.length ≤ 16777216 then pure (.str (Txt.replace x y z)) else bad
theorem det_repl {y z : Str} {j k : Nat} {c0 c1 apos : Pos} (ho : DB X pm Wx o fo) (hyz : (y == z) = false := by decide)
    (hst : starEach [.Constant (.str y) j c0, .Constant (.str z) k c1] X.env = [(false, eval (.Constant (.str y) j c0) X.env), (false, eval (.Constant (.str z) k c1) X.env)] := by rfl)
    (hbase : attributeBase o "replace" X.env (eval o X.env) = eval o X.env := by rfl) (hline : (apos.endLine == pos.line) = true := by rfl) :
    DET X pm Wx (.Call (.Attribute o "replace" apos) [.Constant (.str y) j c0, .Constant (.str z) k c1] [] pos) (fun env => fo env >>= replD y z) := by
  obtain ⟨t, p, q⟩ := ho.ex
  refine ⟨_, CwR.pet_replC p hyz hst hbase hline, fun F g H0 env cs σ H Q w s p => ?_⟩
  refine q F g H0 env cs σ H _ w s (Post.bind (rel2 := rE X.K) p fun d cs1 v H1 F1 g1 w1 x1 r1 z1 => ?_)
  cases d with
  | str x =>
    have e := r1.str
    subst e
    have z1 : Post (rE X.K) X.K pm Wx σ F1 g1 H1 Q ((if x.length + (x.length + 1) * z.length ≤ 16777216 then pure (.str (Txt.replace x y z)) else bad : M D) cs1) := z1
    by_cases h : x.length + (x.length + 1) * z.length ≤ 16777216
    · rw [if_pos h] at z1
      exact ⟨x, rfl, h, z1.now w1 (.str _)⟩
    · rw [if_neg h] at z1
      exact z1.elim
  | _ => exact z1.elim
theorem det_call {x : Str} {p : Pos} {k j np : Nat} {φ : List D → M D} (G : HasF X.prog X.w X.K X.mg X.base pm j x np φ) (hr : Room k X.A) (hj : j ≤ k) (tk : Takes X Wx.W) (ha : DAT X pm Wx (e :: es) fr) (hg : Gl X x := by rfl) (hdb : (x == ("__debug__" : Str)) = false := by decide)
    (he : starEach (e :: es) X.env = (false, eval e X.env) :: starEach es X.env := by rfl) (hpl : (backTo pos (starEach es X.env)).any (·.1) = false := by rfl) :
    DET X pm Wx (.Call (.Name x p) (e :: es) [] pos) (fun env => fr env >>= callM np φ) := by
  obtain ⟨f', fd, ps, hm, hp, kp, bn, F⟩ := G.ex
  obtain ⟨t, pa, q⟩ := ha.ex
  refine ⟨tCallSD (spD X.K pm np φ) [] (fun σ => WE Wx.W σ) t, fun pins s σ H Q h0 I h => ?_, fun F g H0 env cs σ H Q w s z => ?_⟩
  · refine wpAny_Call_Name_kw (ld_glob I hg hm ?_ hdb)
    refine PySem.W.callWith_K (h₀ := X.base) I.ok.mod.kin kp (thn (pa pos pins s σ H _ h0 I h) ?_) he hpl
    rintro us s1 ⟨vs, H1, I1, r, q1⟩
    exact ⟨I1.kIn, run_fnSD (F.mono hj) hr bn .nil (passAt tk σ) I1 r q1⟩
  · refine q F g H0 env cs σ H _ w s (Post.bind (rel2 := rE X.K) z fun ds cs1 vs H1 F1 g1 w1 x1 rr z1 => ?_)
    unfold callM at z1
    split at z1
    · rename_i hl
      rw [List.append_nil]
      exact ⟨rr.length.trans hl, F1, g1, cs1, ds, w1, rr, z1.ret⟩
    · exact z1.elim
theorem dsst_ret (h : DET X pm Wx e f) : DSsT X pm Wx [.Return (some e) pos] (retS f) := by
  obtain ⟨t, p, q⟩ := h.ex
  refine ⟨_, CwR.psst_one (CwR.pst_ret p), fun F0 g0 H0 F g env cs σ H Dd r z => ?_⟩
  exact q F g H0 env cs σ H _ r.w r.s (PostS.expr r z fun d cs1 v H1 F1 g1 r1 x1 rr z1 => z1 v H1 F1 g1 r1.w r1.n rr)
/-- x = e, of which a token comes; the rest leans on it -/
theorem dss_tok {i : Nat} {x : Str} {pos' : Pos} {rest : List Stmt} {k : SD} (hN : X.N.Nodup) (h : DEK X pm Wx e f) (hr : DSsT X pm Wx rest k) (hi : X.N[i]? = some x := by rfl) (hx : Loc X.env.scope x := by first | exact .inl rfl | exact .inr rfl) (hs : swapsWith e (some (.Name x pos')) pos.line X.env = pure false := by rfl)
    (hf : X.fn x = true ∨ X.env.scope.names.lookup x = some .local := by first | exact .inl rfl | exact .inr rfl) : DSs X pm Wx (.Assign [.Name x pos'] e pos :: rest) (seqS (setS i f) k) := by
  obtain ⟨t, p, q⟩ := h.ex
  obtain ⟨u, p2, q2⟩ := hr.ex
  refine ⟨tSeq (tAsg t (gName i)) u, ⟨fun pins s σ H Dd I h => ?_⟩, fun F0 g0 H0 F g env cs σ H Dd r z => ?_⟩
  · refine wpAny_execs_cons (wpAny_Assign_Name (thn (p pins s σ H _ I h) ?_) hs)
    rintro v s1 ⟨⟨y, H1, I1, r1, q1⟩, hk⟩
    refine wpAny_mono (PySem.wpAny_toks (store_ok (Q := fun _ s2 => Inv X pins (σ.set i (some y)) H1 s2) I1 hN hi hx r1 (fun _ I2 => I2) hf)) ?_ fun _ _ z => z.2
    rintro _ s2 ⟨h2, I2⟩
    exact p2 pins s2 _ H1 Dd (Nat.le_trans hk h2) I2 q1
  · refine q F g H0 env cs σ H _ r.w r.s ?_
    unfold seqS setS thenS at z
    cases er : f env cs with
    | bad => rw [er] at z; exact z.elim
    | err x' cs1 =>
      rw [er] at z
      exact fun cls dx H1 F1 g1 w1 x1 ea => z cls dx σ H1 F1 g1 (r.next w1 x1) ea
    | ok d cs1 =>
      rw [er] at z
      intro v H1 F1 g1 w1 x1 rv
      have r1 := r.next w1 x1
      exact q2 F0 g0 H0 F1 g1 _ cs1 _ H1 Dd ⟨r1.w, r1.s.set i rv, r1.n, r1.c⟩ z
end
end Dn

end
set_option maxHeartbeats 4000000
section
namespace K67
open PySem PySem.Spec PyProof.Rows L2 Dn
abbrev prog : Program := PySem.Challenge.pw_framesalike_k67_texts_of_sheets
def top (i : Nat) : Stmt := prog.main.body.getD i (.Pass ⟨0, 0, 0, 0⟩)
def meth (i j : Nat) : Stmt := match top i with
  | .ClassDef (body := b) .. => b.getD j (.Pass ⟨0, 0, 0, 0⟩)
  | _ => .Pass ⟨0, 0, 0, 0⟩
def dd (x : Str) (i : Nat) (dfl : List He.Dv := []) : He.DefD := ⟨(x, none), x, x, defArgs (top i), defBody (top i), defScope (top i), dfl, []⟩
def di (C : Str) (i j : Nat) : He.DefD := ⟨(C, some "__init__"), "__init__", C ++ ".__init__", defArgs (meth i j), defBody (meth i j), defScope (meth i j), [], []⟩
def fn : List He.DefD := [di "BadSheet" 2 0, di "BadText" 3 0, dd "is_integer" 8, dd "is_worth" 10, dd "is_value" 11, dd "row_word" 12, dd "is_behind" 13, dd "sheet_error" 14, dd "words_of" 17, dd "number_in" 18 [.int 31], dd "part_text" 21, dd "sheet_text" 22, dd "is_part" 23, dd "part_of" 24, dd "row_in" 25, dd "read_sheet" 26, dd "_law_deck" 28, dd "_law_take" 29, dd "_law_pick" 30, dd "_law_is_int" 31, dd "_law_odd_thing" 32, dd "_law_is_row" 33, dd "_law_sheet_error" 34, dd "_law_worth" 35, dd "_law_value" 36, dd "_law_sorted_sheet" 37, dd "_law_sheet" 38, dd "_law_part_text" 39, dd "_law_sheet_text" 40, dd "_law_number_in" 41, dd "_law_part_in" 42, dd "_law_text_words" 43, dd "_law_read_sheet" 44, dd "_law_torn" 45, dd "_law_read" 46, dd "law" 47]
def fb : List FB := [fMod, fFree "abs", fFree "bool", fFree "enumerate", fFree "int", fFree "isinstance", fFree "len", fFree "range", fFree "repr", fFree "sorted", fFree "str", fFree "tuple", fGlo "is_integer", fGlo "is_worth", fGlo "is_value", fGlo "row_word", fGlo "is_behind", fGlo "sheet_error", fGlo "words_of", fGlo "number_in", fGlo "part_text", fGlo "sheet_text", fGlo "is_part", fGlo "part_of", fGlo "row_in", fGlo "read_sheet", fGlo "_law_deck", fGlo "_law_take", fGlo "_law_pick", fGlo "_law_is_int", fGlo "_law_odd_thing", fGlo "_law_is_row", fGlo "_law_sheet_error", fGlo "_law_worth", fGlo "_law_value", fGlo "_law_sorted_sheet", fGlo "_law_sheet", fGlo "_law_part_text", fGlo "_law_sheet_text", fGlo "_law_number_in", fGlo "_law_part_in", fGlo "_law_text_words", fGlo "_law_read_sheet", fGlo "_law_torn", fGlo "_law_read", fGlo "law", fInt "MAX_NUMBER" (10 ^ 40), fInt "MAX_VALUE" (10 ^ 50), fInt "MAX_VALUES" 60, fInt "MAX_FIGURES_texts" 31, fInt "MAX_FIGURES_sheettexts" 51, fGlo "BadSheet", fGlo "BadText", fGlo "FrameError", fErr "BadSheet", fIni "BadSheet", fXc "BadSheet", fNo "BadSheet" "number", fNo "BadSheet" "word", fErr "BadText", fIni "BadText", fXc "BadText", fNo "BadText" "number", fExm "BadSheet" (own "FrameError") true, fExm "BadText" (own "FrameError") true, fKit "BadSheet" (own "BadText") false, fKit "BadText" (own "BadText") true, fKit "BadSheet" (own "BadSheet") true, fKit "BadText" (own "BadSheet") false]
def hk : PySem.W.Hook := hookB 6 [sysModules] fb fn
def ob (s : PySem.W.SharedT) : He.AlD := obsBG 6 [sysModules] fb fn (HandSHeadRun.getT s)
theorem ob_eq (s : PySem.W.SharedT) : ob s = hk.obs s.abs := obsBG_eq (HandSHeadRun.getT_eq s)
abbrev R : PySem.W.OpenRow := PySem.W.OpenLaw.row PySem.Challenge.rw_framesalike_k67_texts_of_sheets
def loose0 : List Str := ["FrameError", "BadSheet", "BadText", "MAX_NUMBER", "MAX_VALUE", "MAX_VALUES", "is_integer", "is_worth", "is_value", "row_word", "is_behind", "sheet_error", "MAX_FIGURES_texts", "words_of", "number_in", "MAX_FIGURES_sheettexts", "part_text", "sheet_text", "is_part", "part_of", "row_in", "read_sheet", "_law_deck", "_law_take", "_law_pick", "_law_is_int", "_law_odd_thing", "_law_is_row", "_law_sheet_error", "_law_worth"]
def loose1 : List Str := ["_law_value", "_law_sorted_sheet", "_law_sheet", "_law_part_text", "_law_sheet_text", "_law_number_in", "_law_part_in", "_law_text_words", "_law_read_sheet", "_law_torn", "_law_read"]
def loose : List Str := loose0 ++ loose1
theorem run (w : World) : HandSHeadRun.RunEq R (PySem.W.view R.prog [47]) hk ob 4000 loose w := by
  intro os
  kernel_rfl
end K67

end
set_option maxHeartbeats 4000000
section
namespace K67
open PySem PySem.Spec PyProof.Rows L2 Dn
def d_is_integer : SD :=
  (retS (andV (fun env => (slotD 0) env >>= isiD "int") (andV (fun env => (fun env => (slotD 0) env >>= isiD "bool") env >>= notD) (chain3 leqD leqD (slotD 1) (slotD 0) (slotD 2)))))
def φ_is_integer : List D → M D := runD 3 3 d_is_integer
def d_is_worth : SD :=
  (retS (orV (op2 isD (slotD 0) (fun _ => pure .non)) (fun env => (consA (slotD 0) (consA (fun env => (fun _ => pure (.int (10 ^ 40))) env >>= negD) (consA (fun _ => pure (.int (10 ^ 40))) (fun _ => pure [])))) env >>= callM 3 φ_is_integer)))
def φ_is_worth : List D → M D := runD 1 1 d_is_worth
def d_is_value : SD :=
  (retS (orV (op2 isD (slotD 0) (fun _ => pure .non)) (fun env => (consA (slotD 0) (consA (fun env => (fun _ => pure (.int (10 ^ 50))) env >>= negD) (consA (fun _ => pure (.int (10 ^ 50))) (fun _ => pure [])))) env >>= callM 3 φ_is_integer)))
def φ_is_value : List D → M D := runD 1 1 d_is_value
def d_row_word : SD :=
  (seqS (ifS (orM (nott (tst (fun env => (slotD 0) env >>= isiD "tuple"))) (tst (op2 (eqD true) (fun env => (consA (slotD 0) (fun _ => pure [])) env >>= (arg1 lenD)) (fun _ => pure (.int 2)))))
  (retS (fun _ => pure (.str "pair")))
  skipS)
  (seqS (ifS (nott (tst (fun env => (consA (op2 ixD (slotD 0) (fun _ => pure (.int 0))) (fun _ => pure [])) env >>= callM 1 φ_is_worth)))
  (retS (fun _ => pure (.str "worth")))
  skipS)
  (retS (ifM (tst (fun env => (consA (op2 ixD (slotD 0) (fun _ => pure (.int 1))) (fun _ => pure [])) env >>= callM 1 φ_is_value)) (fun _ => pure .non) (fun _ => pure (.str "value"))))))
def φ_row_word : List D → M D := runD 1 1 d_row_word
def d_is_behind : SD :=
  (retS (orV (op2 isD (slotD 0) (fun _ => pure .non)) (andV (op2 isNotD (slotD 1) (fun _ => pure .non)) (op2 leqD (slotD 1) (slotD 0)))))
def φ_is_behind : List D → M D := runD 2 2 d_is_behind
def d_sheet_error : SD :=
  (seqS (ifS (orM (nott (tst (fun env => (slotD 0) env >>= isiD "tuple"))) (tst (op2 gtD (fun env => (consA (slotD 0) (fun _ => pure [])) env >>= (arg1 lenD)) (fun _ => pure (.int 60)))))
  (retS (fun env => (consA (fun _ => pure .non) (consA (fun _ => pure (.str "sheet")) (fun _ => pure []))) env >>= mkTup))
  skipS)
  (seqS (forS (enumM (slotD 0)) (bTup 2 (bCons (bName 1) (bCons (bName 2) bNil)))
  (seqS (setS 3 (fun env => (consA (slotD 2) (fun _ => pure [])) env >>= callM 1 φ_row_word))
  (seqS (ifS (andM (tst (op2 isD (slotD 3) (fun _ => pure .non))) (andM (tst (op2 gtD (slotD 1) (fun _ => pure (.int 0)))) (nott (tst (fun env => (consA (op2 ixD (slotD 2) (fun _ => pure (.int 0))) (consA (op2 ixD (op2 ixD (slotD 0) (op2 (intsD always fun i j => .int (i - j)) (slotD 1) (fun _ => pure (.int 1)))) (fun _ => pure (.int 0))) (fun _ => pure []))) env >>= callM 2 φ_is_behind)))))
  (setS 3 (fun _ => pure (.str "order")))
  skipS)
  (ifS (tst (op2 isNotD (slotD 3) (fun _ => pure .non)))
  (retS (fun env => (consA (slotD 1) (consA (slotD 3) (fun _ => pure []))) env >>= mkTup))
  skipS))))
  (retS (fun _ => pure .non))))
def φ_sheet_error : List D → M D := runD 4 1 d_sheet_error
def d_words_of : SD :=
  (seqS (ifS (nott (tst (fun env => (slotD 0) env >>= isiD "str")))
  (raiseS "BadText" ["number"] (consA (fun _ => pure .non) (fun _ => pure [])))
  skipS)
  (retS (lstM (compF [1] (fun env => (strOp splitD (slotD 0) (fun _ => pure (.str " "))) env >>= itD) (bName 1) (tst (op2 (eqD true) (slotD 1) (fun _ => pure (.str "")))) (slotD 1)))))
def φ_words_of : List D → M D := runD 2 1 d_words_of
def d_number_in : SD :=
  (seqS (setS 2 (ifM (tst (op2 (eqD false) (cutM (slotD 0) (fun _ => pure none) (fun env => (fun _ => pure (.int 1)) env >>= someI)) (fun _ => pure (.str "-")))) (cutM (slotD 0) (fun env => (fun _ => pure (.int 1)) env >>= someI) (fun _ => pure none)) (slotD 0)))
  (seqS (ifS (orM (nott (tst (chain3 leqD leqD (fun _ => pure (.int 1)) (fun env => (consA (slotD 2) (fun _ => pure [])) env >>= (arg1 lenD)) (slotD 1)))) (tst (op2 (eqD true) (lstM (compF [3] (fun env => (slotD 2) env >>= itD) (bName 3) (tst (op2 (inD true) (slotD 3) (fun _ => pure (.str "0123456789")))) (fun _ => pure (.int 1)))) (fun env => (fun _ => pure []) env >>= mkLst))))
  (retS (fun _ => pure .non))
  skipS)
  (seqS (ifS (andM (tst (op2 (eqD false) (op2 ixD (slotD 2) (fun _ => pure (.int 0))) (fun _ => pure (.str "0")))) (tst (op2 (eqD true) (slotD 0) (fun _ => pure (.str "0")))))
  (retS (fun _ => pure .non))
  skipS)
  (retS (fun env => (consA (slotD 0) (fun _ => pure [])) env >>= (arg1 intD))))))
def φ_number_in : List D → M D := runD 4 2 d_number_in
def d_part_text : SD :=
  (retS (ifM (tst (op2 isD (slotD 0) (fun _ => pure .non))) (slotD 1) (fun env => (consA (slotD 0) (fun _ => pure [])) env >>= (arg1 strD))))
def φ_part_text : List D → M D := runD 2 2 d_part_text
def d_sheet_text : SD :=
  (retS (strOp joinD (fun _ => pure (.str " ")) (lstM (compF [1, 2] (fun env => (slotD 0) env >>= itD) (bTup 2 (bCons (bName 1) (bCons (bName 2) bNil))) (fun _ => pure true) (op2 addD (op2 addD (fun env => (consA (slotD 1) (consA (fun _ => pure (.str "?")) (fun _ => pure []))) env >>= callM 2 φ_part_text) (fun _ => pure (.str ":"))) (fun env => (consA (slotD 2) (consA (fun _ => pure (.str "-")) (fun _ => pure []))) env >>= callM 2 φ_part_text))))))
def φ_sheet_text : List D → M D := runD 3 1 d_sheet_text
def d_is_part : SD :=
  (retS (orV (op2 (eqD false) (slotD 0) (slotD 1)) (op2 isNotD (fun env => (consA (slotD 0) (consA (fun _ => pure (.int 51)) (fun _ => pure []))) env >>= callM 2 φ_number_in) (fun _ => pure .non))))
def φ_is_part : List D → M D := runD 2 2 d_is_part
def d_part_of : SD :=
  (retS (ifM (tst (op2 (eqD false) (slotD 0) (slotD 1))) (fun _ => pure .non) (fun env => (consA (slotD 0) (consA (fun _ => pure (.int 51)) (fun _ => pure []))) env >>= callM 2 φ_number_in)))
def φ_part_of : List D → M D := runD 2 2 d_part_of
def d_row_in : SD :=
  (seqS (setS 1 (strOp splitD (slotD 0) (fun _ => pure (.str ":"))))
  (seqS (ifS (orM (tst (op2 (eqD true) (fun env => (consA (slotD 1) (fun _ => pure [])) env >>= (arg1 lenD)) (fun _ => pure (.int 2)))) (orM (nott (tst (fun env => (consA (op2 ixD (slotD 1) (fun _ => pure (.int 0))) (consA (fun _ => pure (.str "?")) (fun _ => pure []))) env >>= callM 2 φ_is_part))) (nott (tst (fun env => (consA (op2 ixD (slotD 1) (fun _ => pure (.int 1))) (consA (fun _ => pure (.str "-")) (fun _ => pure []))) env >>= callM 2 φ_is_part)))))
  (retS (fun _ => pure .non))
  skipS)
  (retS (fun env => (consA (fun env => (consA (op2 ixD (slotD 1) (fun _ => pure (.int 0))) (consA (fun _ => pure (.str "?")) (fun _ => pure []))) env >>= callM 2 φ_part_of) (consA (fun env => (consA (op2 ixD (slotD 1) (fun _ => pure (.int 1))) (consA (fun _ => pure (.str "-")) (fun _ => pure []))) env >>= callM 2 φ_part_of) (fun _ => pure []))) env >>= mkTup))))
def φ_row_in : List D → M D := runD 2 1 d_row_in
def d_read_sheet : SD :=
  (seqS (setF 1 (fun env => (fun _ => pure []) env >>= fewL))
  (seqS (forS (enumM (fun env => (consA (slotD 0) (fun _ => pure [])) env >>= callM 1 φ_words_of)) (bTup 2 (bCons (bName 2) (bCons (bName 3) bNil)))
  (seqS (setS 4 (fun env => (consA (slotD 3) (fun _ => pure [])) env >>= callM 1 φ_row_in))
  (seqS (ifS (tst (op2 isD (slotD 4) (fun _ => pure .non)))
  (raiseS "BadText" ["number"] (consA (slotD 2) (fun _ => pure [])))
  skipS)
  (appS 1 (slotD 4)))))
  (seqS (setS 5 (fun env => (consA (fun env => (consA (slotB 1) (fun _ => pure [])) env >>= (arg1 tupD)) (fun _ => pure [])) env >>= callM 1 φ_sheet_error))
  (seqS (ifS (tst (op2 isNotD (slotD 5) (fun _ => pure .non)))
  (raiseS "BadSheet" ["word", "number"] (consA (op2 ixD (slotD 5) (fun _ => pure (.int 0))) (consA (op2 ixD (slotD 5) (fun _ => pure (.int 1))) (fun _ => pure []))))
  skipS)
  (retS (fun env => (consA (slotB 1) (fun _ => pure [])) env >>= (arg1 tupD)))))))
def φ_read_sheet : List D → M D := runD 6 1 d_read_sheet
def d__law_deck : SD :=
  (seqS (parS 1 2 (consA (fun _ => pure (.int 0)) (consA (op2 addD (fun _ => pure (.int 11205)) (op2 mulD (fun _ => pure (.int 37)) (fun env => (consA (slotD 0) (fun _ => pure [])) env >>= (arg1 lenD)))) (fun _ => pure []))))
  (seqS (forS (fun env => (cutM (slotD 0) (fun _ => pure none) (fun env => (fun _ => pure (.int 63)) env >>= someI)) env >>= itD) (bName 3)
  (ifS (tst (op2 geqD (slotD 3) (op2 (intsD powOk fun i j => .int (i ^ j.toNat)) (fun _ => pure (.int 10)) (fun _ => pure (.int 18)))))
  (setS 1 (op2 (intsD always fun i j => .int (i - j)) (op2 addD (op2 mulD (slotD 1) (fun _ => pure (.int 43))) (slotD 3)) (op2 (intsD powOk fun i j => .int (i ^ j.toNat)) (fun _ => pure (.int 10)) (fun _ => pure (.int 18)))))
  (seqS (setS 4 (op2 addD (op2 mulD (slotD 2) (fun _ => pure (.int 3202034522624059733))) (op2 mulD (fun _ => pure (.int 2)) (fun env => (consA (slotD 3) (fun _ => pure [])) env >>= (arg1 absD)))))
  (setS 2 (op2 (intsD (fun _ j => decide (0 < j)) fun i j => .int (i % j)) (fun env => (consA (op2 addD (slotD 4) (fun env => (consA (op2 ltD (slotD 3) (fun _ => pure (.int 0))) (fun _ => pure [])) env >>= (arg1 intD))) (fun _ => pure [])) env >>= (arg1 intD)) (fun _ => pure (.int 2305843009213693951)))))))
  (retS (cellM (fun env => (consA (slotD 1) (consA (slotD 2) (consA (fun _ => pure (.int 0)) (fun _ => pure [])))) env >>= fewL)))))
def φ__law_deck : List D → M D := runD 5 1 d__law_deck
def d__law_take : SD :=
  (seqS (ifS (tst (op2 gtD (op2 ixD (slotD 0) (fun _ => pure (.int 0))) (fun _ => pure (.int 0))))
  (seqS (setS 2 (op2 (intsD (fun _ j => decide (0 < j)) fun i j => .int (i % j)) (fun env => (consA (op2 ixD (slotD 0) (fun _ => pure (.int 0))) (fun _ => pure [])) env >>= (arg1 intD)) (slotD 1)))
  (seqS (subC (slotD 0) (op2 (intsD divOk fun i j => .int (i / j)) (op2 ixD (slotD 0) (fun _ => pure (.int 0))) (slotD 1)) (fun _ => pure (.int 0)))
  (retS (slotD 2))))
  skipS)
  (seqS (subC (slotD 0) (op2 addD (op2 ixD (slotD 0) (fun _ => pure (.int 2))) (fun _ => pure (.int 1))) (fun _ => pure (.int 2)))
  (seqS (setS 3 (op2 addD (op2 mulD (op2 ixD (slotD 0) (fun _ => pure (.int 1))) (fun _ => pure (.int 3202034522624059733))) (op2 mulD (fun _ => pure (.int 1181783497276652981)) (op2 ixD (slotD 0) (fun _ => pure (.int 2))))))
  (seqS (subC (slotD 0) (op2 (intsD (fun _ j => decide (0 < j)) fun i j => .int (i % j)) (fun env => (consA (slotD 3) (fun _ => pure [])) env >>= (arg1 intD)) (fun _ => pure (.int 2305843009213693951))) (fun _ => pure (.int 1)))
  (retS (op2 (intsD (fun _ j => decide (0 < j)) fun i j => .int (i % j)) (op2 (intsD divOk fun i j => .int (i / j)) (op2 (intsD (fun _ j => decide (0 < j)) fun i j => .int (i % j)) (fun env => (consA (op2 mulD (op2 ixD (slotD 0) (fun _ => pure (.int 1))) (op2 ixD (slotD 0) (fun _ => pure (.int 1)))) (fun _ => pure [])) env >>= (arg1 intD)) (fun _ => pure (.int 2305843009213693921))) (fun _ => pure (.int 4096))) (slotD 1)))))))
def φ__law_take : List D → M D := runD 4 2 d__law_take
def d__law_pick : SD :=
  (retS (op2 ixD (slotD 1) (fun env => (consA (slotD 0) (consA (fun env => (consA (slotD 1) (fun _ => pure [])) env >>= (arg1 lenD)) (fun _ => pure []))) env >>= callM 2 φ__law_take)))
def φ__law_pick : List D → M D := runD 2 2 d__law_pick
def d__law_is_int : SD :=
  (retS (andV (fun env => (slotD 0) env >>= isiD "int") (andV (fun env => (fun env => (slotD 0) env >>= isiD "bool") env >>= notD) (chain3 leqD leqD (slotD 1) (slotD 0) (slotD 2)))))
def φ__law_is_int : List D → M D := runD 3 3 d__law_is_int
def d__law_odd_thing : SD :=
  (seqS (setS 1 (fun env => (consA (fun _ => pure .non) (consA (fun _ => pure (.bl true)) (consA (fun _ => pure (.bl false)) (consA (fun _ => pure (.int 0)) (consA (fun _ => pure (.int 1)) (consA (fun env => (fun _ => pure (.int 1)) env >>= negD) (consA (fun _ => pure (.int 6)) (consA (op2 (intsD powOk fun i j => .int (i ^ j.toNat)) (fun _ => pure (.int 10)) (fun _ => pure (.int 40))) (consA (op2 addD (op2 (intsD powOk fun i j => .int (i ^ j.toNat)) (fun _ => pure (.int 10)) (fun _ => pure (.int 50))) (fun _ => pure (.int 1))) (consA (fun _ => pure (.str "")) (consA (fun _ => pure (.str "0")) (consA (fun _ => pure (.str "?")) (consA (fun _ => pure (.str "sum")) (consA (fun env => (fun _ => pure []) env >>= mkTup) (consA (fun env => (fun _ => pure []) env >>= mkLst) (consA (fun env => (consA (fun _ => pure (.int 0)) (fun _ => pure [])) env >>= mkTup) (consA (fun env => (consA (fun _ => pure (.int 1)) (consA (fun _ => pure (.int 2)) (fun _ => pure []))) env >>= mkTup) (consA (fun env => (consA (fun _ => pure (.int 0)) (consA (fun _ => pure (.int 1)) (fun _ => pure []))) env >>= mkLst) (consA (fun env => (consA (fun _ => pure (.int 0)) (consA (fun _ => pure (.bl true)) (fun _ => pure []))) env >>= mkTup) (consA (fun _ => pure (.dct [] [])) (fun _ => pure []))))))))))))))))))))) env >>= mkLst))
  (retS (fun env => (consA (slotD 0) (consA (op2 addD (slotD 1) (fun env => (consA (fun env => (consA (fun _ => pure .non) (fun _ => pure [])) env >>= mkTup) (consA (fun env => (consA (fun _ => pure (.str "sum")) (consA (fun _ => pure (.int 0)) (fun _ => pure []))) env >>= mkTup) (consA (fun env => (consA (fun _ => pure (.dct [] [])) (fun _ => pure [])) env >>= mkTup) (consA (fun env => (consA (fun _ => pure .non) (consA (fun _ => pure .non) (fun _ => pure []))) env >>= mkTup) (consA (fun env => (consA (fun env => (consA (fun _ => pure (.int 0)) (consA (fun _ => pure (.int 0)) (fun _ => pure []))) env >>= mkTup) (fun _ => pure [])) env >>= mkTup) (consA (fun env => (consA (fun env => (consA (fun _ => pure (.int 0)) (consA (fun _ => pure (.int 0)) (fun _ => pure []))) env >>= mkTup) (fun _ => pure [])) env >>= mkLst) (consA (fun env => (fun _ => pure (.int 1)) env >>= fun d => pure (.dct [.inr "0"] [d])) (consA (fun env => (consA (fun _ => pure (.str "sum")) (consA (fun env => (consA (fun _ => pure (.str "rows")) (consA (fun _ => pure (.int 0)) (consA (fun _ => pure (.int 0)) (fun _ => pure [])))) env >>= mkTup) (fun _ => pure []))) env >>= mkTup) (fun _ => pure []))))))))) env >>= mkLst)) (fun _ => pure []))) env >>= callM 2 φ__law_pick)))
def φ__law_odd_thing : List D → M D := runD 2 1 d__law_odd_thing
def d__law_is_row : SD :=
  (seqS (ifS (orM (nott (tst (fun env => (slotD 0) env >>= isiD "tuple"))) (tst (op2 (eqD true) (fun env => (consA (slotD 0) (fun _ => pure [])) env >>= (arg1 lenD)) (fun _ => pure (.int 2)))))
  (retS (fun _ => pure (.str "pair")))
  skipS)
  (seqS (ifS (andM (tst (op2 isNotD (op2 ixD (slotD 0) (fun _ => pure (.int 0))) (fun _ => pure .non))) (nott (tst (fun env => (consA (op2 ixD (slotD 0) (fun _ => pure (.int 0))) (consA (fun env => (op2 (intsD powOk fun i j => .int (i ^ j.toNat)) (fun _ => pure (.int 10)) (fun _ => pure (.int 40))) env >>= negD) (consA (op2 (intsD powOk fun i j => .int (i ^ j.toNat)) (fun _ => pure (.int 10)) (fun _ => pure (.int 40))) (fun _ => pure [])))) env >>= callM 3 φ__law_is_int))))
  (retS (fun _ => pure (.str "worth")))
  skipS)
  (seqS (ifS (andM (tst (op2 isNotD (op2 ixD (slotD 0) (fun _ => pure (.int 1))) (fun _ => pure .non))) (nott (tst (fun env => (consA (op2 ixD (slotD 0) (fun _ => pure (.int 1))) (consA (fun env => (op2 (intsD powOk fun i j => .int (i ^ j.toNat)) (fun _ => pure (.int 10)) (fun _ => pure (.int 50))) env >>= negD) (consA (op2 (intsD powOk fun i j => .int (i ^ j.toNat)) (fun _ => pure (.int 10)) (fun _ => pure (.int 50))) (fun _ => pure [])))) env >>= callM 3 φ__law_is_int))))
  (retS (fun _ => pure (.str "value")))
  skipS)
  (retS (fun _ => pure .non)))))
def φ__law_is_row : List D → M D := runD 1 1 d__law_is_row
def d__law_sheet_error : SD :=
  (seqS (ifS (orM (nott (tst (fun env => (slotD 0) env >>= isiD "tuple"))) (tst (op2 gtD (fun env => (consA (slotD 0) (fun _ => pure [])) env >>= (arg1 lenD)) (fun _ => pure (.int 60)))))
  (retS (fun env => (consA (fun _ => pure .non) (consA (fun _ => pure (.str "sheet")) (fun _ => pure []))) env >>= mkTup))
  skipS)
  (seqS (forS (enumM (slotD 0)) (bTup 2 (bCons (bName 1) (bCons (bName 2) bNil)))
  (seqS (setS 3 (fun env => (consA (slotD 2) (fun _ => pure [])) env >>= callM 1 φ__law_is_row))
  (seqS (ifS (andM (tst (op2 isD (slotD 3) (fun _ => pure .non))) (andM (tst (op2 gtD (slotD 1) (fun _ => pure (.int 0)))) (tst (op2 isNotD (op2 ixD (slotD 2) (fun _ => pure (.int 0))) (fun _ => pure .non)))))
  (seqS (setS 4 (op2 ixD (op2 ixD (slotD 0) (op2 (intsD always fun i j => .int (i - j)) (slotD 1) (fun _ => pure (.int 1)))) (fun _ => pure (.int 0))))
  (ifS (orM (tst (op2 isD (slotD 4) (fun _ => pure .non))) (tst (op2 gtD (slotD 4) (op2 ixD (slotD 2) (fun _ => pure (.int 0))))))
  (setS 3 (fun _ => pure (.str "order")))
  skipS))
  skipS)
  (ifS (tst (op2 isNotD (slotD 3) (fun _ => pure .non)))
  (retS (fun env => (consA (slotD 1) (consA (slotD 3) (fun _ => pure []))) env >>= mkTup))
  skipS))))
  (retS (fun _ => pure .non))))
def φ__law_sheet_error : List D → M D := runD 5 1 d__law_sheet_error
def d__law_worth : SD :=
  (seqS (ifS (tst (op2 (eqD false) (fun env => (consA (slotD 0) (consA (fun _ => pure (.int 5)) (fun _ => pure []))) env >>= callM 2 φ__law_take) (fun _ => pure (.int 0))))
  (retS (fun _ => pure .non))
  skipS)
  (retS (op2 mulD (op2 (intsD always fun i j => .int (i - j)) (fun env => (consA (slotD 0) (consA (fun _ => pure (.int 9)) (fun _ => pure []))) env >>= callM 2 φ__law_take) (fun _ => pure (.int 4))) (slotD 1))))
def φ__law_worth : List D → M D := runD 2 2 d__law_worth
def d__law_value : SD :=
  (retS (fun env => (consA (slotD 0) (consA (fun env => (consA (fun _ => pure .non) (consA (fun _ => pure (.int 0)) (consA (op2 (intsD always fun i j => .int (i - j)) (fun env => (consA (slotD 0) (consA (fun _ => pure (.int 9)) (fun _ => pure []))) env >>= callM 2 φ__law_take) (fun _ => pure (.int 4))) (consA (op2 (intsD always fun i j => .int (i - j)) (fun env => (consA (slotD 0) (consA (fun _ => pure (.int 2001)) (fun _ => pure []))) env >>= callM 2 φ__law_take) (fun _ => pure (.int 1000))) (consA (op2 (intsD powOk fun i j => .int (i ^ j.toNat)) (fun _ => pure (.int 10)) (fun _ => pure (.int 50))) (consA (fun env => (op2 (intsD powOk fun i j => .int (i ^ j.toNat)) (fun _ => pure (.int 10)) (fun _ => pure (.int 50))) env >>= negD) (fun _ => pure []))))))) env >>= mkLst) (fun _ => pure []))) env >>= callM 2 φ__law_pick))
def φ__law_value : List D → M D := runD 1 1 d__law_value
def d__law_sorted_sheet : SD :=
  (seqS (setS 1 (fun env => (consA (lstM (compF [2, 3] (enumM (slotD 0)) (bTup 2 (bCons (bName 2) (bCons (bName 3) bNil))) (tst (op2 isNotD (op2 ixD (slotD 3) (fun _ => pure (.int 0))) (fun _ => pure .non))) (fun env => (consA (op2 ixD (slotD 3) (fun _ => pure (.int 0))) (consA (slotD 2) (fun _ => pure []))) env >>= mkTup))) (fun _ => pure [])) env >>= (arg1 sortD)))
  (seqS (setF 4 (compF [5, 2] (fun env => (slotD 1) env >>= itD) (bTup 2 (bCons (bName 5) (bCons (bName 2) bNil))) (fun _ => pure true) (op2 ixD (slotD 0) (slotD 2))))
  (seqS (frzS 4) (retS (fun env => (consA (op2 addD (slotD 4) (lstM (compF [3] (fun env => (slotD 0) env >>= itD) (bName 3) (tst (op2 isD (op2 ixD (slotD 3) (fun _ => pure (.int 0))) (fun _ => pure .non))) (slotD 3)))) (fun _ => pure [])) env >>= (arg1 tupD))))))
def φ__law_sorted_sheet : List D → M D := runD 6 1 d__law_sorted_sheet
def d__law_sheet : SD :=
  (seqS (setS 2 (fun env => (consA (slotD 0) (consA (fun env => (consA (fun _ => pure (.int 1)) (consA (fun _ => pure (.int 1)) (consA (fun _ => pure (.int 2)) (consA (op2 (intsD powOk fun i j => .int (i ^ j.toNat)) (fun _ => pure (.int 10)) (fun _ => pure (.int 39))) (fun _ => pure []))))) env >>= mkLst) (fun _ => pure []))) env >>= callM 2 φ__law_pick))
  (seqS (setF 3 (compF [4] (fun env => (consA (fun env => (consA (slotD 0) (consA (op2 addD (slotD 1) (fun _ => pure (.int 1))) (fun _ => pure []))) env >>= callM 2 φ__law_take) (fun _ => pure [])) env >>= rng1) (bName 4) (fun _ => pure true) (fun env => (consA (fun env => (consA (slotD 0) (consA (slotD 2) (fun _ => pure []))) env >>= callM 2 φ__law_worth) (consA (fun env => (consA (slotD 0) (fun _ => pure [])) env >>= callM 1 φ__law_value) (fun _ => pure []))) env >>= mkTup)))
  (seqS (frzS 3) (retS (fun env => (consA (slotD 3) (fun _ => pure [])) env >>= callM 1 φ__law_sorted_sheet)))))
def φ__law_sheet : List D → M D := runD 5 2 d__law_sheet
def d__law_part_text : SD :=
  (retS (ifM (tst (op2 isD (slotD 0) (fun _ => pure .non))) (slotD 1) (fun env => (consA (slotD 0) (fun _ => pure [])) env >>= (arg1 strD))))
def φ__law_part_text : List D → M D := runD 2 2 d__law_part_text
def d__law_sheet_text : SD :=
  (retS (strOp joinD (fun _ => pure (.str " ")) (lstM (compF [1] (fun env => (slotD 0) env >>= itD) (bName 1) (fun _ => pure true) (op2 addD (op2 addD (fun env => (consA (op2 ixD (slotD 1) (fun _ => pure (.int 0))) (consA (fun _ => pure (.str "?")) (fun _ => pure []))) env >>= callM 2 φ__law_part_text) (fun _ => pure (.str ":"))) (fun env => (consA (op2 ixD (slotD 1) (fun _ => pure (.int 1))) (consA (fun _ => pure (.str "-")) (fun _ => pure []))) env >>= callM 2 φ__law_part_text))))))
def φ__law_sheet_text : List D → M D := runD 2 1 d__law_sheet_text
def d__law_number_in : SD :=
  (seqS (setS 2 (ifM (tst (op2 (eqD false) (cutM (slotD 0) (fun _ => pure none) (fun env => (fun _ => pure (.int 1)) env >>= someI)) (fun _ => pure (.str "-")))) (cutM (slotD 0) (fun env => (fun _ => pure (.int 1)) env >>= someI) (fun _ => pure none)) (slotD 0)))
  (seqS (ifS (orM (tst (op2 (eqD false) (slotD 2) (fun _ => pure (.str "")))) (orM (tst (op2 gtD (fun env => (consA (slotD 2) (fun _ => pure [])) env >>= (arg1 lenD)) (slotD 1))) (tst (op2 (eqD true) (lstM (compF [3] (fun env => (slotD 2) env >>= itD) (bName 3) (tst (op2 (inD true) (slotD 3) (fun _ => pure (.str "0123456789")))) (fun _ => pure (.int 1)))) (fun env => (fun _ => pure []) env >>= mkLst)))))
  (retS (fun _ => pure .non))
  skipS)
  (seqS (ifS (andM (tst (op2 (eqD false) (op2 ixD (slotD 2) (fun _ => pure (.int 0))) (fun _ => pure (.str "0")))) (tst (op2 (eqD true) (slotD 0) (fun _ => pure (.str "0")))))
  (retS (fun _ => pure .non))
  skipS)
  (retS (fun env => (consA (slotD 0) (fun _ => pure [])) env >>= (arg1 intD))))))
def φ__law_number_in : List D → M D := runD 4 2 d__law_number_in
def d__law_part_in : SD :=
  (seqS (ifS (tst (op2 (eqD false) (slotD 0) (slotD 1)))
  (retS (fun env => (consA (fun _ => pure .non) (fun _ => pure [])) env >>= mkLst))
  skipS)
  (seqS (setS 2 (fun env => (consA (slotD 0) (consA (fun _ => pure (.int 51)) (fun _ => pure []))) env >>= callM 2 φ__law_number_in))
  (retS (ifM (tst (op2 isD (slotD 2) (fun _ => pure .non))) (fun env => (fun _ => pure []) env >>= mkLst) (fun env => (consA (slotD 2) (fun _ => pure [])) env >>= mkLst)))))
def φ__law_part_in : List D → M D := runD 3 2 d__law_part_in
def d__law_text_words : SD :=
  (retS (lstM (compF [1] (fun env => (strOp splitD (slotD 0) (fun _ => pure (.str " "))) env >>= itD) (bName 1) (tst (op2 (eqD true) (slotD 1) (fun _ => pure (.str "")))) (slotD 1))))
def φ__law_text_words : List D → M D := runD 2 1 d__law_text_words
def d__law_read_sheet : SD :=
  (seqS (setF 1 (fun env => (fun _ => pure []) env >>= fewL))
  (seqS (forS (enumM (fun env => (consA (slotD 0) (fun _ => pure [])) env >>= callM 1 φ__law_text_words)) (bTup 2 (bCons (bName 2) (bCons (bName 3) bNil)))
  (seqS (setS 4 (strOp splitD (slotD 3) (fun _ => pure (.str ":"))))
  (seqS (setS 5 (ifM (tst (op2 (eqD false) (fun env => (consA (slotD 4) (fun _ => pure [])) env >>= (arg1 lenD)) (fun _ => pure (.int 2)))) (fun env => (consA (op2 ixD (slotD 4) (fun _ => pure (.int 0))) (consA (fun _ => pure (.str "?")) (fun _ => pure []))) env >>= callM 2 φ__law_part_in) (fun env => (fun _ => pure []) env >>= mkLst)))
  (seqS (setS 6 (fun env => (consA (op2 ixD (slotD 4) (fun env => (fun _ => pure (.int 1)) env >>= negD)) (consA (fun _ => pure (.str "-")) (fun _ => pure []))) env >>= callM 2 φ__law_part_in))
  (seqS (ifS (orM (tst (op2 (eqD false) (slotD 5) (fun env => (fun _ => pure []) env >>= mkLst))) (tst (op2 (eqD false) (slotD 6) (fun env => (fun _ => pure []) env >>= mkLst))))
  (retS (fun env => (consA (fun _ => pure (.str "text")) (consA (slotD 2) (fun _ => pure []))) env >>= mkLst))
  skipS)
  (appS 1 (fun env => (consA (op2 ixD (slotD 5) (fun _ => pure (.int 0))) (consA (op2 ixD (slotD 6) (fun _ => pure (.int 0))) (fun _ => pure []))) env >>= mkTup)))))))
  (seqS (setS 7 (fun env => (consA (fun env => (consA (slotB 1) (fun _ => pure [])) env >>= (arg1 tupD)) (fun _ => pure [])) env >>= callM 1 φ__law_sheet_error))
  (retS (ifM (tst (op2 isD (slotD 7) (fun _ => pure .non))) (fun env => (consA (fun _ => pure (.str "ok")) (consA (fun env => (consA (slotB 1) (fun _ => pure [])) env >>= (arg1 tupD)) (fun _ => pure []))) env >>= mkLst) (fun env => (consA (fun _ => pure (.str "sheet")) (consA (op2 ixD (slotD 7) (fun _ => pure (.int 0))) (consA (op2 ixD (slotD 7) (fun _ => pure (.int 1))) (fun _ => pure [])))) env >>= mkLst))))))
def φ__law_read_sheet : List D → M D := runD 8 1 d__law_read_sheet
def d__law_torn : SD :=
  (seqS (parS 2 3 (consA (fun env => (consA (slotD 0) (consA (op2 addD (fun env => (consA (slotD 1) (fun _ => pure [])) env >>= (arg1 lenD)) (fun _ => pure (.int 1))) (fun _ => pure []))) env >>= callM 2 φ__law_take) (consA (fun env => (consA (slotD 0) (consA (fun env => (consA (fun _ => pure (.str "0")) (consA (fun _ => pure (.str "9")) (consA (fun _ => pure (.str " ")) (consA (fun _ => pure (.str ":")) (consA (fun _ => pure (.str "-")) (consA (fun _ => pure (.str "?")) (consA (fun _ => pure (.str "x")) (consA (fun _ => pure (.str "\n")) (consA (fun _ => pure (.str "of")) (consA (fun _ => pure (.str " to ")) (consA (fun _ => pure (.str "1:2")) (consA (fun _ => pure (.str " 3:-")) (fun _ => pure []))))))))))))) env >>= mkLst) (fun _ => pure []))) env >>= callM 2 φ__law_pick) (fun _ => pure []))))
  (seqS (setS 4 (fun env => (consA (op2 addD (op2 addD (cutM (slotD 1) (fun _ => pure none) (fun env => (slotD 2) env >>= someI)) (slotD 3)) (cutM (slotD 1) (fun env => (slotD 2) env >>= someI) (fun _ => pure none))) (consA (op2 addD (op2 addD (cutM (slotD 1) (fun _ => pure none) (fun env => (slotD 2) env >>= someI)) (slotD 3)) (cutM (slotD 1) (fun env => (op2 addD (slotD 2) (fun _ => pure (.int 1))) env >>= someI) (fun _ => pure none))) (consA (cutM (slotD 1) (fun _ => pure none) (fun env => (slotD 2) env >>= someI)) (consA (op2 addD (slotD 1) (fun _ => pure (.str " "))) (consA (op2 addD (fun _ => pure (.str " ")) (slotD 1)) (consA (cutM (slotD 1) (fun env => (slotD 2) env >>= someI) (fun _ => pure none)) (fun _ => pure []))))))) env >>= mkLst))
  (retS (fun env => (consA (slotD 0) (consA (op2 addD (slotD 4) (fun env => (consA (fun env => (slotD 1) env >>= replD " " "  ") (consA (op2 addD (slotD 1) (fun _ => pure (.str " 1"))) (consA (fun env => (slotD 1) env >>= upperD) (consA (op2 addD (slotD 1) (fun _ => pure (.str "\n"))) (consA (fun env => (slotD 1) env >>= replD ":" " :") (consA (op2 addD (slotD 1) (fun _ => pure (.str " 1:1"))) (fun _ => pure []))))))) env >>= mkLst)) (fun _ => pure []))) env >>= callM 2 φ__law_pick))))
def φ__law_torn : List D → M D := runD 5 2 d__law_torn
def d__law_read : SD :=
  (tryS (retS (fun env => (consA (fun _ => pure (.str "ok")) (consA (fun env => (consA (slotD 0) (fun _ => pure [])) env >>= callM 1 φ_read_sheet) (fun _ => pure []))) env >>= mkLst)) [("BadSheet", true), ("BadText", true)] 1
  (seqS (ifS (tst (isExD 1 [("BadSheet", false), ("BadText", true)]))
  (retS (fun env => (consA (fun _ => pure (.str "text")) (consA (xfT 1 "number" ["BadSheet", "BadText"]) (fun _ => pure []))) env >>= mkLst))
  skipS)
  (retS (ifM (tst (isExD 1 [("BadSheet", true), ("BadText", false)])) (fun env => (consA (fun _ => pure (.str "sheet")) (consA (xfT 1 "number" ["BadSheet", "BadText"]) (consA (xfT 1 "word" ["BadSheet"]) (fun _ => pure [])))) env >>= mkLst) (fun env => (consA (fun _ => pure (.str "other")) (fun _ => pure [])) env >>= mkLst)))))
def φ__law_read : List D → M D := runD 2 1 d__law_read
abbrev N_law : List Str := ["_law_script", "_law_deck_here", "_law_turn", "_law_sheet_here", "_law_text", "_law_wide", "_law_some", "_law_far", "_law_value_here", "_law_due"]
def d_law : SD :=
  (seqS (setS 1 (fun env => (consA (slotD 0) (fun _ => pure [])) env >>= callM 1 φ__law_deck))
  (seqS (forS (fun env => (consA (fun _ => pure (.int 8)) (fun _ => pure [])) env >>= rng1) (bName 2)
  (seqS (setS 3 (fun env => (consA (slotD 1) (consA (fun env => (consA (slotD 1) (consA (fun env => (consA (fun _ => pure (.int 3)) (consA (fun _ => pure (.int 8)) (consA (fun _ => pure (.int 60)) (fun _ => pure [])))) env >>= mkLst) (fun _ => pure []))) env >>= callM 2 φ__law_pick) (fun _ => pure []))) env >>= callM 2 φ__law_sheet))
  (seqS (setS 4 (fun env => (consA (slotD 3) (fun _ => pure [])) env >>= callM 1 φ__law_sheet_text))
  (seqS (ifS (tst (op2 (eqD true) (fun env => (consA (fun env => (consA (fun env => (consA (slotD 3) (fun _ => pure [])) env >>= callM 1 φ_sheet_text) (consA (fun env => (consA (slotD 3) (fun _ => pure [])) env >>= callM 1 φ_sheet_text) (fun _ => pure []))) env >>= mkLst) (fun _ => pure [])) env >>= (arg1 reprD)) (fun env => (consA (fun env => (consA (slotD 4) (consA (slotD 4) (fun _ => pure []))) env >>= mkLst) (fun _ => pure [])) env >>= (arg1 reprD))))
  (retS (fun _ => pure (.bl false)))
  skipS)
  (seqS (ifS (tst (op2 gtD (fun env => (consA (slotD 4) (fun _ => pure [])) env >>= (arg1 lenD)) (fun _ => pure (.int 1800))))
  (seqS (ifS (tst (op2 (eqD true) (fun env => (consA (fun env => (consA (slotD 4) (fun _ => pure [])) env >>= callM 1 φ_read_sheet) (fun _ => pure [])) env >>= (arg1 reprD)) (fun env => (consA (slotD 3) (fun _ => pure [])) env >>= (arg1 reprD))))
  (retS (fun _ => pure (.bl false)))
  skipS)
  (setS 4 (strOp joinD (fun _ => pure (.str " ")) (cutM (strOp splitD (slotD 4) (fun _ => pure (.str " "))) (fun _ => pure none) (fun env => (fun _ => pure (.int 15)) env >>= someI)))))
  skipS)
  (seqS (setS 5 (op2 addD (op2 addD (fun _ => pure (.str "  ")) (fun env => (slotD 4) env >>= replD " " "   ")) (fun _ => pure (.str " "))))
  (seqS (setS 6 (fun env => (consA (slotD 4) (consA (slotD 5) (consA (fun env => (consA (slotD 1) (consA (slotD 4) (fun _ => pure []))) env >>= callM 2 φ__law_torn) (consA (fun env => (consA (slotD 1) (consA (fun env => (consA (slotD 1) (consA (slotD 4) (fun _ => pure []))) env >>= callM 2 φ__law_torn) (fun _ => pure []))) env >>= callM 2 φ__law_torn) (consA (op2 addD (slotD 4) (fun _ => pure (.str " 0:0"))) (consA (op2 addD (fun _ => pure (.str "-1:0 ")) (slotD 4)) (consA (op2 addD (slotD 4) (fun _ => pure (.str " ?:-"))) (fun _ => pure [])))))))) env >>= mkLst))
  (seqS (setS 7 (fun env => (consA (op2 addD (op2 addD (fun _ => pure (.str "1")) (op2 mulD (fun _ => pure (.str "0")) (fun _ => pure (.int 40)))) (fun _ => pure (.str ":0"))) (consA (op2 addD (op2 addD (fun _ => pure (.str "1")) (op2 mulD (fun _ => pure (.str "0")) (fun _ => pure (.int 41)))) (fun _ => pure (.str ":0"))) (consA (op2 addD (fun _ => pure (.str "0:-1")) (op2 mulD (fun _ => pure (.str "0")) (fun _ => pure (.int 50)))) (consA (op2 addD (fun _ => pure (.str "0:1")) (op2 mulD (fun _ => pure (.str "0")) (fun _ => pure (.int 51)))) (consA (op2 addD (fun _ => pure (.str "0:9")) (op2 mulD (fun _ => pure (.str "0")) (fun _ => pure (.int 50)))) (consA (fun _ => pure (.str "-0:1")) (consA (fun _ => pure (.str "01:1")) (consA (fun _ => pure (.str "1:2:3")) (fun _ => pure []))))))))) env >>= mkLst))
  (seqS (forS (fun env => (op2 addD (op2 addD (slotD 6) (slotD 7)) (fun env => (consA (fun _ => pure (.str "")) (consA (fun _ => pure (.str " ")) (consA (fun _ => pure (.str "1:")) (consA (fun _ => pure (.str ":1")) (consA (fun _ => pure (.str "1")) (consA (fun _ => pure (.str "?:?")) (consA (fun _ => pure (.str "-:1")) (consA (fun _ => pure (.str "1:+1")) (consA (strOp joinD (fun _ => pure (.str " ")) (op2 mulD (fun env => (consA (fun _ => pure (.str "?:0")) (fun _ => pure [])) env >>= mkLst) (fun _ => pure (.int 60)))) (consA (strOp joinD (fun _ => pure (.str " ")) (op2 mulD (fun env => (consA (fun _ => pure (.str "?:0")) (fun _ => pure [])) env >>= mkLst) (fun _ => pure (.int 61)))) (consA (fun _ => pure (.str "2:0 1:0")) (fun _ => pure [])))))))))))) env >>= mkLst)) env >>= itD) (bName 8)
  (seqS (setS 9 (fun env => (consA (slotD 8) (fun _ => pure [])) env >>= callM 1 φ__law_read_sheet))
  (ifS (tst (op2 (eqD true) (fun env => (consA (fun env => (consA (fun env => (consA (slotD 8) (fun _ => pure [])) env >>= callM 1 φ__law_read) (consA (fun env => (consA (slotD 8) (fun _ => pure [])) env >>= callM 1 φ__law_read) (fun _ => pure []))) env >>= mkLst) (fun _ => pure [])) env >>= (arg1 reprD)) (fun env => (consA (fun env => (consA (slotD 9) (consA (slotD 9) (fun _ => pure []))) env >>= mkLst) (fun _ => pure [])) env >>= (arg1 reprD))))
  (retS (fun _ => pure (.bl false)))
  skipS)))
  (forS (fun env => (fun env => (consA (fun _ => pure .non) (consA (fun _ => pure (.int 0)) (consA (slotD 3) (consA (fun env => (consA (slotD 4) (fun _ => pure [])) env >>= mkLst) (consA (fun env => (consA (slotD 1) (fun _ => pure [])) env >>= callM 1 φ__law_odd_thing) (fun _ => pure [])))))) env >>= mkLst) env >>= itD) (bName 8)
  (ifS (andM (nott (tst (fun env => (slotD 8) env >>= isiD "str"))) (tst (op2 (eqD true) (fun env => (consA (fun env => (consA (slotD 8) (fun _ => pure [])) env >>= callM 1 φ__law_read) (fun _ => pure [])) env >>= (arg1 reprD)) (fun env => (consA (fun env => (consA (fun _ => pure (.str "text")) (consA (fun _ => pure .non) (fun _ => pure []))) env >>= mkLst) (fun _ => pure [])) env >>= (arg1 reprD)))))
  (retS (fun _ => pure (.bl false)))
  skipS)))))))))))
  (retS (fun _ => pure (.bl true)))))
def φ_law : List D → M D := runD 10 1 d_law
end K67

end
set_option maxHeartbeats 4000000
section
namespace K67
open PySem PySem.Spec PyProof.Rows L2 Dn
structure Ev (K : PySem.W.Frag) (mg : Str → Option Value) : Prop where
  ex : ∃ h : Heap, K.In h ∧ h.Ns mainGlobals mg
  c : SaysB fb fn K
section
variable {P : Program} {w : World} {K : PySem.W.Frag} {mg : Str → Option Value} {base : Heap}
theorem hM_ (V : Ev K mg) : KnowsM K := mod_ok (V.c.fact 0 (f := fMod) rfl)
theorem f_abs (V : Ev K mg) : mg "abs" = none := let ⟨_, X, G⟩ := V.ex; free_of X G (V.c.fact 1 (f := fFree "abs") rfl)
theorem f_bool (V : Ev K mg) : mg "bool" = none := let ⟨_, X, G⟩ := V.ex; free_of X G (V.c.fact 2 (f := fFree "bool") rfl)
theorem f_enumerate (V : Ev K mg) : mg "enumerate" = none := let ⟨_, X, G⟩ := V.ex; free_of X G (V.c.fact 3 (f := fFree "enumerate") rfl)
theorem f_int (V : Ev K mg) : mg "int" = none := let ⟨_, X, G⟩ := V.ex; free_of X G (V.c.fact 4 (f := fFree "int") rfl)
theorem f_isinstance (V : Ev K mg) : mg "isinstance" = none := let ⟨_, X, G⟩ := V.ex; free_of X G (V.c.fact 5 (f := fFree "isinstance") rfl)
theorem f_len (V : Ev K mg) : mg "len" = none := let ⟨_, X, G⟩ := V.ex; free_of X G (V.c.fact 6 (f := fFree "len") rfl)
theorem f_range (V : Ev K mg) : mg "range" = none := let ⟨_, X, G⟩ := V.ex; free_of X G (V.c.fact 7 (f := fFree "range") rfl)
theorem f_repr (V : Ev K mg) : mg "repr" = none := let ⟨_, X, G⟩ := V.ex; free_of X G (V.c.fact 8 (f := fFree "repr") rfl)
theorem f_sorted (V : Ev K mg) : mg "sorted" = none := let ⟨_, X, G⟩ := V.ex; free_of X G (V.c.fact 9 (f := fFree "sorted") rfl)
theorem f_str (V : Ev K mg) : mg "str" = none := let ⟨_, X, G⟩ := V.ex; free_of X G (V.c.fact 10 (f := fFree "str") rfl)
theorem f_tuple (V : Ev K mg) : mg "tuple" = none := let ⟨_, X, G⟩ := V.ex; free_of X G (V.c.fact 11 (f := fFree "tuple") rfl)
theorem g_is_integer (V : Ev K mg) : mg "is_integer" = some (.ref (He.ga K "is_integer")) := let ⟨_, X, G⟩ := V.ex; glo_of X G (V.c.fact 12 (f := fGlo "is_integer") rfl)
theorem g_is_worth (V : Ev K mg) : mg "is_worth" = some (.ref (He.ga K "is_worth")) := let ⟨_, X, G⟩ := V.ex; glo_of X G (V.c.fact 13 (f := fGlo "is_worth") rfl)
theorem g_is_value (V : Ev K mg) : mg "is_value" = some (.ref (He.ga K "is_value")) := let ⟨_, X, G⟩ := V.ex; glo_of X G (V.c.fact 14 (f := fGlo "is_value") rfl)
theorem g_row_word (V : Ev K mg) : mg "row_word" = some (.ref (He.ga K "row_word")) := let ⟨_, X, G⟩ := V.ex; glo_of X G (V.c.fact 15 (f := fGlo "row_word") rfl)
theorem g_is_behind (V : Ev K mg) : mg "is_behind" = some (.ref (He.ga K "is_behind")) := let ⟨_, X, G⟩ := V.ex; glo_of X G (V.c.fact 16 (f := fGlo "is_behind") rfl)
theorem g_sheet_error (V : Ev K mg) : mg "sheet_error" = some (.ref (He.ga K "sheet_error")) := let ⟨_, X, G⟩ := V.ex; glo_of X G (V.c.fact 17 (f := fGlo "sheet_error") rfl)
theorem g_words_of (V : Ev K mg) : mg "words_of" = some (.ref (He.ga K "words_of")) := let ⟨_, X, G⟩ := V.ex; glo_of X G (V.c.fact 18 (f := fGlo "words_of") rfl)
theorem g_number_in (V : Ev K mg) : mg "number_in" = some (.ref (He.ga K "number_in")) := let ⟨_, X, G⟩ := V.ex; glo_of X G (V.c.fact 19 (f := fGlo "number_in") rfl)
theorem g_part_text (V : Ev K mg) : mg "part_text" = some (.ref (He.ga K "part_text")) := let ⟨_, X, G⟩ := V.ex; glo_of X G (V.c.fact 20 (f := fGlo "part_text") rfl)
theorem g_sheet_text (V : Ev K mg) : mg "sheet_text" = some (.ref (He.ga K "sheet_text")) := let ⟨_, X, G⟩ := V.ex; glo_of X G (V.c.fact 21 (f := fGlo "sheet_text") rfl)
theorem g_is_part (V : Ev K mg) : mg "is_part" = some (.ref (He.ga K "is_part")) := let ⟨_, X, G⟩ := V.ex; glo_of X G (V.c.fact 22 (f := fGlo "is_part") rfl)
theorem g_part_of (V : Ev K mg) : mg "part_of" = some (.ref (He.ga K "part_of")) := let ⟨_, X, G⟩ := V.ex; glo_of X G (V.c.fact 23 (f := fGlo "part_of") rfl)
theorem g_row_in (V : Ev K mg) : mg "row_in" = some (.ref (He.ga K "row_in")) := let ⟨_, X, G⟩ := V.ex; glo_of X G (V.c.fact 24 (f := fGlo "row_in") rfl)
theorem g_read_sheet (V : Ev K mg) : mg "read_sheet" = some (.ref (He.ga K "read_sheet")) := let ⟨_, X, G⟩ := V.ex; glo_of X G (V.c.fact 25 (f := fGlo "read_sheet") rfl)
theorem g__law_deck (V : Ev K mg) : mg "_law_deck" = some (.ref (He.ga K "_law_deck")) := let ⟨_, X, G⟩ := V.ex; glo_of X G (V.c.fact 26 (f := fGlo "_law_deck") rfl)
theorem g__law_take (V : Ev K mg) : mg "_law_take" = some (.ref (He.ga K "_law_take")) := let ⟨_, X, G⟩ := V.ex; glo_of X G (V.c.fact 27 (f := fGlo "_law_take") rfl)
theorem g__law_pick (V : Ev K mg) : mg "_law_pick" = some (.ref (He.ga K "_law_pick")) := let ⟨_, X, G⟩ := V.ex; glo_of X G (V.c.fact 28 (f := fGlo "_law_pick") rfl)
theorem g__law_is_int (V : Ev K mg) : mg "_law_is_int" = some (.ref (He.ga K "_law_is_int")) := let ⟨_, X, G⟩ := V.ex; glo_of X G (V.c.fact 29 (f := fGlo "_law_is_int") rfl)
theorem g__law_odd_thing (V : Ev K mg) : mg "_law_odd_thing" = some (.ref (He.ga K "_law_odd_thing")) := let ⟨_, X, G⟩ := V.ex; glo_of X G (V.c.fact 30 (f := fGlo "_law_odd_thing") rfl)
theorem g__law_is_row (V : Ev K mg) : mg "_law_is_row" = some (.ref (He.ga K "_law_is_row")) := let ⟨_, X, G⟩ := V.ex; glo_of X G (V.c.fact 31 (f := fGlo "_law_is_row") rfl)
theorem g__law_sheet_error (V : Ev K mg) : mg "_law_sheet_error" = some (.ref (He.ga K "_law_sheet_error")) := let ⟨_, X, G⟩ := V.ex; glo_of X G (V.c.fact 32 (f := fGlo "_law_sheet_error") rfl)
theorem g__law_worth (V : Ev K mg) : mg "_law_worth" = some (.ref (He.ga K "_law_worth")) := let ⟨_, X, G⟩ := V.ex; glo_of X G (V.c.fact 33 (f := fGlo "_law_worth") rfl)
theorem g__law_value (V : Ev K mg) : mg "_law_value" = some (.ref (He.ga K "_law_value")) := let ⟨_, X, G⟩ := V.ex; glo_of X G (V.c.fact 34 (f := fGlo "_law_value") rfl)
theorem g__law_sorted_sheet (V : Ev K mg) : mg "_law_sorted_sheet" = some (.ref (He.ga K "_law_sorted_sheet")) := let ⟨_, X, G⟩ := V.ex; glo_of X G (V.c.fact 35 (f := fGlo "_law_sorted_sheet") rfl)
theorem g__law_sheet (V : Ev K mg) : mg "_law_sheet" = some (.ref (He.ga K "_law_sheet")) := let ⟨_, X, G⟩ := V.ex; glo_of X G (V.c.fact 36 (f := fGlo "_law_sheet") rfl)
theorem g__law_part_text (V : Ev K mg) : mg "_law_part_text" = some (.ref (He.ga K "_law_part_text")) := let ⟨_, X, G⟩ := V.ex; glo_of X G (V.c.fact 37 (f := fGlo "_law_part_text") rfl)
theorem g__law_sheet_text (V : Ev K mg) : mg "_law_sheet_text" = some (.ref (He.ga K "_law_sheet_text")) := let ⟨_, X, G⟩ := V.ex; glo_of X G (V.c.fact 38 (f := fGlo "_law_sheet_text") rfl)
theorem g__law_number_in (V : Ev K mg) : mg "_law_number_in" = some (.ref (He.ga K "_law_number_in")) := let ⟨_, X, G⟩ := V.ex; glo_of X G (V.c.fact 39 (f := fGlo "_law_number_in") rfl)
theorem g__law_part_in (V : Ev K mg) : mg "_law_part_in" = some (.ref (He.ga K "_law_part_in")) := let ⟨_, X, G⟩ := V.ex; glo_of X G (V.c.fact 40 (f := fGlo "_law_part_in") rfl)
theorem g__law_text_words (V : Ev K mg) : mg "_law_text_words" = some (.ref (He.ga K "_law_text_words")) := let ⟨_, X, G⟩ := V.ex; glo_of X G (V.c.fact 41 (f := fGlo "_law_text_words") rfl)
theorem g__law_read_sheet (V : Ev K mg) : mg "_law_read_sheet" = some (.ref (He.ga K "_law_read_sheet")) := let ⟨_, X, G⟩ := V.ex; glo_of X G (V.c.fact 42 (f := fGlo "_law_read_sheet") rfl)
theorem g__law_torn (V : Ev K mg) : mg "_law_torn" = some (.ref (He.ga K "_law_torn")) := let ⟨_, X, G⟩ := V.ex; glo_of X G (V.c.fact 43 (f := fGlo "_law_torn") rfl)
theorem g__law_read (V : Ev K mg) : mg "_law_read" = some (.ref (He.ga K "_law_read")) := let ⟨_, X, G⟩ := V.ex; glo_of X G (V.c.fact 44 (f := fGlo "_law_read") rfl)
theorem g_law (V : Ev K mg) : mg "law" = some (.ref (He.ga K "law")) := let ⟨_, X, G⟩ := V.ex; glo_of X G (V.c.fact 45 (f := fGlo "law") rfl)
theorem g_BadSheet (V : Ev K mg) : mg "BadSheet" = some (.ref (He.ga K "BadSheet")) := let ⟨_, X, G⟩ := V.ex; glo_of X G (V.c.fact 51 (f := fGlo "BadSheet") rfl)
theorem g_BadText (V : Ev K mg) : mg "BadText" = some (.ref (He.ga K "BadText")) := let ⟨_, X, G⟩ := V.ex; glo_of X G (V.c.fact 52 (f := fGlo "BadText") rfl)
theorem g_FrameError (V : Ev K mg) : mg "FrameError" = some (.ref (He.ga K "FrameError")) := let ⟨_, X, G⟩ := V.ex; glo_of X G (V.c.fact 53 (f := fGlo "FrameError") rfl)
theorem i_MAX_NUMBER (V : Ev K mg) : ∃ t, mg "MAX_NUMBER" = some (.int (10 ^ 40) t) := let ⟨_, X, G⟩ := V.ex; int_of X G (V.c.fact 46 (f := fInt "MAX_NUMBER" (10 ^ 40)) rfl)
theorem i_MAX_VALUE (V : Ev K mg) : ∃ t, mg "MAX_VALUE" = some (.int (10 ^ 50) t) := let ⟨_, X, G⟩ := V.ex; int_of X G (V.c.fact 47 (f := fInt "MAX_VALUE" (10 ^ 50)) rfl)
theorem i_MAX_VALUES (V : Ev K mg) : ∃ t, mg "MAX_VALUES" = some (.int 60 t) := let ⟨_, X, G⟩ := V.ex; int_of X G (V.c.fact 48 (f := fInt "MAX_VALUES" 60) rfl)
theorem i_MAX_FIGURES_texts (V : Ev K mg) : ∃ t, mg "MAX_FIGURES_texts" = some (.int 31 t) := let ⟨_, X, G⟩ := V.ex; int_of X G (V.c.fact 49 (f := fInt "MAX_FIGURES_texts" 31) rfl)
theorem i_MAX_FIGURES_sheettexts (V : Ev K mg) : ∃ t, mg "MAX_FIGURES_sheettexts" = some (.int 51 t) := let ⟨_, X, G⟩ := V.ex; int_of X G (V.c.fact 50 (f := fInt "MAX_FIGURES_sheettexts" 51) rfl)
theorem sc_BadSheet : FnScope ["self", "number", "word"] ["self", "number", "word"] (defScope (meth 2 0)) := ⟨rfl, rfl, rfl, by decide +kernel, rfl, by decide +kernel, by decide +kernel⟩
theorem err_BadSheet (V : Ev K mg) : ErrC P w K mg base "BadSheet" ["word", "number"] := by
  obtain ⟨fd, F⟩ := V.c.def_ 0 (d := di "BadSheet" 2 0) rfl
  have F : FunD K "__init__" ("BadSheet" ++ ".__init__") (defArgs (meth 2 0)) (defBody (meth 2 0)) (defScope (meth 2 0)) [] [] (He.ma K (He.ga K "BadSheet") "__init__") fd := F
  have T := err_ok (V.c.fact 54 (f := fErr "BadSheet") rfl)
  have q := He.ba (V.c.fact 55 (f := fIni "BadSheet") rfl)
  refine ⟨T, g_BadSheet V, _, fd, ["self", "number", "word"], of_decide_eq_true q.1, of_decide_eq_true q.2, F.bindsN (fun _ _ _ _ _ _ us hl => match us, hl with | [_, _, _], _ => rfl), ?_⟩
  exact init2 T (of_decide_eq_true (V.c.fact 57 (f := fNo "BadSheet" "number") rfl)) (of_decide_eq_true (V.c.fact 58 (f := fNo "BadSheet" "word") rfl)) F sc_BadSheet (.inl rfl) (.inl rfl) (.inl rfl)
theorem sc_BadText : FnScope ["self", "number"] ["self", "number"] (defScope (meth 3 0)) := ⟨rfl, rfl, rfl, by decide +kernel, rfl, by decide +kernel, by decide +kernel⟩
theorem err_BadText (V : Ev K mg) : ErrC P w K mg base "BadText" ["number"] := by
  obtain ⟨fd, F⟩ := V.c.def_ 1 (d := di "BadText" 3 0) rfl
  have F : FunD K "__init__" ("BadText" ++ ".__init__") (defArgs (meth 3 0)) (defBody (meth 3 0)) (defScope (meth 3 0)) [] [] (He.ma K (He.ga K "BadText") "__init__") fd := F
  have T := err_ok (V.c.fact 59 (f := fErr "BadText") rfl)
  have q := He.ba (V.c.fact 60 (f := fIni "BadText") rfl)
  refine ⟨T, g_BadText V, _, fd, ["self", "number"], of_decide_eq_true q.1, of_decide_eq_true q.2, F.bindsN (fun _ _ _ _ _ _ us hl => match us, hl with | [_, _], _ => rfl), ?_⟩
  exact init1 T (of_decide_eq_true (V.c.fact 62 (f := fNo "BadText" "number") rfl)) F sc_BadText (.inl rfl) (.inl rfl)
theorem exm_BadSheet_BadText__FrameError (V : Ev K mg) : Tab K (.ref (He.ga K "FrameError")) [("BadSheet", true), ("BadText", true)] := by
  intro x b h
  simp only [List.lookup_cons, List.lookup_nil] at h
  split at h
  · rename_i e
    have e := eq_of_beq e
    subst e
    cases h
    exact of_decide_eq_true (V.c.fact 63 (f := fExm "BadSheet" (own "FrameError") true) rfl)
  ·
    split at h
    · rename_i e
      have e := eq_of_beq e
      subst e
      cases h
      exact of_decide_eq_true (V.c.fact 64 (f := fExm "BadText" (own "FrameError") true) rfl)
    ·
      cases h
theorem kit_BadSheet_BadText__BadText (V : Ev K mg) : Kit K (.ref (He.ga K "BadText")) [("BadSheet", false), ("BadText", true)] := by
  intro x b h
  simp only [List.lookup_cons, List.lookup_nil] at h
  split at h
  · rename_i e
    have e := eq_of_beq e
    subst e
    cases h
    exact ⟨(xc_ok (V.c.fact 56 (f := fXc "BadSheet") rfl)).1, of_decide_eq_true (V.c.fact 65 (f := fKit "BadSheet" (own "BadText") false) rfl)⟩
  ·
    split at h
    · rename_i e
      have e := eq_of_beq e
      subst e
      cases h
      exact ⟨(xc_ok (V.c.fact 61 (f := fXc "BadText") rfl)).1, of_decide_eq_true (V.c.fact 66 (f := fKit "BadText" (own "BadText") true) rfl)⟩
    ·
      cases h
theorem kit_BadSheet_BadText__BadSheet (V : Ev K mg) : Kit K (.ref (He.ga K "BadSheet")) [("BadSheet", true), ("BadText", false)] := by
  intro x b h
  simp only [List.lookup_cons, List.lookup_nil] at h
  split at h
  · rename_i e
    have e := eq_of_beq e
    subst e
    cases h
    exact ⟨(xc_ok (V.c.fact 56 (f := fXc "BadSheet") rfl)).1, of_decide_eq_true (V.c.fact 67 (f := fKit "BadSheet" (own "BadSheet") true) rfl)⟩
  ·
    split at h
    · rename_i e
      have e := eq_of_beq e
      subst e
      cases h
      exact ⟨(xc_ok (V.c.fact 61 (f := fXc "BadText") rfl)).1, of_decide_eq_true (V.c.fact 68 (f := fKit "BadText" (own "BadSheet") false) rfl)⟩
    ·
      cases h
theorem fld_number_BadSheet_BadText (V : Ev K mg) : Fld K "number" ["BadSheet", "BadText"] := by
  intro x h
  simp only [List.mem_cons, List.not_mem_nil, or_false] at h
  rcases h with rfl | rfl
  · exact ⟨(xc_ok (V.c.fact 56 (f := fXc "BadSheet") rfl)).2, of_decide_eq_true (V.c.fact 57 (f := fNo "BadSheet" "number") rfl)⟩
  · exact ⟨(xc_ok (V.c.fact 61 (f := fXc "BadText") rfl)).2, of_decide_eq_true (V.c.fact 62 (f := fNo "BadText" "number") rfl)⟩
theorem fld_word_BadSheet (V : Ev K mg) : Fld K "word" ["BadSheet"] := by
  intro x h
  simp only [List.mem_cons, List.not_mem_nil, or_false] at h
  rcases h with rfl
  · exact ⟨(xc_ok (V.c.fact 56 (f := fXc "BadSheet") rfl)).2, of_decide_eq_true (V.c.fact 58 (f := fNo "BadSheet" "word") rfl)⟩
theorem sc_is_integer : FnScope ["value", "low", "high"] ["value", "low", "high"] (defScope (top 8)) := ⟨rfl, rfl, rfl, by decide +kernel, rfl, by decide +kernel, by decide +kernel⟩
theorem ok_is_integer (V : Ev K mg) : HasF P w K mg base false 2 "is_integer" 3 φ_is_integer := by
  obtain ⟨fd, F⟩ := V.c.def_ 2 (d := dd "is_integer" 8) rfl
  have F : FunD K "is_integer" "is_integer" (defArgs (top 8)) (defBody (top 8)) (defScope (top 8)) [] [] (He.ga K "is_integer") fd := F
  have hM := hM_ V
  have b_bool := f_bool V
  have b_int := f_int V
  have b_isinstance := f_isinstance V
  exact ⟨_, fd, ["value", "low", "high"], g_is_integer V, rfl, F.kp, F.bindsN (fun _ _ _ _ _ _ us hl => match us, hl with | [_, _, _], _ => rfl), fnB F sc_is_integer fun cdv A outer s H E hr tk hp hN =>
  (dss_one (ds_ret (de_and (de_isi (C := "int") (DE.toB (de_var 0)) (by decide +kernel) rfl b_isinstance rfl b_int (by decide +kernel)) (de_and (de_not (de_isi (C := "bool") (DE.toB (de_var 0)) (by decide +kernel) rfl b_isinstance rfl b_bool (by decide +kernel))) (de_one (de_chain od_le od_le (DE.toB (de_var 1)) (DE.toB (de_var 0)) (DE.toB (de_var 2))))))))⟩
theorem sc_is_worth : FnScope ["value"] ["value"] (defScope (top 10)) := ⟨rfl, rfl, rfl, by decide +kernel, rfl, by decide +kernel, by decide +kernel⟩
theorem ok_is_worth (V : Ev K mg) : HasF P w K mg base false 3 "is_worth" 1 φ_is_worth := by
  obtain ⟨fd, F⟩ := V.c.def_ 3 (d := dd "is_worth" 10) rfl
  have F : FunD K "is_worth" "is_worth" (defArgs (top 10)) (defBody (top 10)) (defScope (top 10)) [] [] (He.ga K "is_worth") fd := F
  have hM := hM_ V
  obtain ⟨t_MAX_NUMBER, g_MAX_NUMBER⟩ := i_MAX_NUMBER V
  exact ⟨_, fd, ["value"], g_is_worth V, rfl, F.kp, F.bindsN (fun _ _ _ _ _ _ us hl => match us, hl with | [_], _ => rfl), fnB F sc_is_worth fun cdv A outer s H E hr tk hp hN =>
  (dss_one (ds_ret (de_or (de_cmp od_is (DE.toB (de_var 0)) (DE.toB de_non) rfl) (de_one (de_call (ok_is_integer V) hr (by decide) tk (da_cons (de_var 0) (da_cons (de_neg (DE.toB (de_gint g_MAX_NUMBER))) (da_cons (de_gint g_MAX_NUMBER) da_nil))))))))⟩
theorem sc_is_value : FnScope ["value"] ["value"] (defScope (top 11)) := ⟨rfl, rfl, rfl, by decide +kernel, rfl, by decide +kernel, by decide +kernel⟩
theorem ok_is_value (V : Ev K mg) : HasF P w K mg base false 3 "is_value" 1 φ_is_value := by
  obtain ⟨fd, F⟩ := V.c.def_ 4 (d := dd "is_value" 11) rfl
  have F : FunD K "is_value" "is_value" (defArgs (top 11)) (defBody (top 11)) (defScope (top 11)) [] [] (He.ga K "is_value") fd := F
  have hM := hM_ V
  obtain ⟨t_MAX_VALUE, g_MAX_VALUE⟩ := i_MAX_VALUE V
  exact ⟨_, fd, ["value"], g_is_value V, rfl, F.kp, F.bindsN (fun _ _ _ _ _ _ us hl => match us, hl with | [_], _ => rfl), fnB F sc_is_value fun cdv A outer s H E hr tk hp hN =>
  (dss_one (ds_ret (de_or (de_cmp od_is (DE.toB (de_var 0)) (DE.toB de_non) rfl) (de_one (de_call (ok_is_integer V) hr (by decide) tk (da_cons (de_var 0) (da_cons (de_neg (DE.toB (de_gint g_MAX_VALUE))) (da_cons (de_gint g_MAX_VALUE) da_nil))))))))⟩
theorem sc_row_word : FnScope ["value"] ["value"] (defScope (top 12)) := ⟨rfl, rfl, rfl, by decide +kernel, rfl, by decide +kernel, by decide +kernel⟩
theorem ok_row_word (V : Ev K mg) : HasF P w K mg base false 4 "row_word" 1 φ_row_word := by
  obtain ⟨fd, F⟩ := V.c.def_ 5 (d := dd "row_word" 12) rfl
  have F : FunD K "row_word" "row_word" (defArgs (top 12)) (defBody (top 12)) (defScope (top 12)) [] [] (He.ga K "row_word") fd := F
  have hM := hM_ V
  have b_isinstance := f_isinstance V
  have b_len := f_len V
  have b_tuple := f_tuple V
  exact ⟨_, fd, ["value"], g_row_word V, rfl, F.kp, F.bindsN (fun _ _ _ _ _ _ us hl => match us, hl with | [_], _ => rfl), fnB F sc_row_word fun cdv A outer s H E hr tk hp hN =>
  (dss_cons (ds_if (DW.t (dw_or (dt_not (dt_val (DE.toB (de_isi (C := "tuple") (DE.toB (de_var 0)) (by decide +kernel) rfl b_isinstance rfl b_tuple (by decide +kernel))))) (dw_or1 (dt_cmp (od_ne hr.units hM) (DE.toB (de_callB cd_len rfl b_len (by decide +kernel) (dab_cons (DE.toB (de_var 0)) dab_nil))) (DE.toB de_int) rfl))))
  (dss_one (ds_ret de_str))
  dss_nil)
  (dss_cons (ds_if (dt_not (dt_val (DE.toB (de_call (ok_is_worth V) hr (by decide) tk (da_cons (de_ix (DE.toB (de_var 0)) (DE.toB de_int)) da_nil)))))
  (dss_one (ds_ret de_str))
  dss_nil)
  (dss_one (ds_ret (de_if (dt_val (DE.toB (de_call (ok_is_value V) hr (by decide) tk (da_cons (de_ix (DE.toB (de_var 0)) (DE.toB de_int)) da_nil)))) de_non de_str)))))⟩
theorem sc_is_behind : FnScope ["worth", "ahead"] ["worth", "ahead"] (defScope (top 13)) := ⟨rfl, rfl, rfl, by decide +kernel, rfl, by decide +kernel, by decide +kernel⟩
theorem ok_is_behind (V : Ev K mg) : HasF P w K mg base false 2 "is_behind" 2 φ_is_behind := by
  obtain ⟨fd, F⟩ := V.c.def_ 6 (d := dd "is_behind" 13) rfl
  have F : FunD K "is_behind" "is_behind" (defArgs (top 13)) (defBody (top 13)) (defScope (top 13)) [] [] (He.ga K "is_behind") fd := F
  have hM := hM_ V
  exact ⟨_, fd, ["worth", "ahead"], g_is_behind V, rfl, F.kp, F.bindsN (fun _ _ _ _ _ _ us hl => match us, hl with | [_, _], _ => rfl), fnB F sc_is_behind fun cdv A outer s H E hr tk hp hN =>
  (dss_one (ds_ret (de_or (de_cmp od_is (DE.toB (de_var 0)) (DE.toB de_non) rfl) (de_one (de_and (de_cmp od_isNot (DE.toB (de_var 1)) (DE.toB de_non) rfl) (de_one (de_cmp od_le (DE.toB (de_var 1)) (DE.toB (de_var 0)) rfl)))))))⟩
theorem sc_sheet_error : FnScope ["value", "number", "row", "word"] ["value"] (defScope (top 14)) := ⟨rfl, rfl, rfl, by decide +kernel, rfl, by decide +kernel, by decide +kernel⟩
theorem ok_sheet_error (V : Ev K mg) : HasF P w K mg base false 5 "sheet_error" 1 φ_sheet_error := by
  obtain ⟨fd, F⟩ := V.c.def_ 7 (d := dd "sheet_error" 14) rfl
  have F : FunD K "sheet_error" "sheet_error" (defArgs (top 14)) (defBody (top 14)) (defScope (top 14)) [] [] (He.ga K "sheet_error") fd := F
  have hM := hM_ V
  have b_enumerate := f_enumerate V
  have b_isinstance := f_isinstance V
  have b_len := f_len V
  have b_tuple := f_tuple V
  obtain ⟨t_MAX_VALUES, g_MAX_VALUES⟩ := i_MAX_VALUES V
  exact ⟨_, fd, ["value"], g_sheet_error V, rfl, F.kp, F.bindsN (fun _ _ _ _ _ _ us hl => match us, hl with | [_], _ => rfl), fnB F sc_sheet_error fun cdv A outer s H E hr tk hp hN =>
  (dss_cons (ds_if (DW.t (dw_or (dt_not (dt_val (DE.toB (de_isi (C := "tuple") (DE.toB (de_var 0)) (by decide +kernel) rfl b_isinstance rfl b_tuple (by decide +kernel))))) (dw_or1 (dt_cmp od_gt (DE.toB (de_callB cd_len rfl b_len (by decide +kernel) (dab_cons (DE.toB (de_var 0)) dab_nil))) (DE.toB (de_gint g_MAX_VALUES)) rfl))))
  (dss_one (ds_ret (de_tup (da_cons de_non (da_cons de_str da_nil)))))
  dss_nil)
  (dss_cons (ds_for hp rfl (di_enum rfl b_enumerate (de_var 0)) (dg_tup rfl (dgs_cons (dg_name 1 hN) (dgs_cons (dg_name 2 hN) dgs_nil)))
  (dss_cons (ds_set (i := 3) hN (de_call (ok_row_word V) hr (by decide) tk (da_cons (de_var 2) da_nil)))
  (dss_cons (ds_if (DW.t (dw_and (dt_cmp od_is (DE.toB (de_var 3)) (DE.toB de_non) rfl) (dw_and (dt_cmp od_gt (DE.toB (de_var 1)) (DE.toB de_int) rfl) (dw_and1 (dt_not (dt_val (DE.toB (de_call (ok_is_behind V) hr (by decide) tk (da_cons (de_ix (DE.toB (de_var 2)) (DE.toB de_int)) (da_cons (de_ix (DE.toB (de_ix (DE.toB (de_var 0)) (DE.toB (de_op od_sub (DE.toB (de_var 1)) (DE.toB de_int))))) (DE.toB de_int)) da_nil))))))))))
  (dss_one (ds_set (i := 3) hN de_str))
  dss_nil)
  (dss_one (ds_if (dt_cmp od_isNot (DE.toB (de_var 3)) (DE.toB de_non) rfl)
  (dss_one (ds_ret (de_tup (da_cons (de_var 1) (da_cons (de_var 3) da_nil)))))
  dss_nil)))))
  (dss_one (ds_ret de_non))))⟩
theorem sc_words_of : FnScope ["value", "word"] ["value"] (defScope (top 17)) := ⟨rfl, rfl, rfl, by decide +kernel, rfl, by decide +kernel, by decide +kernel⟩
theorem ok_words_of (V : Ev K mg) : HasF P w K mg base false 3 "words_of" 1 φ_words_of := by
  obtain ⟨fd, F⟩ := V.c.def_ 8 (d := dd "words_of" 17) rfl
  have F : FunD K "words_of" "words_of" (defArgs (top 17)) (defBody (top 17)) (defScope (top 17)) [] [] (He.ga K "words_of") fd := F
  have hM := hM_ V
  have b_isinstance := f_isinstance V
  have b_str := f_str V
  exact ⟨_, fd, ["value"], g_words_of V, rfl, F.kp, F.bindsN (fun _ _ _ _ _ _ us hl => match us, hl with | [_], _ => rfl), fnB F sc_words_of fun cdv A outer s H E hr tk hp hN =>
  (dss_cons (ds_if (dt_not (dt_val (DE.toB (de_isi (C := "str") (DE.toB (de_var 0)) (by decide +kernel) rfl b_isinstance rfl b_str (by decide +kernel)))))
  (dss_one (ds_raise (err_BadText V) (by decide) (hr.mono (by decide)) rfl tk (da_cons de_non da_nil)))
  dss_nil)
  (dss_one (ds_ret (DF.toE (df_lc [("word", 1)] rfl hN (di_any (de_split (DE.toB (de_var 0)) (DE.toB de_str))) (by kernel_rfl) (fun _ => (dg_name 1 hN)) (fun _ => (dts_one (dt_cmp (od_ne hr.units hM) (DE.toB (de_var 1)) (DE.toB de_str) rfl))) (fun _ => (de_var 1)) (by decide))))))⟩
theorem sc_number_in : FnScope ["word", "most", "figures", "sign"] ["word", "most"] (defScope (top 18)) := ⟨rfl, rfl, rfl, by decide +kernel, rfl, by decide +kernel, by decide +kernel⟩
theorem okA_number_in (V : Ev K mg) : ∃ fd : FuncData, FunD K "number_in" "number_in" (defArgs (top 18)) (defBody (top 18)) (defScope (top 18)) [.int 31] [] (He.ga K "number_in") fd ∧ FnOk P w K mg base (L2.CX P w) 2 (He.ga K "number_in") fd ["word", "most"] (spD K false 2 φ_number_in) := by
  obtain ⟨fd, F⟩ := V.c.def_ 9 (d := dd "number_in" 18 [.int 31]) rfl
  have F : FunD K "number_in" "number_in" (defArgs (top 18)) (defBody (top 18)) (defScope (top 18)) [.int 31] [] (He.ga K "number_in") fd := F
  have hM := hM_ V
  have b_int := f_int V
  have b_len := f_len V
  exact ⟨fd, F, fnB F sc_number_in fun cdv A outer s H E hr tk hp hN =>
  (dss_cons (ds_set (i := 2) hN (de_if (dt_cmp (od_eq hr.units hM) (DE.toB (de_slice (DE.toB (de_var 0)) do_none (do_some (DE.toB de_int)))) (DE.toB de_str) rfl) (de_slice (DE.toB (de_var 0)) (do_some (DE.toB de_int)) do_none) (de_var 0)))
  (dss_cons (ds_if (DW.t (dw_or (dt_not (dt_chain od_le od_le (DE.toB de_int) (DE.toB (de_callB cd_len rfl b_len (by decide +kernel) (dab_cons (DE.toB (de_var 2)) dab_nil))) (DE.toB (de_var 1)))) (dw_or1 (dt_cmp (od_ne hr.units hM) (DE.toB (DF.toE (df_lc [("sign", 3)] rfl hN (di_any (de_var 2)) (by kernel_rfl) (fun _ => (dg_name 3 hN)) (fun _ => (dts_one (dt_cmp (od_notIn hr.u65) (DE.toB (de_var 3)) (DE.toB de_str) rfl))) (fun _ => de_int) (by decide)))) (DE.toB (de_lst da_nil)) rfl))))
  (dss_one (ds_ret de_non))
  dss_nil)
  (dss_cons (ds_if (DW.t (dw_and (dt_cmp (od_eq hr.units hM) (DE.toB (de_ix (DE.toB (de_var 2)) (DE.toB de_int))) (DE.toB de_str) rfl) (dw_and1 (dt_cmp (od_ne hr.units hM) (DE.toB (de_var 0)) (DE.toB de_str) rfl))))
  (dss_one (ds_ret de_non))
  dss_nil)
  (dss_one (ds_ret (de_callTy cd_int rfl b_int (by decide +kernel) (dab_cons (DE.toB (de_var 0)) dab_nil)))))))⟩
theorem ok_number_in (V : Ev K mg) : HasF P w K mg base false 2 "number_in" 2 φ_number_in := by
  obtain ⟨fd, F, G⟩ := okA_number_in (P := P) (w := w) (base := base) V
  obtain ⟨ds, hv, b⟩ := F.binds1 (ps := ["word", "most"]) 2 1 (by simp) rfl (fun _ _ _ _ _ _ _ us its hl hi => match us, hl, its, hi with | [_, _], _, [_], _ => ⟨_, rfl, rfl⟩)
  cases hv
  exact ⟨_, fd, ["word", "most"], g_number_in V, rfl, F.kp, b, G⟩
theorem sc_part_text : FnScope ["number", "word"] ["number", "word"] (defScope (top 21)) := ⟨rfl, rfl, rfl, by decide +kernel, rfl, by decide +kernel, by decide +kernel⟩
theorem ok_part_text (V : Ev K mg) : HasF P w K mg base false 2 "part_text" 2 φ_part_text := by
  obtain ⟨fd, F⟩ := V.c.def_ 10 (d := dd "part_text" 21) rfl
  have F : FunD K "part_text" "part_text" (defArgs (top 21)) (defBody (top 21)) (defScope (top 21)) [] [] (He.ga K "part_text") fd := F
  have hM := hM_ V
  have b_str := f_str V
  exact ⟨_, fd, ["number", "word"], g_part_text V, rfl, F.kp, F.bindsN (fun _ _ _ _ _ _ us hl => match us, hl with | [_, _], _ => rfl), fnB F sc_part_text fun cdv A outer s H E hr tk hp hN =>
  (dss_one (ds_ret (de_if (dt_cmp od_is (DE.toB (de_var 0)) (DE.toB de_non) rfl) (de_var 1) (de_callTy cd_str rfl b_str (by decide +kernel) (dab_cons (DE.toB (de_var 0)) dab_nil)))))⟩
theorem sc_sheet_text : FnScope ["sheet", "worth", "value"] ["sheet"] (defScope (top 22)) := ⟨rfl, rfl, rfl, by decide +kernel, rfl, by decide +kernel, by decide +kernel⟩
theorem ok_sheet_text (V : Ev K mg) : HasF P w K mg base false 3 "sheet_text" 1 φ_sheet_text := by
  obtain ⟨fd, F⟩ := V.c.def_ 11 (d := dd "sheet_text" 22) rfl
  have F : FunD K "sheet_text" "sheet_text" (defArgs (top 22)) (defBody (top 22)) (defScope (top 22)) [] [] (He.ga K "sheet_text") fd := F
  have hM := hM_ V
  exact ⟨_, fd, ["sheet"], g_sheet_text V, rfl, F.kp, F.bindsN (fun _ _ _ _ _ _ us hl => match us, hl with | [_], _ => rfl), fnB F sc_sheet_text fun cdv A outer s H E hr tk hp hN =>
  (dss_one (ds_ret (de_join (DE.toB de_str) (DE.toB (DF.toE (df_lc [("worth", 1), ("value", 2)] rfl hN (di_any (de_var 0)) (by kernel_rfl) (fun _ => (dg_tup rfl (dgs_cons (dg_name 1 hN) (dgs_cons (dg_name 2 hN) dgs_nil)))) (fun _ => dts_nil) (fun _ => (de_op od_add (DE.toB (de_op od_add (DE.toB (de_call (ok_part_text V) hr (by decide) noTk (da_cons (de_var 1) (da_cons de_str da_nil)))) (DE.toB de_str))) (DE.toB (de_call (ok_part_text V) hr (by decide) noTk (da_cons (de_var 2) (da_cons de_str da_nil)))))) (by decide)))))))⟩
theorem sc_is_part : FnScope ["word", "other"] ["word", "other"] (defScope (top 23)) := ⟨rfl, rfl, rfl, by decide +kernel, rfl, by decide +kernel, by decide +kernel⟩
theorem ok_is_part (V : Ev K mg) : HasF P w K mg base false 3 "is_part" 2 φ_is_part := by
  obtain ⟨fd, F⟩ := V.c.def_ 12 (d := dd "is_part" 23) rfl
  have F : FunD K "is_part" "is_part" (defArgs (top 23)) (defBody (top 23)) (defScope (top 23)) [] [] (He.ga K "is_part") fd := F
  have hM := hM_ V
  obtain ⟨t_MAX_FIGURES_sheettexts, g_MAX_FIGURES_sheettexts⟩ := i_MAX_FIGURES_sheettexts V
  exact ⟨_, fd, ["word", "other"], g_is_part V, rfl, F.kp, F.bindsN (fun _ _ _ _ _ _ us hl => match us, hl with | [_, _], _ => rfl), fnB F sc_is_part fun cdv A outer s H E hr tk hp hN =>
  (dss_one (ds_ret (de_or (de_cmp (od_eq hr.units hM) (DE.toB (de_var 0)) (DE.toB (de_var 1)) rfl) (de_one (de_cmp od_isNot (DE.toB (de_call (ok_number_in V) hr (by decide) tk (da_cons (de_var 0) (da_cons (de_gint g_MAX_FIGURES_sheettexts) da_nil)))) (DE.toB de_non) rfl)))))⟩
theorem sc_part_of : FnScope ["word", "other"] ["word", "other"] (defScope (top 24)) := ⟨rfl, rfl, rfl, by decide +kernel, rfl, by decide +kernel, by decide +kernel⟩
theorem ok_part_of (V : Ev K mg) : HasF P w K mg base false 3 "part_of" 2 φ_part_of := by
  obtain ⟨fd, F⟩ := V.c.def_ 13 (d := dd "part_of" 24) rfl
  have F : FunD K "part_of" "part_of" (defArgs (top 24)) (defBody (top 24)) (defScope (top 24)) [] [] (He.ga K "part_of") fd := F
  have hM := hM_ V
  obtain ⟨t_MAX_FIGURES_sheettexts, g_MAX_FIGURES_sheettexts⟩ := i_MAX_FIGURES_sheettexts V
  exact ⟨_, fd, ["word", "other"], g_part_of V, rfl, F.kp, F.bindsN (fun _ _ _ _ _ _ us hl => match us, hl with | [_, _], _ => rfl), fnB F sc_part_of fun cdv A outer s H E hr tk hp hN =>
  (dss_one (ds_ret (de_if (dt_cmp (od_eq hr.units hM) (DE.toB (de_var 0)) (DE.toB (de_var 1)) rfl) de_non (de_call (ok_number_in V) hr (by decide) tk (da_cons (de_var 0) (da_cons (de_gint g_MAX_FIGURES_sheettexts) da_nil))))))⟩
theorem sc_row_in : FnScope ["word", "parts"] ["word"] (defScope (top 25)) := ⟨rfl, rfl, rfl, by decide +kernel, rfl, by decide +kernel, by decide +kernel⟩
theorem ok_row_in (V : Ev K mg) : HasF P w K mg base false 4 "row_in" 1 φ_row_in := by
  obtain ⟨fd, F⟩ := V.c.def_ 14 (d := dd "row_in" 25) rfl
  have F : FunD K "row_in" "row_in" (defArgs (top 25)) (defBody (top 25)) (defScope (top 25)) [] [] (He.ga K "row_in") fd := F
  have hM := hM_ V
  have b_len := f_len V
  exact ⟨_, fd, ["word"], g_row_in V, rfl, F.kp, F.bindsN (fun _ _ _ _ _ _ us hl => match us, hl with | [_], _ => rfl), fnB F sc_row_in fun cdv A outer s H E hr tk hp hN =>
  (dss_cons (ds_set (i := 1) hN (de_split (DE.toB (de_var 0)) (DE.toB de_str)))
  (dss_cons (ds_if (DW.t (dw_or (dt_cmp (od_ne hr.units hM) (DE.toB (de_callB cd_len rfl b_len (by decide +kernel) (dab_cons (DE.toB (de_var 1)) dab_nil))) (DE.toB de_int) rfl) (dw_or (dt_not (dt_val (DE.toB (de_call (ok_is_part V) hr (by decide) tk (da_cons (de_ix (DE.toB (de_var 1)) (DE.toB de_int)) (da_cons de_str da_nil)))))) (dw_or1 (dt_not (dt_val (DE.toB (de_call (ok_is_part V) hr (by decide) tk (da_cons (de_ix (DE.toB (de_var 1)) (DE.toB de_int)) (da_cons de_str da_nil))))))))))
  (dss_one (ds_ret de_non))
  dss_nil)
  (dss_one (ds_ret (de_tup (da_cons (de_call (ok_part_of V) hr (by decide) tk (da_cons (de_ix (DE.toB (de_var 1)) (DE.toB de_int)) (da_cons de_str da_nil))) (da_cons (de_call (ok_part_of V) hr (by decide) tk (da_cons (de_ix (DE.toB (de_var 1)) (DE.toB de_int)) (da_cons de_str da_nil))) da_nil)))))))⟩
theorem sc_read_sheet : FnScope ["value", "found", "number", "word", "row", "error"] ["value"] (defScope (top 26)) := ⟨rfl, rfl, rfl, by decide +kernel, rfl, by decide +kernel, by decide +kernel⟩
theorem ok_read_sheet (V : Ev K mg) : HasF P w K mg base false 6 "read_sheet" 1 φ_read_sheet := by
  obtain ⟨fd, F⟩ := V.c.def_ 15 (d := dd "read_sheet" 26) rfl
  have F : FunD K "read_sheet" "read_sheet" (defArgs (top 26)) (defBody (top 26)) (defScope (top 26)) [] [] (He.ga K "read_sheet") fd := F
  have hM := hM_ V
  have b_enumerate := f_enumerate V
  have b_tuple := f_tuple V
  exact ⟨_, fd, ["value"], g_read_sheet V, rfl, F.kp, F.bindsN (fun _ _ _ _ _ _ us hl => match us, hl with | [_], _ => rfl), fnB F sc_read_sheet fun cdv A outer s H E hr tk hp hN =>
  (dss_cons (ds_setF (i := 1) hN (df_disp da_nil))
  (dss_cons (ds_for hp rfl (di_enum rfl b_enumerate (de_call (ok_words_of V) hr (by decide) tk (da_cons (de_var 0) da_nil))) (dg_tup rfl (dgs_cons (dg_name 2 hN) (dgs_cons (dg_name 3 hN) dgs_nil)))
  (dss_cons (ds_set (i := 4) hN (de_call (ok_row_in V) hr (by decide) tk (da_cons (de_var 3) da_nil)))
  (dss_cons (ds_if (dt_cmp od_is (DE.toB (de_var 4)) (DE.toB de_non) rfl)
  (dss_one (ds_raise (err_BadText V) (by decide) (hr.mono (by decide)) rfl tk (da_cons (de_var 2) da_nil)))
  dss_nil)
  (dss_one (ds_app (i := 1) (de_var 4))))))
  (dss_cons (ds_set (i := 5) hN (de_call (ok_sheet_error V) hr (by decide) tk (da_cons (de_callTy cd_tuple rfl b_tuple (by decide +kernel) (dab_cons (db_var 1) dab_nil)) da_nil)))
  (dss_cons (ds_if (dt_cmp od_isNot (DE.toB (de_var 5)) (DE.toB de_non) rfl)
  (dss_one (ds_raise (err_BadSheet V) (by decide) (hr.mono (by decide)) rfl tk (da_cons (de_ix (DE.toB (de_var 5)) (DE.toB de_int)) (da_cons (de_ix (DE.toB (de_var 5)) (DE.toB de_int)) da_nil))))
  dss_nil)
  (dss_one (ds_ret (de_callTy cd_tuple rfl b_tuple (by decide +kernel) (dab_cons (db_var 1) dab_nil))))))))⟩
theorem sc__law_deck : FnScope ["_law_script", "_law_great", "_law_small", "_law_cell", "_law_mixed"] ["_law_script"] (defScope (top 28)) := ⟨rfl, rfl, rfl, by decide +kernel, rfl, by decide +kernel, by decide +kernel⟩
theorem ok__law_deck (V : Ev K mg) : HasF P w K mg base false 2 "_law_deck" 1 φ__law_deck := by
  obtain ⟨fd, F⟩ := V.c.def_ 16 (d := dd "_law_deck" 28) rfl
  have F : FunD K "_law_deck" "_law_deck" (defArgs (top 28)) (defBody (top 28)) (defScope (top 28)) [] [] (He.ga K "_law_deck") fd := F
  have hM := hM_ V
  have b_abs := f_abs V
  have b_int := f_int V
  have b_len := f_len V
  exact ⟨_, fd, ["_law_script"], g__law_deck V, rfl, F.kp, F.bindsN (fun _ _ _ _ _ _ us hl => match us, hl with | [_], _ => rfl), fnB F sc__law_deck fun cdv A outer s H E hr tk hp hN =>
  (dss_cons (ds_par (i := 1) (j := 2) rfl hN (da_cons de_int (da_cons (de_op od_add (DE.toB de_int) (DE.toB (de_op od_mul (DE.toB de_int) (DE.toB (de_callB cd_len rfl b_len (by decide +kernel) (dab_cons (DE.toB (de_var 0)) dab_nil)))))) da_nil)))
  (dss_cons (ds_for hp rfl (di_any (de_slice (DE.toB (de_var 0)) do_none (do_some (DE.toB de_int)))) (dg_name 3 hN)
  (dss_one (ds_if (dt_cmp od_ge (DE.toB (de_var 3)) (DE.toB (de_op od_pow (DE.toB de_int) (DE.toB de_int))) rfl)
  (dss_one (ds_set (i := 1) hN (de_op od_sub (DE.toB (de_op od_add (DE.toB (de_op od_mul (DE.toB (de_var 1)) (DE.toB de_int))) (DE.toB (de_var 3)))) (DE.toB (de_op od_pow (DE.toB de_int) (DE.toB de_int))))))
  (dss_cons (ds_set (i := 4) hN (de_op od_add (DE.toB (de_op od_mul (DE.toB (de_var 2)) (DE.toB de_int))) (DE.toB (de_op od_mul (DE.toB de_int) (DE.toB (de_callB cd_abs rfl b_abs (by decide +kernel) (dab_cons (DE.toB (de_var 3)) dab_nil)))))))
  (dss_one (ds_set (i := 2) hN (de_op od_mod (DE.toB (de_callTy cd_int rfl b_int (by decide +kernel) (dab_cons (DE.toB (de_op od_add (DE.toB (de_var 4)) (DE.toB (de_callTy cd_int rfl b_int (by decide +kernel) (dab_cons (DE.toB (de_cmp od_lt (DE.toB (de_var 3)) (DE.toB de_int) rfl)) dab_nil))))) dab_nil))) (DE.toB de_int))))))))
  (dss_one (ds_ret (DF.toCell (df_disp (da_cons (de_var 1) (da_cons (de_var 2) (da_cons de_int da_nil)))))))))⟩
theorem sc__law_take : FnScope ["_law_deck_here", "_law_many", "_law_digit", "_law_mixed"] ["_law_deck_here", "_law_many"] (defScope (top 29)) := ⟨rfl, rfl, rfl, by decide +kernel, rfl, by decide +kernel, by decide +kernel⟩
theorem ok__law_take (V : Ev K mg) : HasF P w K mg base false 2 "_law_take" 2 φ__law_take := by
  obtain ⟨fd, F⟩ := V.c.def_ 17 (d := dd "_law_take" 29) rfl
  have F : FunD K "_law_take" "_law_take" (defArgs (top 29)) (defBody (top 29)) (defScope (top 29)) [] [] (He.ga K "_law_take") fd := F
  have hM := hM_ V
  have b_int := f_int V
  exact ⟨_, fd, ["_law_deck_here", "_law_many"], g__law_take V, rfl, F.kp, F.bindsN (fun _ _ _ _ _ _ us hl => match us, hl with | [_, _], _ => rfl), fnB F sc__law_take fun cdv A outer s H E hr tk hp hN =>
  (dss_cons (ds_if (dt_cmp od_gt (DE.toB (de_ix (DE.toB (de_var 0)) (DE.toB de_int))) (DE.toB de_int) rfl)
  (dss_cons (ds_set (i := 2) hN (de_op od_mod (DE.toB (de_callTy cd_int rfl b_int (by decide +kernel) (dab_cons (DE.toB (de_ix (DE.toB (de_var 0)) (DE.toB de_int))) dab_nil))) (DE.toB (de_var 1))))
  (dss_cons (ds_subC (de_op od_div (DE.toB (de_ix (DE.toB (de_var 0)) (DE.toB de_int))) (DE.toB (de_var 1))) (DE.toB (de_var 0)) (DE.toB de_int))
  (dss_one (ds_ret (de_var 2)))))
  dss_nil)
  (dss_cons (ds_subC (de_op od_add (DE.toB (de_ix (DE.toB (de_var 0)) (DE.toB de_int))) (DE.toB de_int)) (DE.toB (de_var 0)) (DE.toB de_int))
  (dss_cons (ds_set (i := 3) hN (de_op od_add (DE.toB (de_op od_mul (DE.toB (de_ix (DE.toB (de_var 0)) (DE.toB de_int))) (DE.toB de_int))) (DE.toB (de_op od_mul (DE.toB de_int) (DE.toB (de_ix (DE.toB (de_var 0)) (DE.toB de_int)))))))
  (dss_cons (ds_subC (de_op od_mod (DE.toB (de_callTy cd_int rfl b_int (by decide +kernel) (dab_cons (DE.toB (de_var 3)) dab_nil))) (DE.toB de_int)) (DE.toB (de_var 0)) (DE.toB de_int))
  (dss_one (ds_ret (de_op od_mod (DE.toB (de_op od_div (DE.toB (de_op od_mod (DE.toB (de_callTy cd_int rfl b_int (by decide +kernel) (dab_cons (DE.toB (de_op od_mul (DE.toB (de_ix (DE.toB (de_var 0)) (DE.toB de_int))) (DE.toB (de_ix (DE.toB (de_var 0)) (DE.toB de_int))))) dab_nil))) (DE.toB de_int))) (DE.toB de_int))) (DE.toB (de_var 1)))))))))⟩
theorem sc__law_pick : FnScope ["_law_deck_here", "_law_some"] ["_law_deck_here", "_law_some"] (defScope (top 30)) := ⟨rfl, rfl, rfl, by decide +kernel, rfl, by decide +kernel, by decide +kernel⟩
theorem ok__law_pick (V : Ev K mg) : HasF P w K mg base false 3 "_law_pick" 2 φ__law_pick := by
  obtain ⟨fd, F⟩ := V.c.def_ 18 (d := dd "_law_pick" 30) rfl
  have F : FunD K "_law_pick" "_law_pick" (defArgs (top 30)) (defBody (top 30)) (defScope (top 30)) [] [] (He.ga K "_law_pick") fd := F
  have hM := hM_ V
  have b_len := f_len V
  exact ⟨_, fd, ["_law_deck_here", "_law_some"], g__law_pick V, rfl, F.kp, F.bindsN (fun _ _ _ _ _ _ us hl => match us, hl with | [_, _], _ => rfl), fnB F sc__law_pick fun cdv A outer s H E hr tk hp hN =>
  (dss_one (ds_ret (de_ix (DE.toB (de_var 1)) (DE.toB (de_call (ok__law_take V) hr (by decide) tk (da_cons (de_var 0) (da_cons (de_callB cd_len rfl b_len (by decide +kernel) (dab_cons (DE.toB (de_var 1)) dab_nil)) da_nil)))))))⟩
theorem sc__law_is_int : FnScope ["_law_value_here", "_law_low", "_law_high"] ["_law_value_here", "_law_low", "_law_high"] (defScope (top 31)) := ⟨rfl, rfl, rfl, by decide +kernel, rfl, by decide +kernel, by decide +kernel⟩
theorem ok__law_is_int (V : Ev K mg) : HasF P w K mg base false 2 "_law_is_int" 3 φ__law_is_int := by
  obtain ⟨fd, F⟩ := V.c.def_ 19 (d := dd "_law_is_int" 31) rfl
  have F : FunD K "_law_is_int" "_law_is_int" (defArgs (top 31)) (defBody (top 31)) (defScope (top 31)) [] [] (He.ga K "_law_is_int") fd := F
  have hM := hM_ V
  have b_bool := f_bool V
  have b_int := f_int V
  have b_isinstance := f_isinstance V
  exact ⟨_, fd, ["_law_value_here", "_law_low", "_law_high"], g__law_is_int V, rfl, F.kp, F.bindsN (fun _ _ _ _ _ _ us hl => match us, hl with | [_, _, _], _ => rfl), fnB F sc__law_is_int fun cdv A outer s H E hr tk hp hN =>
  (dss_one (ds_ret (de_and (de_isi (C := "int") (DE.toB (de_var 0)) (by decide +kernel) rfl b_isinstance rfl b_int (by decide +kernel)) (de_and (de_not (de_isi (C := "bool") (DE.toB (de_var 0)) (by decide +kernel) rfl b_isinstance rfl b_bool (by decide +kernel))) (de_one (de_chain od_le od_le (DE.toB (de_var 1)) (DE.toB (de_var 0)) (DE.toB (de_var 2))))))))⟩
theorem sc__law_odd_thing : FnScope ["_law_deck_here", "_law_some"] ["_law_deck_here"] (defScope (top 32)) := ⟨rfl, rfl, rfl, by decide +kernel, rfl, by decide +kernel, by decide +kernel⟩
theorem ok__law_odd_thing (V : Ev K mg) : HasF P w K mg base false 4 "_law_odd_thing" 1 φ__law_odd_thing := by
  obtain ⟨fd, F⟩ := V.c.def_ 20 (d := dd "_law_odd_thing" 32) rfl
  have F : FunD K "_law_odd_thing" "_law_odd_thing" (defArgs (top 32)) (defBody (top 32)) (defScope (top 32)) [] [] (He.ga K "_law_odd_thing") fd := F
  have hM := hM_ V
  exact ⟨_, fd, ["_law_deck_here"], g__law_odd_thing V, rfl, F.kp, F.bindsN (fun _ _ _ _ _ _ us hl => match us, hl with | [_], _ => rfl), fnB F sc__law_odd_thing fun cdv A outer s H E hr tk hp hN =>
  (dss_cons (ds_set (i := 1) hN (de_lst (da_cons de_non (da_cons de_bl (da_cons de_bl (da_cons de_int (da_cons de_int (da_cons (de_neg (DE.toB de_int)) (da_cons de_int (da_cons (de_op od_pow (DE.toB de_int) (DE.toB de_int)) (da_cons (de_op od_add (DE.toB (de_op od_pow (DE.toB de_int) (DE.toB de_int))) (DE.toB de_int)) (da_cons de_str (da_cons de_str (da_cons de_str (da_cons de_str (da_cons (de_tup da_nil) (da_cons (de_lst da_nil) (da_cons (de_tup (da_cons de_int da_nil)) (da_cons (de_tup (da_cons de_int (da_cons de_int da_nil))) (da_cons (de_lst (da_cons de_int (da_cons de_int da_nil))) (da_cons (de_tup (da_cons de_int (da_cons de_bl da_nil))) (da_cons de_dict0 da_nil))))))))))))))))))))))
  (dss_one (ds_ret (de_call (ok__law_pick V) hr (by decide) tk (da_cons (de_var 0) (da_cons (de_op od_add (DE.toB (de_var 1)) (DE.toB (de_lst (da_cons (de_tup (da_cons de_non da_nil)) (da_cons (de_tup (da_cons de_str (da_cons de_int da_nil))) (da_cons (de_tup (da_cons de_dict0 da_nil)) (da_cons (de_tup (da_cons de_non (da_cons de_non da_nil))) (da_cons (de_tup (da_cons (de_tup (da_cons de_int (da_cons de_int da_nil))) da_nil)) (da_cons (de_lst (da_cons (de_tup (da_cons de_int (da_cons de_int da_nil))) da_nil)) (da_cons (de_dict1 de_int) (da_cons (de_tup (da_cons de_str (da_cons (de_tup (da_cons de_str (da_cons de_int (da_cons de_int da_nil)))) da_nil))) da_nil))))))))))) da_nil))))))⟩
theorem sc__law_is_row : FnScope ["_law_value_here"] ["_law_value_here"] (defScope (top 33)) := ⟨rfl, rfl, rfl, by decide +kernel, rfl, by decide +kernel, by decide +kernel⟩
theorem ok__law_is_row (V : Ev K mg) : HasF P w K mg base false 3 "_law_is_row" 1 φ__law_is_row := by
  obtain ⟨fd, F⟩ := V.c.def_ 21 (d := dd "_law_is_row" 33) rfl
  have F : FunD K "_law_is_row" "_law_is_row" (defArgs (top 33)) (defBody (top 33)) (defScope (top 33)) [] [] (He.ga K "_law_is_row") fd := F
  have hM := hM_ V
  have b_isinstance := f_isinstance V
  have b_len := f_len V
  have b_tuple := f_tuple V
  exact ⟨_, fd, ["_law_value_here"], g__law_is_row V, rfl, F.kp, F.bindsN (fun _ _ _ _ _ _ us hl => match us, hl with | [_], _ => rfl), fnB F sc__law_is_row fun cdv A outer s H E hr tk hp hN =>
  (dss_cons (ds_if (DW.t (dw_or (dt_not (dt_val (DE.toB (de_isi (C := "tuple") (DE.toB (de_var 0)) (by decide +kernel) rfl b_isinstance rfl b_tuple (by decide +kernel))))) (dw_or1 (dt_cmp (od_ne hr.units hM) (DE.toB (de_callB cd_len rfl b_len (by decide +kernel) (dab_cons (DE.toB (de_var 0)) dab_nil))) (DE.toB de_int) rfl))))
  (dss_one (ds_ret de_str))
  dss_nil)
  (dss_cons (ds_if (DW.t (dw_and (dt_cmp od_isNot (DE.toB (de_ix (DE.toB (de_var 0)) (DE.toB de_int))) (DE.toB de_non) rfl) (dw_and1 (dt_not (dt_val (DE.toB (de_call (ok__law_is_int V) hr (by decide) tk (da_cons (de_ix (DE.toB (de_var 0)) (DE.toB de_int)) (da_cons (de_neg (DE.toB (de_op od_pow (DE.toB de_int) (DE.toB de_int)))) (da_cons (de_op od_pow (DE.toB de_int) (DE.toB de_int)) da_nil))))))))))
  (dss_one (ds_ret de_str))
  dss_nil)
  (dss_cons (ds_if (DW.t (dw_and (dt_cmp od_isNot (DE.toB (de_ix (DE.toB (de_var 0)) (DE.toB de_int))) (DE.toB de_non) rfl) (dw_and1 (dt_not (dt_val (DE.toB (de_call (ok__law_is_int V) hr (by decide) tk (da_cons (de_ix (DE.toB (de_var 0)) (DE.toB de_int)) (da_cons (de_neg (DE.toB (de_op od_pow (DE.toB de_int) (DE.toB de_int)))) (da_cons (de_op od_pow (DE.toB de_int) (DE.toB de_int)) da_nil))))))))))
  (dss_one (ds_ret de_str))
  dss_nil)
  (dss_one (ds_ret de_non)))))⟩
theorem sc__law_sheet_error : FnScope ["_law_value_here", "_law_number", "_law_row", "_law_word", "_law_ahead"] ["_law_value_here"] (defScope (top 34)) := ⟨rfl, rfl, rfl, by decide +kernel, rfl, by decide +kernel, by decide +kernel⟩
theorem ok__law_sheet_error (V : Ev K mg) : HasF P w K mg base false 4 "_law_sheet_error" 1 φ__law_sheet_error := by
  obtain ⟨fd, F⟩ := V.c.def_ 22 (d := dd "_law_sheet_error" 34) rfl
  have F : FunD K "_law_sheet_error" "_law_sheet_error" (defArgs (top 34)) (defBody (top 34)) (defScope (top 34)) [] [] (He.ga K "_law_sheet_error") fd := F
  have hM := hM_ V
  have b_enumerate := f_enumerate V
  have b_isinstance := f_isinstance V
  have b_len := f_len V
  have b_tuple := f_tuple V
  exact ⟨_, fd, ["_law_value_here"], g__law_sheet_error V, rfl, F.kp, F.bindsN (fun _ _ _ _ _ _ us hl => match us, hl with | [_], _ => rfl), fnB F sc__law_sheet_error fun cdv A outer s H E hr tk hp hN =>
  (dss_cons (ds_if (DW.t (dw_or (dt_not (dt_val (DE.toB (de_isi (C := "tuple") (DE.toB (de_var 0)) (by decide +kernel) rfl b_isinstance rfl b_tuple (by decide +kernel))))) (dw_or1 (dt_cmp od_gt (DE.toB (de_callB cd_len rfl b_len (by decide +kernel) (dab_cons (DE.toB (de_var 0)) dab_nil))) (DE.toB de_int) rfl))))
  (dss_one (ds_ret (de_tup (da_cons de_non (da_cons de_str da_nil)))))
  dss_nil)
  (dss_cons (ds_for hp rfl (di_enum rfl b_enumerate (de_var 0)) (dg_tup rfl (dgs_cons (dg_name 1 hN) (dgs_cons (dg_name 2 hN) dgs_nil)))
  (dss_cons (ds_set (i := 3) hN (de_call (ok__law_is_row V) hr (by decide) tk (da_cons (de_var 2) da_nil)))
  (dss_cons (ds_if (DW.t (dw_and (dt_cmp od_is (DE.toB (de_var 3)) (DE.toB de_non) rfl) (dw_and (dt_cmp od_gt (DE.toB (de_var 1)) (DE.toB de_int) rfl) (dw_and1 (dt_cmp od_isNot (DE.toB (de_ix (DE.toB (de_var 2)) (DE.toB de_int))) (DE.toB de_non) rfl)))))
  (dss_cons (ds_set (i := 4) hN (de_ix (DE.toB (de_ix (DE.toB (de_var 0)) (DE.toB (de_op od_sub (DE.toB (de_var 1)) (DE.toB de_int))))) (DE.toB de_int)))
  (dss_one (ds_if (DW.t (dw_or (dt_cmp od_is (DE.toB (de_var 4)) (DE.toB de_non) rfl) (dw_or1 (dt_cmp od_gt (DE.toB (de_var 4)) (DE.toB (de_ix (DE.toB (de_var 2)) (DE.toB de_int))) rfl))))
  (dss_one (ds_set (i := 3) hN de_str))
  dss_nil)))
  dss_nil)
  (dss_one (ds_if (dt_cmp od_isNot (DE.toB (de_var 3)) (DE.toB de_non) rfl)
  (dss_one (ds_ret (de_tup (da_cons (de_var 1) (da_cons (de_var 3) da_nil)))))
  dss_nil)))))
  (dss_one (ds_ret de_non))))⟩
theorem sc__law_worth : FnScope ["_law_deck_here", "_law_share"] ["_law_deck_here", "_law_share"] (defScope (top 35)) := ⟨rfl, rfl, rfl, by decide +kernel, rfl, by decide +kernel, by decide +kernel⟩
theorem ok__law_worth (V : Ev K mg) : HasF P w K mg base false 3 "_law_worth" 2 φ__law_worth := by
  obtain ⟨fd, F⟩ := V.c.def_ 23 (d := dd "_law_worth" 35) rfl
  have F : FunD K "_law_worth" "_law_worth" (defArgs (top 35)) (defBody (top 35)) (defScope (top 35)) [] [] (He.ga K "_law_worth") fd := F
  have hM := hM_ V
  exact ⟨_, fd, ["_law_deck_here", "_law_share"], g__law_worth V, rfl, F.kp, F.bindsN (fun _ _ _ _ _ _ us hl => match us, hl with | [_, _], _ => rfl), fnB F sc__law_worth fun cdv A outer s H E hr tk hp hN =>
  (dss_cons (ds_if (dt_cmp (od_eq hr.units hM) (DE.toB (de_call (ok__law_take V) hr (by decide) tk (da_cons (de_var 0) (da_cons de_int da_nil)))) (DE.toB de_int) rfl)
  (dss_one (ds_ret de_non))
  dss_nil)
  (dss_one (ds_ret (de_op od_mul (DE.toB (de_op od_sub (DE.toB (de_call (ok__law_take V) hr (by decide) tk (da_cons (de_var 0) (da_cons de_int da_nil)))) (DE.toB de_int))) (DE.toB (de_var 1))))))⟩
theorem sc__law_value : FnScope ["_law_deck_here"] ["_law_deck_here"] (defScope (top 36)) := ⟨rfl, rfl, rfl, by decide +kernel, rfl, by decide +kernel, by decide +kernel⟩
theorem ok__law_value (V : Ev K mg) : HasF P w K mg base false 4 "_law_value" 1 φ__law_value := by
  obtain ⟨fd, F⟩ := V.c.def_ 24 (d := dd "_law_value" 36) rfl
  have F : FunD K "_law_value" "_law_value" (defArgs (top 36)) (defBody (top 36)) (defScope (top 36)) [] [] (He.ga K "_law_value") fd := F
  have hM := hM_ V
  exact ⟨_, fd, ["_law_deck_here"], g__law_value V, rfl, F.kp, F.bindsN (fun _ _ _ _ _ _ us hl => match us, hl with | [_], _ => rfl), fnB F sc__law_value fun cdv A outer s H E hr tk hp hN =>
  (dss_one (ds_ret (de_call (ok__law_pick V) hr (by decide) tk (da_cons (de_var 0) (da_cons (de_lst (da_cons de_non (da_cons de_int (da_cons (de_op od_sub (DE.toB (de_call (ok__law_take V) hr (by decide) tk (da_cons (de_var 0) (da_cons de_int da_nil)))) (DE.toB de_int)) (da_cons (de_op od_sub (DE.toB (de_call (ok__law_take V) hr (by decide) tk (da_cons (de_var 0) (da_cons de_int da_nil)))) (DE.toB de_int)) (da_cons (de_op od_pow (DE.toB de_int) (DE.toB de_int)) (da_cons (de_neg (DE.toB (de_op od_pow (DE.toB de_int) (DE.toB de_int)))) da_nil))))))) da_nil)))))⟩
theorem sc__law_sorted_sheet : FnScope ["_law_rows", "_law_known", "_law_place", "_law_row", "_law_found", "_law_worth_here"] ["_law_rows"] (defScope (top 37)) := ⟨rfl, rfl, rfl, by decide +kernel, rfl, by decide +kernel, by decide +kernel⟩
theorem ok__law_sorted_sheet (V : Ev K mg) : HasF P w K mg base false 2 "_law_sorted_sheet" 1 φ__law_sorted_sheet := by
  obtain ⟨fd, F⟩ := V.c.def_ 25 (d := dd "_law_sorted_sheet" 37) rfl
  have F : FunD K "_law_sorted_sheet" "_law_sorted_sheet" (defArgs (top 37)) (defBody (top 37)) (defScope (top 37)) [] [] (He.ga K "_law_sorted_sheet") fd := F
  have hM := hM_ V
  have b_enumerate := f_enumerate V
  have b_sorted := f_sorted V
  have b_tuple := f_tuple V
  exact ⟨_, fd, ["_law_rows"], g__law_sorted_sheet V, rfl, F.kp, F.bindsN (fun _ _ _ _ _ _ us hl => match us, hl with | [_], _ => rfl), fnB F sc__law_sorted_sheet fun cdv A outer s H E hr tk hp hN =>
  (dss_cons (ds_set (i := 1) hN (de_callB (cd_sorted hr.units hM) rfl b_sorted (by decide +kernel) (dab_cons (DE.toB (DF.toE (df_lc [("_law_place", 2), ("_law_row", 3)] rfl hN (di_enum rfl b_enumerate (de_var 0)) (by kernel_rfl) (fun _ => (dg_tup rfl (dgs_cons (dg_name 2 hN) (dgs_cons (dg_name 3 hN) dgs_nil)))) (fun _ => (dts_one (dt_cmp od_isNot (DE.toB (de_ix (DE.toB (de_var 3)) (DE.toB de_int))) (DE.toB de_non) rfl))) (fun _ => (de_tup (da_cons (de_ix (DE.toB (de_var 3)) (DE.toB de_int)) (da_cons (de_var 2) da_nil)))) (by decide)))) dab_nil)))
  (dss_cons (ds_setLc [("_law_worth_here", 5), ("_law_place", 2)] (i := 4) rfl hN (di_any (de_var 1)) (by kernel_rfl) (fun _ => (dg_tup rfl (dgs_cons (dg_name 5 hN) (dgs_cons (dg_name 2 hN) dgs_nil)))) (fun _ => dts_nil) (fun _ => (de_ix (DE.toB (de_var 0)) (DE.toB (de_var 2)))) (by decide) (sw_true rfl rfl rfl rfl))
  (dss_freeze 4 (dss_one (ds_ret (de_callTy cd_tuple rfl b_tuple (by decide +kernel) (dab_cons (DE.toB (de_op od_add (DE.toB (de_var 4)) (DE.toB (DF.toE (df_lc [("_law_row", 3)] rfl hN (di_any (de_var 0)) (by kernel_rfl) (fun _ => (dg_name 3 hN)) (fun _ => (dts_one (dt_cmp od_is (DE.toB (de_ix (DE.toB (de_var 3)) (DE.toB de_int))) (DE.toB de_non) rfl))) (fun _ => (de_var 3)) (by decide)))))) dab_nil)))))))⟩
theorem sc__law_sheet : FnScope ["_law_deck_here", "_law_many", "_law_share", "_law_rows", "_law_row"] ["_law_deck_here", "_law_many"] (defScope (top 38)) := ⟨rfl, rfl, rfl, by decide +kernel, rfl, by decide +kernel, by decide +kernel⟩
theorem ok__law_sheet (V : Ev K mg) : HasF P w K mg base false 5 "_law_sheet" 2 φ__law_sheet := by
  obtain ⟨fd, F⟩ := V.c.def_ 26 (d := dd "_law_sheet" 38) rfl
  have F : FunD K "_law_sheet" "_law_sheet" (defArgs (top 38)) (defBody (top 38)) (defScope (top 38)) [] [] (He.ga K "_law_sheet") fd := F
  have hM := hM_ V
  have b_range := f_range V
  exact ⟨_, fd, ["_law_deck_here", "_law_many"], g__law_sheet V, rfl, F.kp, F.bindsN (fun _ _ _ _ _ _ us hl => match us, hl with | [_, _], _ => rfl), fnB F sc__law_sheet fun cdv A outer s H E hr tk hp hN =>
  (dss_cons (ds_set (i := 2) hN (de_call (ok__law_pick V) hr (by decide) tk (da_cons (de_var 0) (da_cons (de_lst (da_cons de_int (da_cons de_int (da_cons de_int (da_cons (de_op od_pow (DE.toB de_int) (DE.toB de_int)) da_nil))))) da_nil))))
  (dss_cons (ds_setLc [("_law_row", 4)] (i := 3) rfl hN (di_range1 rfl b_range (dab_cons (DE.toB (de_call (ok__law_take V) hr (by decide) tk (da_cons (de_var 0) (da_cons (de_op od_add (DE.toB (de_var 1)) (DE.toB de_int)) da_nil)))) dab_nil)) (by kernel_rfl) (fun _ => (dg_name 4 hN)) (fun _ => dts_nil) (fun _ => (de_tup (da_cons (de_call (ok__law_worth V) hr (by decide) noTk (da_cons (de_var 0) (da_cons (de_var 2) da_nil))) (da_cons (de_call (ok__law_value V) hr (by decide) noTk (da_cons (de_var 0) da_nil)) da_nil)))) (by decide) (sw_true rfl rfl rfl rfl))
  (dss_freeze 3 (dss_one (ds_ret (de_call (ok__law_sorted_sheet V) hr (by decide) tk (da_cons (de_var 3) da_nil)))))))⟩
theorem sc__law_part_text : FnScope ["_law_number", "_law_word"] ["_law_number", "_law_word"] (defScope (top 39)) := ⟨rfl, rfl, rfl, by decide +kernel, rfl, by decide +kernel, by decide +kernel⟩
theorem ok__law_part_text (V : Ev K mg) : HasF P w K mg base false 2 "_law_part_text" 2 φ__law_part_text := by
  obtain ⟨fd, F⟩ := V.c.def_ 27 (d := dd "_law_part_text" 39) rfl
  have F : FunD K "_law_part_text" "_law_part_text" (defArgs (top 39)) (defBody (top 39)) (defScope (top 39)) [] [] (He.ga K "_law_part_text") fd := F
  have hM := hM_ V
  have b_str := f_str V
  exact ⟨_, fd, ["_law_number", "_law_word"], g__law_part_text V, rfl, F.kp, F.bindsN (fun _ _ _ _ _ _ us hl => match us, hl with | [_, _], _ => rfl), fnB F sc__law_part_text fun cdv A outer s H E hr tk hp hN =>
  (dss_one (ds_ret (de_if (dt_cmp od_is (DE.toB (de_var 0)) (DE.toB de_non) rfl) (de_var 1) (de_callTy cd_str rfl b_str (by decide +kernel) (dab_cons (DE.toB (de_var 0)) dab_nil)))))⟩
theorem sc__law_sheet_text : FnScope ["_law_sheet_here", "_law_row"] ["_law_sheet_here"] (defScope (top 40)) := ⟨rfl, rfl, rfl, by decide +kernel, rfl, by decide +kernel, by decide +kernel⟩
theorem ok__law_sheet_text (V : Ev K mg) : HasF P w K mg base false 3 "_law_sheet_text" 1 φ__law_sheet_text := by
  obtain ⟨fd, F⟩ := V.c.def_ 28 (d := dd "_law_sheet_text" 40) rfl
  have F : FunD K "_law_sheet_text" "_law_sheet_text" (defArgs (top 40)) (defBody (top 40)) (defScope (top 40)) [] [] (He.ga K "_law_sheet_text") fd := F
  have hM := hM_ V
  exact ⟨_, fd, ["_law_sheet_here"], g__law_sheet_text V, rfl, F.kp, F.bindsN (fun _ _ _ _ _ _ us hl => match us, hl with | [_], _ => rfl), fnB F sc__law_sheet_text fun cdv A outer s H E hr tk hp hN =>
  (dss_one (ds_ret (de_join (DE.toB de_str) (DE.toB (DF.toE (df_lc [("_law_row", 1)] rfl hN (di_any (de_var 0)) (by kernel_rfl) (fun _ => (dg_name 1 hN)) (fun _ => dts_nil) (fun _ => (de_op od_add (DE.toB (de_op od_add (DE.toB (de_call (ok__law_part_text V) hr (by decide) noTk (da_cons (de_ix (DE.toB (de_var 1)) (DE.toB de_int)) (da_cons de_str da_nil)))) (DE.toB de_str))) (DE.toB (de_call (ok__law_part_text V) hr (by decide) noTk (da_cons (de_ix (DE.toB (de_var 1)) (DE.toB de_int)) (da_cons de_str da_nil)))))) (by decide)))))))⟩
theorem sc__law_number_in : FnScope ["_law_word", "_law_most", "_law_figures", "_law_sign"] ["_law_word", "_law_most"] (defScope (top 41)) := ⟨rfl, rfl, rfl, by decide +kernel, rfl, by decide +kernel, by decide +kernel⟩
theorem ok__law_number_in (V : Ev K mg) : HasF P w K mg base false 2 "_law_number_in" 2 φ__law_number_in := by
  obtain ⟨fd, F⟩ := V.c.def_ 29 (d := dd "_law_number_in" 41) rfl
  have F : FunD K "_law_number_in" "_law_number_in" (defArgs (top 41)) (defBody (top 41)) (defScope (top 41)) [] [] (He.ga K "_law_number_in") fd := F
  have hM := hM_ V
  have b_int := f_int V
  have b_len := f_len V
  exact ⟨_, fd, ["_law_word", "_law_most"], g__law_number_in V, rfl, F.kp, F.bindsN (fun _ _ _ _ _ _ us hl => match us, hl with | [_, _], _ => rfl), fnB F sc__law_number_in fun cdv A outer s H E hr tk hp hN =>
  (dss_cons (ds_set (i := 2) hN (de_if (dt_cmp (od_eq hr.units hM) (DE.toB (de_slice (DE.toB (de_var 0)) do_none (do_some (DE.toB de_int)))) (DE.toB de_str) rfl) (de_slice (DE.toB (de_var 0)) (do_some (DE.toB de_int)) do_none) (de_var 0)))
  (dss_cons (ds_if (DW.t (dw_or (dt_cmp (od_eq hr.units hM) (DE.toB (de_var 2)) (DE.toB de_str) rfl) (dw_or (dt_cmp od_gt (DE.toB (de_callB cd_len rfl b_len (by decide +kernel) (dab_cons (DE.toB (de_var 2)) dab_nil))) (DE.toB (de_var 1)) rfl) (dw_or1 (dt_cmp (od_ne hr.units hM) (DE.toB (DF.toE (df_lc [("_law_sign", 3)] rfl hN (di_any (de_var 2)) (by kernel_rfl) (fun _ => (dg_name 3 hN)) (fun _ => (dts_one (dt_cmp (od_notIn hr.u65) (DE.toB (de_var 3)) (DE.toB de_str) rfl))) (fun _ => de_int) (by decide)))) (DE.toB (de_lst da_nil)) rfl)))))
  (dss_one (ds_ret de_non))
  dss_nil)
  (dss_cons (ds_if (DW.t (dw_and (dt_cmp (od_eq hr.units hM) (DE.toB (de_ix (DE.toB (de_var 2)) (DE.toB de_int))) (DE.toB de_str) rfl) (dw_and1 (dt_cmp (od_ne hr.units hM) (DE.toB (de_var 0)) (DE.toB de_str) rfl))))
  (dss_one (ds_ret de_non))
  dss_nil)
  (dss_one (ds_ret (de_callTy cd_int rfl b_int (by decide +kernel) (dab_cons (DE.toB (de_var 0)) dab_nil)))))))⟩
theorem sc__law_part_in : FnScope ["_law_word", "_law_other", "_law_found"] ["_law_word", "_law_other"] (defScope (top 42)) := ⟨rfl, rfl, rfl, by decide +kernel, rfl, by decide +kernel, by decide +kernel⟩
theorem ok__law_part_in (V : Ev K mg) : HasF P w K mg base false 3 "_law_part_in" 2 φ__law_part_in := by
  obtain ⟨fd, F⟩ := V.c.def_ 30 (d := dd "_law_part_in" 42) rfl
  have F : FunD K "_law_part_in" "_law_part_in" (defArgs (top 42)) (defBody (top 42)) (defScope (top 42)) [] [] (He.ga K "_law_part_in") fd := F
  have hM := hM_ V
  exact ⟨_, fd, ["_law_word", "_law_other"], g__law_part_in V, rfl, F.kp, F.bindsN (fun _ _ _ _ _ _ us hl => match us, hl with | [_, _], _ => rfl), fnB F sc__law_part_in fun cdv A outer s H E hr tk hp hN =>
  (dss_cons (ds_if (dt_cmp (od_eq hr.units hM) (DE.toB (de_var 0)) (DE.toB (de_var 1)) rfl)
  (dss_one (ds_ret (de_lst (da_cons de_non da_nil))))
  dss_nil)
  (dss_cons (ds_set (i := 2) hN (de_call (ok__law_number_in V) hr (by decide) tk (da_cons (de_var 0) (da_cons de_int da_nil))))
  (dss_one (ds_ret (de_if (dt_cmp od_is (DE.toB (de_var 2)) (DE.toB de_non) rfl) (de_lst da_nil) (de_lst (da_cons (de_var 2) da_nil)))))))⟩
theorem sc__law_text_words : FnScope ["_law_text", "_law_word"] ["_law_text"] (defScope (top 43)) := ⟨rfl, rfl, rfl, by decide +kernel, rfl, by decide +kernel, by decide +kernel⟩
theorem ok__law_text_words (V : Ev K mg) : HasF P w K mg base false 2 "_law_text_words" 1 φ__law_text_words := by
  obtain ⟨fd, F⟩ := V.c.def_ 31 (d := dd "_law_text_words" 43) rfl
  have F : FunD K "_law_text_words" "_law_text_words" (defArgs (top 43)) (defBody (top 43)) (defScope (top 43)) [] [] (He.ga K "_law_text_words") fd := F
  have hM := hM_ V
  exact ⟨_, fd, ["_law_text"], g__law_text_words V, rfl, F.kp, F.bindsN (fun _ _ _ _ _ _ us hl => match us, hl with | [_], _ => rfl), fnB F sc__law_text_words fun cdv A outer s H E hr tk hp hN =>
  (dss_one (ds_ret (DF.toE (df_lc [("_law_word", 1)] rfl hN (di_any (de_split (DE.toB (de_var 0)) (DE.toB de_str))) (by kernel_rfl) (fun _ => (dg_name 1 hN)) (fun _ => (dts_one (dt_cmp (od_ne hr.units hM) (DE.toB (de_var 1)) (DE.toB de_str) rfl))) (fun _ => (de_var 1)) (by decide)))))⟩
theorem sc__law_read_sheet : FnScope ["_law_value_here", "_law_found", "_law_number", "_law_word", "_law_parts", "_law_one", "_law_two", "_law_error"] ["_law_value_here"] (defScope (top 44)) := ⟨rfl, rfl, rfl, by decide +kernel, rfl, by decide +kernel, by decide +kernel⟩
theorem ok__law_read_sheet (V : Ev K mg) : HasF P w K mg base false 5 "_law_read_sheet" 1 φ__law_read_sheet := by
  obtain ⟨fd, F⟩ := V.c.def_ 32 (d := dd "_law_read_sheet" 44) rfl
  have F : FunD K "_law_read_sheet" "_law_read_sheet" (defArgs (top 44)) (defBody (top 44)) (defScope (top 44)) [] [] (He.ga K "_law_read_sheet") fd := F
  have hM := hM_ V
  have b_enumerate := f_enumerate V
  have b_len := f_len V
  have b_tuple := f_tuple V
  exact ⟨_, fd, ["_law_value_here"], g__law_read_sheet V, rfl, F.kp, F.bindsN (fun _ _ _ _ _ _ us hl => match us, hl with | [_], _ => rfl), fnB F sc__law_read_sheet fun cdv A outer s H E hr tk hp hN =>
  (dss_cons (ds_setF (i := 1) hN (df_disp da_nil))
  (dss_cons (ds_for hp rfl (di_enum rfl b_enumerate (de_call (ok__law_text_words V) hr (by decide) tk (da_cons (de_var 0) da_nil))) (dg_tup rfl (dgs_cons (dg_name 2 hN) (dgs_cons (dg_name 3 hN) dgs_nil)))
  (dss_cons (ds_set (i := 4) hN (de_split (DE.toB (de_var 3)) (DE.toB de_str)))
  (dss_cons (ds_set (i := 5) hN (de_if (dt_cmp (od_eq hr.units hM) (DE.toB (de_callB cd_len rfl b_len (by decide +kernel) (dab_cons (DE.toB (de_var 4)) dab_nil))) (DE.toB de_int) rfl) (de_call (ok__law_part_in V) hr (by decide) tk (da_cons (de_ix (DE.toB (de_var 4)) (DE.toB de_int)) (da_cons de_str da_nil))) (de_lst da_nil)))
  (dss_cons (ds_set (i := 6) hN (de_call (ok__law_part_in V) hr (by decide) tk (da_cons (de_ix (DE.toB (de_var 4)) (DE.toB (de_neg (DE.toB de_int)))) (da_cons de_str da_nil))))
  (dss_cons (ds_if (DW.t (dw_or (dt_cmp (od_eq hr.units hM) (DE.toB (de_var 5)) (DE.toB (de_lst da_nil)) rfl) (dw_or1 (dt_cmp (od_eq hr.units hM) (DE.toB (de_var 6)) (DE.toB (de_lst da_nil)) rfl))))
  (dss_one (ds_ret (de_lst (da_cons de_str (da_cons (de_var 2) da_nil)))))
  dss_nil)
  (dss_one (ds_app (i := 1) (de_tup (da_cons (de_ix (DE.toB (de_var 5)) (DE.toB de_int)) (da_cons (de_ix (DE.toB (de_var 6)) (DE.toB de_int)) da_nil))))))))))
  (dss_cons (ds_set (i := 7) hN (de_call (ok__law_sheet_error V) hr (by decide) tk (da_cons (de_callTy cd_tuple rfl b_tuple (by decide +kernel) (dab_cons (db_var 1) dab_nil)) da_nil)))
  (dss_one (ds_ret (de_if (dt_cmp od_is (DE.toB (de_var 7)) (DE.toB de_non) rfl) (de_lst (da_cons de_str (da_cons (de_callTy cd_tuple rfl b_tuple (by decide +kernel) (dab_cons (db_var 1) dab_nil)) da_nil))) (de_lst (da_cons de_str (da_cons (de_ix (DE.toB (de_var 7)) (DE.toB de_int)) (da_cons (de_ix (DE.toB (de_var 7)) (DE.toB de_int)) da_nil))))))))))⟩
theorem sc__law_torn : FnScope ["_law_deck_here", "_law_text", "_law_at", "_law_more", "_law_some"] ["_law_deck_here", "_law_text"] (defScope (top 45)) := ⟨rfl, rfl, rfl, by decide +kernel, rfl, by decide +kernel, by decide +kernel⟩
theorem ok__law_torn (V : Ev K mg) : HasF P w K mg base false 4 "_law_torn" 2 φ__law_torn := by
  obtain ⟨fd, F⟩ := V.c.def_ 33 (d := dd "_law_torn" 45) rfl
  have F : FunD K "_law_torn" "_law_torn" (defArgs (top 45)) (defBody (top 45)) (defScope (top 45)) [] [] (He.ga K "_law_torn") fd := F
  have hM := hM_ V
  have b_len := f_len V
  exact ⟨_, fd, ["_law_deck_here", "_law_text"], g__law_torn V, rfl, F.kp, F.bindsN (fun _ _ _ _ _ _ us hl => match us, hl with | [_, _], _ => rfl), fnB F sc__law_torn fun cdv A outer s H E hr tk hp hN =>
  (dss_cons (ds_par (i := 2) (j := 3) rfl hN (da_cons (de_call (ok__law_take V) hr (by decide) tk (da_cons (de_var 0) (da_cons (de_op od_add (DE.toB (de_callB cd_len rfl b_len (by decide +kernel) (dab_cons (DE.toB (de_var 1)) dab_nil))) (DE.toB de_int)) da_nil))) (da_cons (de_call (ok__law_pick V) hr (by decide) tk (da_cons (de_var 0) (da_cons (de_lst (da_cons de_str (da_cons de_str (da_cons de_str (da_cons de_str (da_cons de_str (da_cons de_str (da_cons de_str (da_cons de_str (da_cons de_str (da_cons de_str (da_cons de_str (da_cons de_str da_nil))))))))))))) da_nil))) da_nil)))
  (dss_tok (i := 4) hN (dek_lst (dak_tail (de_op od_add (DE.toB (de_op od_add (DE.toB (de_slice (DE.toB (de_var 1)) do_none (do_some (DE.toB (de_var 2))))) (DE.toB (de_var 3)))) (DE.toB (de_slice (DE.toB (de_var 1)) (do_some (DE.toB (de_var 2))) do_none))) (dak_tail (de_op od_add (DE.toB (de_op od_add (DE.toB (de_slice (DE.toB (de_var 1)) do_none (do_some (DE.toB (de_var 2))))) (DE.toB (de_var 3)))) (DE.toB (de_slice (DE.toB (de_var 1)) (do_some (DE.toB (de_op od_add (DE.toB (de_var 2)) (DE.toB de_int)))) do_none))) (dak_tail (de_slice (DE.toB (de_var 1)) do_none (do_some (DE.toB (de_var 2)))) (dak_head (dek_op od_add (DE.toB (de_var 1)) dek_str) (da_cons (de_op od_add (DE.toB de_str) (DE.toB (de_var 1))) (da_cons (de_slice (DE.toB (de_var 1)) (do_some (DE.toB (de_var 2))) do_none) da_nil)))))))
  (dsst_ret (det_call (ok__law_pick V) hr (by decide) tk (dat_cons (det_of (de_var 0)) (dat_cons (det_op od_add (dbt_of (DE.toB (de_var 4))) (DET.toB (det_lst (dat_cons (det_repl (DE.toB (de_var 1))) (dat_cons (det_of (de_op od_add (DE.toB (de_var 1)) (DE.toB de_str))) (dat_cons (det_of (de_upper (DE.toB (de_var 1)))) (dat_cons (det_of (de_op od_add (DE.toB (de_var 1)) (DE.toB de_str))) (dat_cons (det_repl (DE.toB (de_var 1))) (dat_cons (det_of (de_op od_add (DE.toB (de_var 1)) (DE.toB de_str))) dat_nil))))))))) dat_nil))))))⟩
theorem sc__law_read : FnScope ["_law_value_here", "_law_error"] ["_law_value_here"] (defScope (top 46)) := ⟨rfl, rfl, rfl, by decide +kernel, rfl, by decide +kernel, by decide +kernel⟩
theorem ok__law_read (V : Ev K mg) : HasF P w K mg base false 7 "_law_read" 1 φ__law_read := by
  obtain ⟨fd, F⟩ := V.c.def_ 34 (d := dd "_law_read" 46) rfl
  have F : FunD K "_law_read" "_law_read" (defArgs (top 46)) (defBody (top 46)) (defScope (top 46)) [] [] (He.ga K "_law_read") fd := F
  have hM := hM_ V
  have b_isinstance := f_isinstance V
  have g_BadSheet := g_BadSheet V
  have g_BadText := g_BadText V
  have g_FrameError := g_FrameError V
  exact ⟨_, fd, ["_law_value_here"], g__law_read V, rfl, F.kp, F.bindsN (fun _ _ _ _ _ _ us hl => match us, hl with | [_], _ => rfl), fnB F sc__law_read fun cdv A outer s H E hr tk hp hN =>
  (dss_one (ds_tryAs (i := 1) rfl rfl hN ⟨rfl, by decide, .inl g_FrameError⟩ tk (exm_BadSheet_BadText__FrameError V) (fun W pn xe t1 t2 => (dss_one (ds_ret (de_lst (da_cons de_str (da_cons (de_call (ok_read_sheet V) hr (by decide) t1 (da_cons (de_var 0) da_nil)) da_nil))))))
  (fun a oe cls d pn hz hf => (dss_cons (ds_if (dt_val (DE.toB (de_isEx hz hf (kit_BadSheet_BadText__BadText V) rfl (Or.inl rfl) (by decide) (by decide) rfl b_isinstance (pe_glob (v := .ref (He.ga K "BadText")) rfl g_BadText rfl) (fun _ h => h))))
  (dss_one (ds_ret (de_lst (da_cons de_str (da_cons (de_xf hz hf (fld_number_BadSheet_BadText V) rfl (Or.inl rfl) (by decide) (by decide)) da_nil)))))
  dss_nil)
  (dss_one (ds_ret (de_if (dt_val (DE.toB (de_isEx hz hf (kit_BadSheet_BadText__BadSheet V) rfl (Or.inl rfl) (by decide) (by decide) rfl b_isinstance (pe_glob (v := .ref (He.ga K "BadSheet")) rfl g_BadSheet rfl) (fun _ h => h)))) (de_lst (da_cons de_str (da_cons (de_xf hz hf (fld_number_BadSheet_BadText V) rfl (Or.inl rfl) (by decide) (by decide)) (da_cons (de_xf hz hf (fld_word_BadSheet V) rfl (Or.inl rfl) (by decide) (by decide)) da_nil)))) (de_lst (da_cons de_str da_nil)))))))))⟩
theorem sc_law : FnScope ["_law_script", "_law_deck_here", "_law_turn", "_law_sheet_here", "_law_text", "_law_wide", "_law_some", "_law_far", "_law_value_here", "_law_due"] ["_law_script"] (defScope (top 47)) := ⟨rfl, rfl, rfl, by decide +kernel, rfl, by decide +kernel, by decide +kernel⟩
theorem law_ok (V : Ev K mg) (cdv : Value) (outer : List Env) (s : Shared) (H : Hp) (E : XK) (hr : Room 7 (callerA.deeper (envOfC "law" (defScope (top 47)) s.heap.objs.size (He.ga K "law") cdv))) :
    DSs (bodyX P w K mg base ["_law_script", "_law_deck_here", "_law_turn", "_law_sheet_here", "_law_text", "_law_wide", "_law_some", "_law_far", "_law_value_here", "_law_due"] "law" (defScope (top 47)) (He.ga K "law") cdv callerA outer s H E) false ⟨fun cls d _ H => E cls d H, none⟩ (defBody (top 47)) d_law := by
  have hM := hM_ V
  have b_isinstance := f_isinstance V
  have b_len := f_len V
  have b_range := f_range V
  have b_repr := f_repr V
  have b_str := f_str V
  have hr : Room 7 (bodyX P w K mg base ["_law_script", "_law_deck_here", "_law_turn", "_law_sheet_here", "_law_text", "_law_wide", "_law_some", "_law_far", "_law_value_here", "_law_due"] "law" (defScope (top 47)) (He.ga K "law") cdv callerA outer s H E).A := hr
  have hN : (bodyX P w K mg base ["_law_script", "_law_deck_here", "_law_turn", "_law_sheet_here", "_law_text", "_law_wide", "_law_some", "_law_far", "_law_value_here", "_law_due"] "law" (defScope (top 47)) (He.ga K "law") cdv callerA outer s H E).N.Nodup := sc_law.nd
  have tk := bodyTk (P := P) (w := w) (K := K) (mg := mg) (base := base) (N := ["_law_script", "_law_deck_here", "_law_turn", "_law_sheet_here", "_law_text", "_law_wide", "_law_some", "_law_far", "_law_value_here", "_law_due"]) (qual := "law") (scope := defScope (top 47)) (fn := He.ga K "law") (cd := cdv) (A := callerA) (outer := outer) (s := s) (H := H) (E := E)
  have hp := bodyHp (P := P) (w := w) (K := K) (mg := mg) (base := base) (N := ["_law_script", "_law_deck_here", "_law_turn", "_law_sheet_here", "_law_text", "_law_wide", "_law_some", "_law_far", "_law_value_here", "_law_due"]) (qual := "law") (scope := defScope (top 47)) (fn := He.ga K "law") (cd := cdv) (A := callerA) (outer := outer) (s := s) (H := H) (E := E)
  exact (dss_cons (ds_set (i := 1) hN (de_call (ok__law_deck V) hr (by decide) tk (da_cons (de_var 0) da_nil)))
  (dss_cons (ds_for hp rfl (di_range1 rfl b_range (dab_cons (DE.toB de_int) dab_nil)) (dg_name 2 hN)
  (dss_cons (ds_set (i := 3) hN (de_call (ok__law_sheet V) hr (by decide) tk (da_cons (de_var 1) (da_cons (de_call (ok__law_pick V) hr (by decide) tk (da_cons (de_var 1) (da_cons (de_lst (da_cons de_int (da_cons de_int (da_cons de_int da_nil)))) da_nil))) da_nil))))
  (dss_cons (ds_set (i := 4) hN (de_call (ok__law_sheet_text V) hr (by decide) tk (da_cons (de_var 3) da_nil)))
  (dss_cons (ds_if (dt_cmp (od_ne hr.units hM) (DE.toB (de_callB (cd_repr rfl hr.units hM) rfl b_repr (by decide +kernel) (dab_cons (DE.toB (de_lst (da_cons (de_call (ok_sheet_text V) hr (by decide) tk (da_cons (de_var 3) da_nil)) (da_cons (de_call (ok_sheet_text V) hr (by decide) tk (da_cons (de_var 3) da_nil)) da_nil)))) dab_nil))) (DE.toB (de_callB (cd_repr rfl hr.units hM) rfl b_repr (by decide +kernel) (dab_cons (DE.toB (de_lst (da_cons (de_var 4) (da_cons (de_var 4) da_nil)))) dab_nil))) rfl)
  (dss_one (ds_ret de_bl))
  dss_nil)
  (dss_cons (ds_if (dt_cmp od_gt (DE.toB (de_callB cd_len rfl b_len (by decide +kernel) (dab_cons (DE.toB (de_var 4)) dab_nil))) (DE.toB de_int) rfl)
  (dss_cons (ds_if (dt_cmp (od_ne hr.units hM) (DE.toB (de_callB (cd_repr rfl hr.units hM) rfl b_repr (by decide +kernel) (dab_cons (DE.toB (de_call (ok_read_sheet V) hr (by decide) tk (da_cons (de_var 4) da_nil))) dab_nil))) (DE.toB (de_callB (cd_repr rfl hr.units hM) rfl b_repr (by decide +kernel) (dab_cons (DE.toB (de_var 3)) dab_nil))) rfl)
  (dss_one (ds_ret de_bl))
  dss_nil)
  (dss_one (ds_set (i := 4) hN (de_join (DE.toB de_str) (DE.toB (de_slice (DE.toB (de_split (DE.toB (de_var 4)) (DE.toB de_str))) do_none (do_some (DE.toB de_int))))))))
  dss_nil)
  (dss_cons (ds_set (i := 5) hN (de_op od_add (DE.toB (de_opK od_add dek_str (DET.toB (det_repl (DE.toB (de_var 4)))))) (DE.toB de_str)))
  (dss_cons (ds_set (i := 6) hN (de_lst (da_cons (de_var 4) (da_cons (de_var 5) (da_cons (de_call (ok__law_torn V) hr (by decide) tk (da_cons (de_var 1) (da_cons (de_var 4) da_nil))) (da_cons (de_call (ok__law_torn V) hr (by decide) tk (da_cons (de_var 1) (da_cons (de_call (ok__law_torn V) hr (by decide) tk (da_cons (de_var 1) (da_cons (de_var 4) da_nil))) da_nil))) (da_cons (de_op od_add (DE.toB (de_var 4)) (DE.toB de_str)) (da_cons (de_op od_add (DE.toB de_str) (DE.toB (de_var 4))) (da_cons (de_op od_add (DE.toB (de_var 4)) (DE.toB de_str)) da_nil)))))))))
  (dss_cons (ds_set (i := 7) hN (de_lst (da_cons (de_op od_add (DE.toB (de_op od_add (DE.toB de_str) (DE.toB (de_op od_mul (DE.toB de_str) (DE.toB de_int))))) (DE.toB de_str)) (da_cons (de_op od_add (DE.toB (de_op od_add (DE.toB de_str) (DE.toB (de_op od_mul (DE.toB de_str) (DE.toB de_int))))) (DE.toB de_str)) (da_cons (de_op od_add (DE.toB de_str) (DE.toB (de_op od_mul (DE.toB de_str) (DE.toB de_int)))) (da_cons (de_op od_add (DE.toB de_str) (DE.toB (de_op od_mul (DE.toB de_str) (DE.toB de_int)))) (da_cons (de_op od_add (DE.toB de_str) (DE.toB (de_op od_mul (DE.toB de_str) (DE.toB de_int)))) (da_cons de_str (da_cons de_str (da_cons de_str da_nil))))))))))
  (dss_cons (ds_for hp rfl (di_any (de_op od_add (DE.toB (de_op od_add (DE.toB (de_var 6)) (DE.toB (de_var 7)))) (DE.toB (de_lst (da_cons de_str (da_cons de_str (da_cons de_str (da_cons de_str (da_cons de_str (da_cons de_str (da_cons de_str (da_cons de_str (da_cons (de_join (DE.toB de_str) (DE.toB (de_op od_mul (DE.toB (de_lst (da_cons de_str da_nil))) (DE.toB de_int)))) (da_cons (de_join (DE.toB de_str) (DE.toB (de_op od_mul (DE.toB (de_lst (da_cons de_str da_nil))) (DE.toB de_int)))) (da_cons de_str da_nil))))))))))))))) (dg_name 8 hN)
  (dss_cons (ds_set (i := 9) hN (de_call (ok__law_read_sheet V) hr (by decide) tk (da_cons (de_var 8) da_nil)))
  (dss_one (ds_if (dt_cmp (od_ne hr.units hM) (DE.toB (de_callB (cd_repr rfl hr.units hM) rfl b_repr (by decide +kernel) (dab_cons (DE.toB (de_lst (da_cons (de_call (ok__law_read V) hr (by decide) tk (da_cons (de_var 8) da_nil)) (da_cons (de_call (ok__law_read V) hr (by decide) tk (da_cons (de_var 8) da_nil)) da_nil)))) dab_nil))) (DE.toB (de_callB (cd_repr rfl hr.units hM) rfl b_repr (by decide +kernel) (dab_cons (DE.toB (de_lst (da_cons (de_var 9) (da_cons (de_var 9) da_nil)))) dab_nil))) rfl)
  (dss_one (ds_ret de_bl))
  dss_nil))))
  (dss_one (ds_for hp rfl (di_any (de_lst (da_cons de_non (da_cons de_int (da_cons (de_var 3) (da_cons (de_lst (da_cons (de_var 4) da_nil)) (da_cons (de_call (ok__law_odd_thing V) hr (by decide) tk (da_cons (de_var 1) da_nil)) da_nil))))))) (dg_name 8 hN)
  (dss_one (ds_if (DW.t (dw_and (dt_not (dt_val (DE.toB (de_isi (C := "str") (DE.toB (de_var 8)) (by decide +kernel) rfl b_isinstance rfl b_str (by decide +kernel))))) (dw_and1 (dt_cmp (od_ne hr.units hM) (DE.toB (de_callB (cd_repr rfl hr.units hM) rfl b_repr (by decide +kernel) (dab_cons (DE.toB (de_call (ok__law_read V) hr (by decide) tk (da_cons (de_var 8) da_nil))) dab_nil))) (DE.toB (de_callB (cd_repr rfl hr.units hM) rfl b_repr (by decide +kernel) (dab_cons (DE.toB (de_lst (da_cons de_str (da_cons de_non da_nil)))) dab_nil))) rfl))))
  (dss_one (ds_ret de_bl))
  dss_nil)))))))))))))
  (dss_one (ds_ret de_bl))))
end
end K67

end
set_option maxHeartbeats 4000000
section
namespace Dn
open PySem PySem.Spec L2
open PyProof.Rows hiding St

/-! ### what computes: total, for a wish; E: what is wished of an error -/
abbrev XM := Exn → CS → Prop
abbrev XS := Exn → DEnv → CS → Prop
abbrev noE : XM := fun _ _ => False
abbrev noES : XS := fun _ _ _ => False
def wpM {α : Type} (m : M α) (Q : α → CS → Prop) (E : XM) (cs : CS) : Prop := match m cs with
  | .ok a cs' => Q a cs'
  | .err e cs' => E e cs'
  | .bad => False
theorem wpM_ok {α : Type} {m : M α} {Q : α → CS → Prop} {E : XM} {cs cs' : CS} {a : α} (h : m cs = .ok a cs') : wpM m Q E cs = Q a cs' := by
  unfold wpM
  rw [h]
theorem wpM_err {α : Type} {m : M α} {Q : α → CS → Prop} {E : XM} {cs cs' : CS} {e : Exn} (h : m cs = .err e cs') : wpM m Q E cs = E e cs' := by
  unfold wpM
  rw [h]
theorem wpM_run_ok {α : Type} {m : M α} {Q : α → CS → Prop} {cs : CS} (h : wpM m Q noE cs) : ∃ a cs', m cs = .ok a cs' ∧ Q a cs' := by
  unfold wpM at h
  cases e : m cs with
  | ok a cs' => rw [e] at h; exact ⟨a, cs', rfl, h⟩
  | err _ _ => rw [e] at h; exact h.elim
  | bad => rw [e] at h; exact h.elim
theorem wpM_eq {α : Type} {m : M α} {a : α} {cs cs' : CS} (h : wpM m (fun b c => b = a ∧ c = cs') noE cs) : m cs = .ok a cs' := by
  obtain ⟨_, _, e, rfl, rfl⟩ := wpM_run_ok h
  exact e
theorem wpM_mono {α : Type} {m : M α} {Q R : α → CS → Prop} {E F : XM} {cs : CS} (h : wpM m Q E cs) (k : ∀ a cs, Q a cs → R a cs) (l : ∀ e cs, E e cs → F e cs) : wpM m R F cs := by
  unfold wpM at h ⊢
  cases e : m cs with
  | ok a cs' => rw [e] at h; exact k _ _ h
  | err _ _ => rw [e] at h; exact l _ _ h
  | bad => rw [e] at h; exact h.elim
theorem wpM_monoQ {α : Type} {m : M α} {Q R : α → CS → Prop} {E : XM} {cs : CS} (h : wpM m Q E cs) (k : ∀ a cs, Q a cs → R a cs) : wpM m R E cs := wpM_mono h k fun _ _ z => z
theorem wpM_noE {α : Type} {m : M α} {Q R : α → CS → Prop} {E : XM} {cs : CS} (h : wpM m Q noE cs) (k : ∀ a cs, Q a cs → R a cs) : wpM m R E cs := wpM_mono h k fun _ _ z => z.elim
theorem wpM_bind {α β : Type} {m : M α} {f : α → M β} {Q : β → CS → Prop} {E : XM} {cs : CS} : wpM (m >>= f) Q E cs = wpM m (fun a => wpM (f a) Q E) E cs := by
  unfold wpM
  rw [M.bind_run]
  cases m cs <;> rfl
theorem wpM_pure {α : Type} {a : α} {Q : α → CS → Prop} {E : XM} {cs : CS} : wpM (pure a) Q E cs = Q a cs := rfl
theorem wpM_iff {α : Type} {m m' : M α} {Q : α → CS → Prop} {E : XM} {cs : CS} (h : m cs = m' cs) : wpM m Q E cs = wpM m' Q E cs := by
  unfold wpM
  rw [h]
/-- statements -/
def wpS (f : SD) (Q : Fl → DEnv → CS → Prop) (E : XS) (env : DEnv) (cs : CS) : Prop := match f env cs with
  | .ok fl env' cs' => Q fl env' cs'
  | .err e env' cs' => E e env' cs'
  | .bad => False
theorem wpS_ok {f : SD} {Q : Fl → DEnv → CS → Prop} {E : XS} {env env' : DEnv} {cs cs' : CS} {fl : Fl} (h : f env cs = .ok fl env' cs') : wpS f Q E env cs = Q fl env' cs' := by
  unfold wpS
  rw [h]
theorem wpS_mono {f : SD} {Q R : Fl → DEnv → CS → Prop} {E F : XS} {env : DEnv} {cs : CS} (h : wpS f Q E env cs) (k : ∀ fl env cs, Q fl env cs → R fl env cs) (l : ∀ e env cs, E e env cs → F e env cs) : wpS f R F env cs := by
  unfold wpS at h ⊢
  cases e : f env cs with
  | ok fl env' cs' => rw [e] at h; exact k _ _ _ h
  | err _ _ _ => rw [e] at h; exact l _ _ _ h
  | bad => rw [e] at h; exact h.elim
/-- behind a statement: on, or out -/
def onS (k : SD) (Q : Fl → DEnv → CS → Prop) (E : XS) : Fl → DEnv → CS → Prop := fun fl env cs => match fl with
  | .nx => wpS k Q E env cs
  | fl => Q fl env cs
section
variable {Q : Fl → DEnv → CS → Prop} {E : XS} {env : DEnv} {cs : CS} {f k : SD}
theorem wpS_seq : wpS (seqS f k) Q E env cs = wpS f (onS k Q E) E env cs := by
  unfold wpS onS seqS
  cases f env cs with
  | ok fl env' cs' => cases fl <;> rfl
  | _ => rfl
theorem onS_nx : onS k Q E .nx env cs = wpS k Q E env cs := rfl
theorem onS_rt {d : D} : onS k Q E (.rt d) env cs = Q (.rt d) env cs := rfl
theorem onS_bk : onS k Q E .bk env cs = Q .bk env cs := rfl
theorem onS_ct : onS k Q E .ct env cs = Q .ct env cs := rfl
theorem wpS_then {α : Type} {m : M α} {k : α → SD} : wpS (fun env => thenS m env k) Q E env cs = wpM m (fun a => wpS (k a) Q E env) (fun e => E e env) cs := by
  unfold wpS wpM thenS
  simp only
  cases m cs <;> rfl
theorem wpS_skip : wpS skipS Q E env cs = Q .nx env cs := rfl
theorem wpS_if {t : DEnv → M Bool} : wpS (ifS t f k) Q E env cs = wpM (t env) (fun b => if b then wpS f Q E env else wpS k Q E env) (fun e => E e env) cs := by
  unfold ifS wpS wpM thenS
  cases h : t env cs with
  | ok b cs' => simp only [h]; cases b <;> rfl
  | err _ _ => simp only [h]
  | bad => simp only [h]
theorem wpS_set {i : Nat} {f : DEnv → M D} : wpS (setS i f) Q E env cs = wpM (f env) (fun d => Q .nx (env.set i (some (.sh d)))) (fun e => E e env) cs := by
  unfold wpS wpM setS thenS
  cases f env cs <;> rfl
theorem wpS_setF {i : Nat} {f : DEnv → M (List D)} : wpS (setF i f) Q E env cs = wpM (f env) (fun d => Q .nx (env.set i (some (.own d)))) (fun e => E e env) cs := by
  unfold wpS wpM setF thenS
  cases f env cs <;> rfl
theorem wpS_ret {f : DEnv → M D} : wpS (retS f) Q E env cs = wpM (f env) (fun d => Q (.rt d) env) (fun e => E e env) cs := by
  unfold wpS wpM retS thenS
  cases f env cs <;> rfl
theorem wpS_expr {f : DEnv → M D} : wpS (exprS f) Q E env cs = wpM (f env) (fun d => Q .nx env) (fun e => E e env) cs := by
  unfold wpS wpM exprS thenS
  cases f env cs <;> rfl
theorem wpS_asg {f : DEnv → M D} {b : Bnd} : wpS (asgS f b) Q E env cs = wpM (f env) (fun d cs => match b d env with | some env' => Q .nx env' cs | none => False) (fun e => E e env) cs := by
  unfold wpS wpM asgS thenS
  cases f env cs with
  | ok d cs' =>
    simp only
    cases b d env <;> rfl
  | _ => rfl
theorem wpS_par {i j : Nat} {f : DEnv → M (List D)} : wpS (parS i j f) Q E env cs = wpM (f env) (fun ds cs => match ds with | [u, v] => Q .nx ((env.set i (some (.sh u))).set j (some (.sh v))) cs | _ => False) (fun e => E e env) cs := by
  unfold wpS wpM parS thenS
  cases f env cs with
  | ok ds cs' =>
    match ds with
    | [] => rfl
    | [a] => rfl
    | [a, b] => rfl
    | a :: b :: c :: r => rfl
  | _ => rfl
theorem wpS_for {it : DEnv → M (List D)} {b : Bnd} {body : SD} : wpS (forS it b body) Q E env cs = wpM (it env) (fun xs => wpS (loopS b body xs) Q E env) (fun e => E e env) cs := by
  unfold wpS wpM forS thenS
  cases it env cs <;> rfl
theorem wpS_app {i : Nat} {f : DEnv → M D} {xs : List D} (h : env[i]? = some (some (.own xs))) : wpS (appS i f) Q E env cs = wpM (f env) (fun d cs => xs.length < sizeLine ∧ Q .nx (env.set i (some (.own (xs ++ [d])))) cs) (fun e => E e env) cs := by
  unfold wpS wpM appS thenS
  rw [h]
  simp only
  cases f env cs with
  | ok d cs' =>
    by_cases hl : xs.length < sizeLine
    · dsimp only; rw [if_pos hl]; simp only [hl, true_and]
    · dsimp only; rw [if_neg hl]; simp only [hl, false_and]
  | _ => rfl
theorem wpS_frz {i : Nat} {xs : List D} (h : env[i]? = some (some (.own xs))) : wpS (frzS i) Q E env cs = Q .nx (env.set i (some (.sh (.lst xs)))) cs := by
  unfold wpS frzS
  rw [h]
theorem wpS_raise {nm : Str} {fl : List Str} {f : DEnv → M (List D)} : wpS (raiseS nm fl f) Q E env cs = wpM (f env) (fun ds cs => ds.length = fl.length ∧ E ⟨nm, fl, ds.reverse⟩ env cs) (fun e => E e env) cs := by
  unfold wpS wpM raiseS thenS
  cases f env cs with
  | ok ds cs' =>
    by_cases hl : ds.length = fl.length
    · dsimp only; rw [if_pos hl]; simp only [hl, true_and]
    · dsimp only; rw [if_neg hl]; simp only [hl, false_and]
  | _ => rfl
/-- behind an except suite -/
def leaveW (i : Nat) (Q : Fl → DEnv → CS → Prop) : Fl → DEnv → CS → Prop := fun fl env cs => match fl with
  | .rt d => Q (.rt d) env cs
  | fl => Q fl ((dropX env).set i none) cs
theorem wpS_try {body suite : SD} {tab : List (Str × Bool)} {i : Nat} : wpS (tryS body tab i suite) Q E env cs = wpS body Q (fun e env1 cs1 => match tab.lookup e.cls with
    | some true => wpS suite (leaveW i Q) noES ((dropX env1).set i (some (.exc e))) cs1
    | some false => E e env1 cs1
    | none => False) env cs := by
  unfold wpS tryS
  cases body env cs with
  | ok fl env' cs' => rfl
  | bad => rfl
  | err e env1 cs1 =>
    simp only
    cases tab.lookup e.cls with
    | none => rfl
    | some b =>
      cases b with
      | false => rfl
      | true =>
        simp only
        cases suite ((dropX env1).set i (some (.exc e))) cs1 with
        | ok fl env' cs' => cases fl <;> rfl
        | _ => rfl
/-- a loop by an invariant -/
def turnW (P : DEnv → CS → Prop) (Q : Fl → DEnv → CS → Prop) : Fl → DEnv → CS → Prop := fun fl env cs => match fl with
  | .nx => P env cs
  | .ct => P env cs
  | .bk => Q .nx env cs
  | .rt d => Q (.rt d) env cs
theorem wpS_loop {b : Bnd} {body : SD} (Pv : List D → DEnv → CS → Prop)
    (hs : ∀ x xs env cs, Pv (x :: xs) env cs → ∃ env1, b x env = some env1 ∧ wpS body (turnW (Pv xs) Q) E env1 cs)
    (hd : ∀ env cs, Pv [] env cs → Q .nx env cs) : ∀ (xs : List D) (env : DEnv) (cs : CS), Pv xs env cs → wpS (loopS b body xs) Q E env cs
  | [], env, cs, h => hd env cs h
  | x :: xs, env, cs, h => by
    obtain ⟨env1, e, w⟩ := hs x xs env cs h
    have ih := wpS_loop Pv hs hd xs
    unfold wpS at w ih ⊢
    unfold loopS
    simp only [e]
    cases hb : body env1 cs with
    | err _ _ _ => rw [hb] at w; exact w
    | bad => rw [hb] at w; exact w
    | ok fl env' cs' =>
      rw [hb] at w
      cases fl with
      | nx => exact ih env' cs' w
      | ct => exact ih env' cs' w
      | bk => exact w
      | rt d => exact w
end
/-- a def called -/
def outR (Q : D → CS → Prop) : Fl → DEnv → CS → Prop := fun fl _ cs => match fl with
  | .nx => Q .non cs
  | .rt d => Q d cs
  | _ => False
def envOf (n : Nat) (ds : List D) : DEnv := ds.map (fun d => some (.sh d)) ++ List.replicate (n - ds.length) none
section
variable {Q : D → CS → Prop} {E : XM} {cs : CS} {env : DEnv}
theorem wpM_run {n np : Nat} {body : SD} {ds : List D} (h : ds.length = np) : wpM (runD n np body ds) Q E cs = wpS body (outR Q) (fun e _ => E e) (envOf n ds) cs := by
  unfold wpM wpS runD envOf
  rw [if_pos h]
  cases body (ds.map (fun d => some (.sh d)) ++ List.replicate (n - ds.length) none) cs with
  | ok fl env' cs' => cases fl <;> rfl
  | _ => rfl
theorem wpM_callM {np : Nat} {φ : List D → M D} {ds : List D} (h : ds.length = np) : wpM (callM np φ ds) Q E cs = wpM (φ ds) Q E cs := by
  unfold callM
  rw [if_pos h]
/-! ### what the small things do -/
theorem wpM_op2 {fD : D → D → M D} {fa fb : DEnv → M D} : wpM (op2 fD fa fb env) Q E cs = wpM (fa env) (fun x => wpM (fb env) (fun y => wpM (fD x y) Q E) E) E cs := by
  unfold op2
  rw [wpM_bind]
  congr 1
  funext x cs
  exact wpM_bind
theorem wpM_consA {fa : DEnv → M D} {fr : DEnv → M (List D)} {Q : List D → CS → Prop} : wpM (consA fa fr env) Q E cs = wpM (fa env) (fun d => wpM (fr env) (fun ds => Q (d :: ds)) E) E cs := by
  unfold consA
  rw [wpM_bind]
  congr 1
  funext x cs
  exact wpM_bind
theorem wpM_tst {f : DEnv → M D} {Q : Bool → CS → Prop} : wpM (tst f env) Q E cs = wpM (f env) (fun d => wpM (isB d) Q E) E cs := wpM_bind
theorem wpM_nott {f : DEnv → M Bool} {Q : Bool → CS → Prop} : wpM (nott f env) Q E cs = wpM (f env) (fun k => Q (!k)) E cs := wpM_bind
theorem wpM_andM {x y : DEnv → M Bool} {Q : Bool → CS → Prop} : wpM (andM x y env) Q E cs = wpM (x env) (fun k => if k then wpM (y env) Q E else Q false) E cs := by
  unfold andM
  rw [wpM_bind]
  congr 1
  funext k
  cases k <;> rfl
theorem wpM_orM {x y : DEnv → M Bool} {Q : Bool → CS → Prop} : wpM (orM x y env) Q E cs = wpM (x env) (fun k => if k then Q true else wpM (y env) Q E) E cs := by
  unfold orM
  rw [wpM_bind]
  congr 1
  funext k
  cases k <;> rfl
theorem wpM_andV {x y : DEnv → M D} : wpM (andV x y env) Q E cs = wpM (x env) (fun d => wpM (isB d) (fun k => if k then wpM (y env) Q E else Q (.bl false)) E) E cs := by
  unfold andV
  rw [wpM_bind]
  congr 1
  funext d cs
  rw [wpM_bind]
  congr 1
  funext k
  cases k <;> rfl
theorem wpM_orV {x y : DEnv → M D} : wpM (orV x y env) Q E cs = wpM (x env) (fun d => wpM (isB d) (fun k => if k then Q (.bl true) else wpM (y env) Q E) E) E cs := by
  unfold orV
  rw [wpM_bind]
  congr 1
  funext d cs
  rw [wpM_bind]
  congr 1
  funext k
  cases k <;> rfl
theorem wpM_ifM {t : DEnv → M Bool} {x y : DEnv → M D} : wpM (ifM t x y env) Q E cs = wpM (t env) (fun k => if k then wpM (x env) Q E else wpM (y env) Q E) E cs := by
  unfold ifM
  rw [wpM_bind]
  congr 1
  funext k
  cases k <;> rfl
theorem wpM_chain {f g : D → D → M D} {a b c : DEnv → M D} : wpM (chain3 f g a b c env) Q E cs = wpM (a env) (fun x => wpM (b env) (fun y => wpM (f x y) (fun d => wpM (isB d) (fun k => if k then wpM (c env) (fun z => wpM (g y z) Q E) E else Q (.bl false)) E) E) E) E cs := by
  unfold chain3
  rw [wpM_bind]
  congr 1
  funext x cs
  rw [wpM_bind]
  congr 1
  funext y cs
  rw [wpM_bind, wpM_bind]
  congr 1
  funext d cs
  congr 1
  funext k cs
  cases k with
  | true => exact wpM_bind
  | false => rfl
theorem wpM_isB {b : Bool} {Q : Bool → CS → Prop} : wpM (isB (.bl b)) Q E cs = Q b cs := rfl
theorem wpM_arg1 {f : D → M D} {d : D} : wpM (arg1 f [d]) Q E cs = wpM (f d) Q E cs := rfl
theorem wpM_arg2 {f : D → D → M D} {d e : D} : wpM (arg2 f [d, e]) Q E cs = wpM (f d e) Q E cs := rfl
theorem wpM_cut {fa : DEnv → M D} {fl fh : DEnv → M (Option Int)} : wpM (cutM fa fl fh env) Q E cs = wpM (fa env) (fun x => wpM (fl env) (fun l => wpM (fh env) (fun h => wpM (slD x l h) Q E) E) E) E cs := by
  unfold cutM
  rw [wpM_bind]
  congr 1
  funext x cs
  rw [wpM_bind]
  congr 1
  funext l cs
  exact wpM_bind
theorem wpM_strOp {fD : Str → D → M D} {fo fa : DEnv → M D} : wpM (strOp fD fo fa env) Q E cs = wpM (fo env) (fun d => wpM (strOnly d) (fun x => wpM (fa env) (fun y => wpM (fD x y) Q E) E) E) E cs := by
  unfold strOp
  rw [wpM_bind]
  congr 1
  funext x cs
  rw [wpM_bind]
  congr 1
  funext l cs
  exact wpM_bind
theorem wpM_strOnly {x : Str} {Q : Str → CS → Prop} : wpM (strOnly (.str x)) Q E cs = Q x cs := rfl
theorem wpM_someI {i : Int} {Q : Option Int → CS → Prop} : wpM (someI (.int i)) Q E cs = Q (some i) cs := rfl
theorem wpM_lstM {f : DEnv → M (List D)} : wpM (lstM f env) Q E cs = wpM (f env) (fun xs => Q (.lst xs)) E cs := wpM_bind
theorem wpM_enumM {f : DEnv → M D} {Q : List D → CS → Prop} : wpM (enumM f env) Q E cs = wpM (f env) (fun d => wpM (seqD d) (fun xs => Q (enumL 0 xs)) E) E cs := by
  unfold enumM
  rw [wpM_bind]
  congr 1
  funext x cs
  exact wpM_bind
theorem wpM_comp {vs : List Nat} {it : DEnv → M (List D)} {b : Bnd} {t : DEnv → M Bool} {el : DEnv → M D} {Q : List D → CS → Prop} : wpM (compF vs it b t el env) Q E cs = wpM (it env) (fun xs => wpM (compL b t el (wipeD env vs) xs) (fun ys => wpM (fewL ys) Q E) E) E cs := by
  unfold compF
  rw [wpM_bind]
  congr 1
  funext xs cs
  exact wpM_bind
theorem wpM_calm {α : Type} {m : M α} {Q : α → CS → Prop} {E : XM} {cs : CS} : wpM (calm m) Q E cs = wpM m Q noE cs := by
  unfold wpM calm
  cases m cs <;> rfl
theorem wpM_ite {α : Type} {c : Prop} [Decidable c] {m n : M α} {Q : α → CS → Prop} {E : XM} {cs : CS} : wpM (if c then m else n) Q E cs = if c then wpM m Q E cs else wpM n Q E cs := by
  split <;> rfl
theorem wpM_bad {α : Type} {Q : α → CS → Prop} {E : XM} {cs : CS} : wpM (bad : M α) Q E cs = False := rfl
/-- a comprehension: each turn tells a value, or none -/
theorem wpM_compL {b : Bnd} {t : DEnv → M Bool} {el : DEnv → M D} {env : DEnv} {E : XM} (Pv : List D → List D → CS → Prop)
    (hs : ∀ x xs acc cs, Pv (x :: xs) acc cs → ∃ env1, b x env = some env1 ∧ wpM (t env1) (fun k cs => if k then wpM (el env1) (fun y => Pv xs (acc ++ [y])) noE cs else Pv xs acc cs) noE cs) :
    ∀ (xs acc : List D) (cs : CS) (Q : List D → CS → Prop), Pv xs acc cs → (∀ ys cs, Pv [] (acc ++ ys) cs → Q ys cs) → wpM (compL b t el env xs) Q E cs
  | [], acc, cs, Q, h, k => k [] cs (by rw [List.append_nil]; exact h)
  | x :: xs, acc, cs, Q, h, k => by
    obtain ⟨env1, e, w⟩ := hs x xs acc cs h
    unfold compL
    simp only [e]
    rw [wpM_bind, wpM_calm]
    refine wpM_monoQ w fun b cs w => ?_
    cases b with
    | false => exact wpM_compL Pv hs xs acc cs Q w k
    | true =>
      simp only [if_true] at w ⊢
      rw [wpM_bind, wpM_calm]
      refine wpM_monoQ w fun y cs w => ?_
      rw [wpM_bind]
      refine wpM_compL Pv hs xs (acc ++ [y]) cs _ w fun ys cs p => ?_
      exact k (y :: ys) cs (by rw [List.append_assoc] at p; exact p)
end
end Dn

end
set_option maxHeartbeats 4000000
section
namespace Dn
open PySem PySem.Spec L2
open PyProof.Rows hiding St
section
variable {Q : D → CS → Prop} {E : XM} {cs : CS} {env : DEnv}
theorem ite_ap {α : Sort _} {β : Sort _} {c : Prop} [Decidable c] {f g : α → β} {a : α} : (if c then f else g) a = if c then f a else g a := by split <;> rfl
theorem pow10_3 : powOk 10 3 = true := by decide
theorem pow10_6 : powOk 10 6 = true := by decide
theorem pow10_9 : powOk 10 9 = true := by decide
theorem pow10_12 : powOk 10 12 = true := by decide
theorem pow10_15 : powOk 10 15 = true := by decide
theorem pow10_18 : powOk 10 18 = true := by decide
theorem pow10_20 : powOk 10 20 = true := by decide
theorem pow10_30 : powOk 10 30 = true := by decide
theorem pow10_38 : powOk 10 38 = true := by decide
theorem pow10_39 : powOk 10 39 = true := by decide
theorem pow10_40 : powOk 10 40 = true := by decide
theorem pow10_41 : powOk 10 41 = true := by decide
theorem pow10_42 : powOk 10 42 = true := by decide
theorem pow10_49 : powOk 10 49 = true := by decide
theorem pow10_50 : powOk 10 50 = true := by decide
theorem pow10_51 : powOk 10 51 = true := by decide
theorem pow10_60 : powOk 10 60 = true := by decide
theorem pow10_100 : powOk 10 100 = true := by decide
theorem pow2_20 : powOk 2 20 = true := by decide
theorem pow2_30 : powOk 2 30 = true := by decide
theorem pow2_40 : powOk 2 40 = true := by decide
theorem pow2_60 : powOk 2 60 = true := by decide
theorem pow2_61 : powOk 2 61 = true := by decide
theorem pow2_62 : powOk 2 62 = true := by decide
theorem pow2_63 : powOk 2 63 = true := by decide
theorem pow2_64 : powOk 2 64 = true := by decide
theorem pow2_70 : powOk 2 70 = true := by decide
theorem pow2_80 : powOk 2 80 = true := by decide
theorem pow2_100 : powOk 2 100 = true := by decide
theorem w_slot0 {d : D} {r : DEnv} : wpM (slotD 0 (some (.sh d) :: r)) Q E cs = Q d cs := rfl
theorem w_slotB0 {d : D} {r : DEnv} : wpM (slotB 0 (some (.sh d) :: r)) Q E cs = Q d cs := rfl
theorem w_slotO0 {xs : List D} {r : DEnv} : wpM (slotB 0 (some (.own xs) :: r)) Q E cs = Q (.lst xs) cs := rfl
theorem set0 {a x : Option Slot} {r : DEnv} : List.set (a :: r) 0 x = x :: r := rfl
theorem get0 {a : Option Slot} {r : DEnv} : (a :: r)[0]? = some a := rfl
theorem w_app0 {xs : List D} {r : DEnv} {f : DEnv → M D} {Q : Fl → DEnv → CS → Prop} {E : XS} : wpS (appS 0 f) Q E (some (.own xs) :: r) cs = wpM (f (some (.own xs) :: r)) (fun d cs => xs.length < sizeLine ∧ Q .nx (some (.own (xs ++ [d])) :: r) cs) (fun e => E e (some (.own xs) :: r)) cs := wpS_app rfl
theorem w_frz0 {xs : List D} {r : DEnv} {Q : Fl → DEnv → CS → Prop} {E : XS} : wpS (frzS 0) Q E (some (.own xs) :: r) cs = Q .nx (some (.sh (.lst xs)) :: r) cs := wpS_frz rfl
theorem w_slot1 {s0 : Option Slot} {d : D} {r : DEnv} : wpM (slotD 1 (s0 :: some (.sh d) :: r)) Q E cs = Q d cs := rfl
theorem w_slotB1 {s0 : Option Slot} {d : D} {r : DEnv} : wpM (slotB 1 (s0 :: some (.sh d) :: r)) Q E cs = Q d cs := rfl
theorem w_slotO1 {s0 : Option Slot} {xs : List D} {r : DEnv} : wpM (slotB 1 (s0 :: some (.own xs) :: r)) Q E cs = Q (.lst xs) cs := rfl
theorem set1 {s0 : Option Slot} {a x : Option Slot} {r : DEnv} : List.set (s0 :: a :: r) 1 x = s0 :: x :: r := rfl
theorem get1 {s0 : Option Slot} {a : Option Slot} {r : DEnv} : (s0 :: a :: r)[1]? = some a := rfl
theorem w_app1 {s0 : Option Slot} {xs : List D} {r : DEnv} {f : DEnv → M D} {Q : Fl → DEnv → CS → Prop} {E : XS} : wpS (appS 1 f) Q E (s0 :: some (.own xs) :: r) cs = wpM (f (s0 :: some (.own xs) :: r)) (fun d cs => xs.length < sizeLine ∧ Q .nx (s0 :: some (.own (xs ++ [d])) :: r) cs) (fun e => E e (s0 :: some (.own xs) :: r)) cs := wpS_app rfl
theorem w_frz1 {s0 : Option Slot} {xs : List D} {r : DEnv} {Q : Fl → DEnv → CS → Prop} {E : XS} : wpS (frzS 1) Q E (s0 :: some (.own xs) :: r) cs = Q .nx (s0 :: some (.sh (.lst xs)) :: r) cs := wpS_frz rfl
theorem w_slot2 {s0 s1 : Option Slot} {d : D} {r : DEnv} : wpM (slotD 2 (s0 :: s1 :: some (.sh d) :: r)) Q E cs = Q d cs := rfl
theorem w_slotB2 {s0 s1 : Option Slot} {d : D} {r : DEnv} : wpM (slotB 2 (s0 :: s1 :: some (.sh d) :: r)) Q E cs = Q d cs := rfl
theorem w_slotO2 {s0 s1 : Option Slot} {xs : List D} {r : DEnv} : wpM (slotB 2 (s0 :: s1 :: some (.own xs) :: r)) Q E cs = Q (.lst xs) cs := rfl
theorem set2 {s0 s1 : Option Slot} {a x : Option Slot} {r : DEnv} : List.set (s0 :: s1 :: a :: r) 2 x = s0 :: s1 :: x :: r := rfl
theorem get2 {s0 s1 : Option Slot} {a : Option Slot} {r : DEnv} : (s0 :: s1 :: a :: r)[2]? = some a := rfl
theorem w_app2 {s0 s1 : Option Slot} {xs : List D} {r : DEnv} {f : DEnv → M D} {Q : Fl → DEnv → CS → Prop} {E : XS} : wpS (appS 2 f) Q E (s0 :: s1 :: some (.own xs) :: r) cs = wpM (f (s0 :: s1 :: some (.own xs) :: r)) (fun d cs => xs.length < sizeLine ∧ Q .nx (s0 :: s1 :: some (.own (xs ++ [d])) :: r) cs) (fun e => E e (s0 :: s1 :: some (.own xs) :: r)) cs := wpS_app rfl
theorem w_frz2 {s0 s1 : Option Slot} {xs : List D} {r : DEnv} {Q : Fl → DEnv → CS → Prop} {E : XS} : wpS (frzS 2) Q E (s0 :: s1 :: some (.own xs) :: r) cs = Q .nx (s0 :: s1 :: some (.sh (.lst xs)) :: r) cs := wpS_frz rfl
theorem w_slot3 {s0 s1 s2 : Option Slot} {d : D} {r : DEnv} : wpM (slotD 3 (s0 :: s1 :: s2 :: some (.sh d) :: r)) Q E cs = Q d cs := rfl
theorem w_slotB3 {s0 s1 s2 : Option Slot} {d : D} {r : DEnv} : wpM (slotB 3 (s0 :: s1 :: s2 :: some (.sh d) :: r)) Q E cs = Q d cs := rfl
theorem w_slotO3 {s0 s1 s2 : Option Slot} {xs : List D} {r : DEnv} : wpM (slotB 3 (s0 :: s1 :: s2 :: some (.own xs) :: r)) Q E cs = Q (.lst xs) cs := rfl
theorem set3 {s0 s1 s2 : Option Slot} {a x : Option Slot} {r : DEnv} : List.set (s0 :: s1 :: s2 :: a :: r) 3 x = s0 :: s1 :: s2 :: x :: r := rfl
theorem get3 {s0 s1 s2 : Option Slot} {a : Option Slot} {r : DEnv} : (s0 :: s1 :: s2 :: a :: r)[3]? = some a := rfl
theorem w_app3 {s0 s1 s2 : Option Slot} {xs : List D} {r : DEnv} {f : DEnv → M D} {Q : Fl → DEnv → CS → Prop} {E : XS} : wpS (appS 3 f) Q E (s0 :: s1 :: s2 :: some (.own xs) :: r) cs = wpM (f (s0 :: s1 :: s2 :: some (.own xs) :: r)) (fun d cs => xs.length < sizeLine ∧ Q .nx (s0 :: s1 :: s2 :: some (.own (xs ++ [d])) :: r) cs) (fun e => E e (s0 :: s1 :: s2 :: some (.own xs) :: r)) cs := wpS_app rfl
theorem w_frz3 {s0 s1 s2 : Option Slot} {xs : List D} {r : DEnv} {Q : Fl → DEnv → CS → Prop} {E : XS} : wpS (frzS 3) Q E (s0 :: s1 :: s2 :: some (.own xs) :: r) cs = Q .nx (s0 :: s1 :: s2 :: some (.sh (.lst xs)) :: r) cs := wpS_frz rfl
theorem w_slot4 {s0 s1 s2 s3 : Option Slot} {d : D} {r : DEnv} : wpM (slotD 4 (s0 :: s1 :: s2 :: s3 :: some (.sh d) :: r)) Q E cs = Q d cs := rfl
theorem w_slotB4 {s0 s1 s2 s3 : Option Slot} {d : D} {r : DEnv} : wpM (slotB 4 (s0 :: s1 :: s2 :: s3 :: some (.sh d) :: r)) Q E cs = Q d cs := rfl
theorem w_slotO4 {s0 s1 s2 s3 : Option Slot} {xs : List D} {r : DEnv} : wpM (slotB 4 (s0 :: s1 :: s2 :: s3 :: some (.own xs) :: r)) Q E cs = Q (.lst xs) cs := rfl
theorem set4 {s0 s1 s2 s3 : Option Slot} {a x : Option Slot} {r : DEnv} : List.set (s0 :: s1 :: s2 :: s3 :: a :: r) 4 x = s0 :: s1 :: s2 :: s3 :: x :: r := rfl
theorem get4 {s0 s1 s2 s3 : Option Slot} {a : Option Slot} {r : DEnv} : (s0 :: s1 :: s2 :: s3 :: a :: r)[4]? = some a := rfl
theorem w_app4 {s0 s1 s2 s3 : Option Slot} {xs : List D} {r : DEnv} {f : DEnv → M D} {Q : Fl → DEnv → CS → Prop} {E : XS} : wpS (appS 4 f) Q E (s0 :: s1 :: s2 :: s3 :: some (.own xs) :: r) cs = wpM (f (s0 :: s1 :: s2 :: s3 :: some (.own xs) :: r)) (fun d cs => xs.length < sizeLine ∧ Q .nx (s0 :: s1 :: s2 :: s3 :: some (.own (xs ++ [d])) :: r) cs) (fun e => E e (s0 :: s1 :: s2 :: s3 :: some (.own xs) :: r)) cs := wpS_app rfl
theorem w_frz4 {s0 s1 s2 s3 : Option Slot} {xs : List D} {r : DEnv} {Q : Fl → DEnv → CS → Prop} {E : XS} : wpS (frzS 4) Q E (s0 :: s1 :: s2 :: s3 :: some (.own xs) :: r) cs = Q .nx (s0 :: s1 :: s2 :: s3 :: some (.sh (.lst xs)) :: r) cs := wpS_frz rfl
theorem w_slot5 {s0 s1 s2 s3 s4 : Option Slot} {d : D} {r : DEnv} : wpM (slotD 5 (s0 :: s1 :: s2 :: s3 :: s4 :: some (.sh d) :: r)) Q E cs = Q d cs := rfl
theorem w_slotB5 {s0 s1 s2 s3 s4 : Option Slot} {d : D} {r : DEnv} : wpM (slotB 5 (s0 :: s1 :: s2 :: s3 :: s4 :: some (.sh d) :: r)) Q E cs = Q d cs := rfl
theorem w_slotO5 {s0 s1 s2 s3 s4 : Option Slot} {xs : List D} {r : DEnv} : wpM (slotB 5 (s0 :: s1 :: s2 :: s3 :: s4 :: some (.own xs) :: r)) Q E cs = Q (.lst xs) cs := rfl
theorem set5 {s0 s1 s2 s3 s4 : Option Slot} {a x : Option Slot} {r : DEnv} : List.set (s0 :: s1 :: s2 :: s3 :: s4 :: a :: r) 5 x = s0 :: s1 :: s2 :: s3 :: s4 :: x :: r := rfl
theorem get5 {s0 s1 s2 s3 s4 : Option Slot} {a : Option Slot} {r : DEnv} : (s0 :: s1 :: s2 :: s3 :: s4 :: a :: r)[5]? = some a := rfl
theorem w_app5 {s0 s1 s2 s3 s4 : Option Slot} {xs : List D} {r : DEnv} {f : DEnv → M D} {Q : Fl → DEnv → CS → Prop} {E : XS} : wpS (appS 5 f) Q E (s0 :: s1 :: s2 :: s3 :: s4 :: some (.own xs) :: r) cs = wpM (f (s0 :: s1 :: s2 :: s3 :: s4 :: some (.own xs) :: r)) (fun d cs => xs.length < sizeLine ∧ Q .nx (s0 :: s1 :: s2 :: s3 :: s4 :: some (.own (xs ++ [d])) :: r) cs) (fun e => E e (s0 :: s1 :: s2 :: s3 :: s4 :: some (.own xs) :: r)) cs := wpS_app rfl
theorem w_frz5 {s0 s1 s2 s3 s4 : Option Slot} {xs : List D} {r : DEnv} {Q : Fl → DEnv → CS → Prop} {E : XS} : wpS (frzS 5) Q E (s0 :: s1 :: s2 :: s3 :: s4 :: some (.own xs) :: r) cs = Q .nx (s0 :: s1 :: s2 :: s3 :: s4 :: some (.sh (.lst xs)) :: r) cs := wpS_frz rfl
theorem w_slot6 {s0 s1 s2 s3 s4 s5 : Option Slot} {d : D} {r : DEnv} : wpM (slotD 6 (s0 :: s1 :: s2 :: s3 :: s4 :: s5 :: some (.sh d) :: r)) Q E cs = Q d cs := rfl
theorem w_slotB6 {s0 s1 s2 s3 s4 s5 : Option Slot} {d : D} {r : DEnv} : wpM (slotB 6 (s0 :: s1 :: s2 :: s3 :: s4 :: s5 :: some (.sh d) :: r)) Q E cs = Q d cs := rfl
theorem w_slotO6 {s0 s1 s2 s3 s4 s5 : Option Slot} {xs : List D} {r : DEnv} : wpM (slotB 6 (s0 :: s1 :: s2 :: s3 :: s4 :: s5 :: some (.own xs) :: r)) Q E cs = Q (.lst xs) cs := rfl
theorem set6 {s0 s1 s2 s3 s4 s5 : Option Slot} {a x : Option Slot} {r : DEnv} : List.set (s0 :: s1 :: s2 :: s3 :: s4 :: s5 :: a :: r) 6 x = s0 :: s1 :: s2 :: s3 :: s4 :: s5 :: x :: r := rfl
theorem get6 {s0 s1 s2 s3 s4 s5 : Option Slot} {a : Option Slot} {r : DEnv} : (s0 :: s1 :: s2 :: s3 :: s4 :: s5 :: a :: r)[6]? = some a := rfl
theorem w_app6 {s0 s1 s2 s3 s4 s5 : Option Slot} {xs : List D} {r : DEnv} {f : DEnv → M D} {Q : Fl → DEnv → CS → Prop} {E : XS} : wpS (appS 6 f) Q E (s0 :: s1 :: s2 :: s3 :: s4 :: s5 :: some (.own xs) :: r) cs = wpM (f (s0 :: s1 :: s2 :: s3 :: s4 :: s5 :: some (.own xs) :: r)) (fun d cs => xs.length < sizeLine ∧ Q .nx (s0 :: s1 :: s2 :: s3 :: s4 :: s5 :: some (.own (xs ++ [d])) :: r) cs) (fun e => E e (s0 :: s1 :: s2 :: s3 :: s4 :: s5 :: some (.own xs) :: r)) cs := wpS_app rfl
theorem w_frz6 {s0 s1 s2 s3 s4 s5 : Option Slot} {xs : List D} {r : DEnv} {Q : Fl → DEnv → CS → Prop} {E : XS} : wpS (frzS 6) Q E (s0 :: s1 :: s2 :: s3 :: s4 :: s5 :: some (.own xs) :: r) cs = Q .nx (s0 :: s1 :: s2 :: s3 :: s4 :: s5 :: some (.sh (.lst xs)) :: r) cs := wpS_frz rfl
theorem w_slot7 {s0 s1 s2 s3 s4 s5 s6 : Option Slot} {d : D} {r : DEnv} : wpM (slotD 7 (s0 :: s1 :: s2 :: s3 :: s4 :: s5 :: s6 :: some (.sh d) :: r)) Q E cs = Q d cs := rfl
theorem w_slotB7 {s0 s1 s2 s3 s4 s5 s6 : Option Slot} {d : D} {r : DEnv} : wpM (slotB 7 (s0 :: s1 :: s2 :: s3 :: s4 :: s5 :: s6 :: some (.sh d) :: r)) Q E cs = Q d cs := rfl
theorem w_slotO7 {s0 s1 s2 s3 s4 s5 s6 : Option Slot} {xs : List D} {r : DEnv} : wpM (slotB 7 (s0 :: s1 :: s2 :: s3 :: s4 :: s5 :: s6 :: some (.own xs) :: r)) Q E cs = Q (.lst xs) cs := rfl
theorem set7 {s0 s1 s2 s3 s4 s5 s6 : Option Slot} {a x : Option Slot} {r : DEnv} : List.set (s0 :: s1 :: s2 :: s3 :: s4 :: s5 :: s6 :: a :: r) 7 x = s0 :: s1 :: s2 :: s3 :: s4 :: s5 :: s6 :: x :: r := rfl
theorem get7 {s0 s1 s2 s3 s4 s5 s6 : Option Slot} {a : Option Slot} {r : DEnv} : (s0 :: s1 :: s2 :: s3 :: s4 :: s5 :: s6 :: a :: r)[7]? = some a := rfl
theorem w_app7 {s0 s1 s2 s3 s4 s5 s6 : Option Slot} {xs : List D} {r : DEnv} {f : DEnv → M D} {Q : Fl → DEnv → CS → Prop} {E : XS} : wpS (appS 7 f) Q E (s0 :: s1 :: s2 :: s3 :: s4 :: s5 :: s6 :: some (.own xs) :: r) cs = wpM (f (s0 :: s1 :: s2 :: s3 :: s4 :: s5 :: s6 :: some (.own xs) :: r)) (fun d cs => xs.length < sizeLine ∧ Q .nx (s0 :: s1 :: s2 :: s3 :: s4 :: s5 :: s6 :: some (.own (xs ++ [d])) :: r) cs) (fun e => E e (s0 :: s1 :: s2 :: s3 :: s4 :: s5 :: s6 :: some (.own xs) :: r)) cs := wpS_app rfl
theorem w_frz7 {s0 s1 s2 s3 s4 s5 s6 : Option Slot} {xs : List D} {r : DEnv} {Q : Fl → DEnv → CS → Prop} {E : XS} : wpS (frzS 7) Q E (s0 :: s1 :: s2 :: s3 :: s4 :: s5 :: s6 :: some (.own xs) :: r) cs = Q .nx (s0 :: s1 :: s2 :: s3 :: s4 :: s5 :: s6 :: some (.sh (.lst xs)) :: r) cs := wpS_frz rfl
theorem w_slot8 {s0 s1 s2 s3 s4 s5 s6 s7 : Option Slot} {d : D} {r : DEnv} : wpM (slotD 8 (s0 :: s1 :: s2 :: s3 :: s4 :: s5 :: s6 :: s7 :: some (.sh d) :: r)) Q E cs = Q d cs := rfl
theorem w_slotB8 {s0 s1 s2 s3 s4 s5 s6 s7 : Option Slot} {d : D} {r : DEnv} : wpM (slotB 8 (s0 :: s1 :: s2 :: s3 :: s4 :: s5 :: s6 :: s7 :: some (.sh d) :: r)) Q E cs = Q d cs := rfl
theorem w_slotO8 {s0 s1 s2 s3 s4 s5 s6 s7 : Option Slot} {xs : List D} {r : DEnv} : wpM (slotB 8 (s0 :: s1 :: s2 :: s3 :: s4 :: s5 :: s6 :: s7 :: some (.own xs) :: r)) Q E cs = Q (.lst xs) cs := rfl
theorem set8 {s0 s1 s2 s3 s4 s5 s6 s7 : Option Slot} {a x : Option Slot} {r : DEnv} : List.set (s0 :: s1 :: s2 :: s3 :: s4 :: s5 :: s6 :: s7 :: a :: r) 8 x = s0 :: s1 :: s2 :: s3 :: s4 :: s5 :: s6 :: s7 :: x :: r := rfl
theorem get8 {s0 s1 s2 s3 s4 s5 s6 s7 : Option Slot} {a : Option Slot} {r : DEnv} : (s0 :: s1 :: s2 :: s3 :: s4 :: s5 :: s6 :: s7 :: a :: r)[8]? = some a := rfl
theorem w_app8 {s0 s1 s2 s3 s4 s5 s6 s7 : Option Slot} {xs : List D} {r : DEnv} {f : DEnv → M D} {Q : Fl → DEnv → CS → Prop} {E : XS} : wpS (appS 8 f) Q E (s0 :: s1 :: s2 :: s3 :: s4 :: s5 :: s6 :: s7 :: some (.own xs) :: r) cs = wpM (f (s0 :: s1 :: s2 :: s3 :: s4 :: s5 :: s6 :: s7 :: some (.own xs) :: r)) (fun d cs => xs.length < sizeLine ∧ Q .nx (s0 :: s1 :: s2 :: s3 :: s4 :: s5 :: s6 :: s7 :: some (.own (xs ++ [d])) :: r) cs) (fun e => E e (s0 :: s1 :: s2 :: s3 :: s4 :: s5 :: s6 :: s7 :: some (.own xs) :: r)) cs := wpS_app rfl
theorem w_frz8 {s0 s1 s2 s3 s4 s5 s6 s7 : Option Slot} {xs : List D} {r : DEnv} {Q : Fl → DEnv → CS → Prop} {E : XS} : wpS (frzS 8) Q E (s0 :: s1 :: s2 :: s3 :: s4 :: s5 :: s6 :: s7 :: some (.own xs) :: r) cs = Q .nx (s0 :: s1 :: s2 :: s3 :: s4 :: s5 :: s6 :: s7 :: some (.sh (.lst xs)) :: r) cs := wpS_frz rfl
theorem w_slot9 {s0 s1 s2 s3 s4 s5 s6 s7 s8 : Option Slot} {d : D} {r : DEnv} : wpM (slotD 9 (s0 :: s1 :: s2 :: s3 :: s4 :: s5 :: s6 :: s7 :: s8 :: some (.sh d) :: r)) Q E cs = Q d cs := rfl
theorem w_slotB9 {s0 s1 s2 s3 s4 s5 s6 s7 s8 : Option Slot} {d : D} {r : DEnv} : wpM (slotB 9 (s0 :: s1 :: s2 :: s3 :: s4 :: s5 :: s6 :: s7 :: s8 :: some (.sh d) :: r)) Q E cs = Q d cs := rfl
theorem w_slotO9 {s0 s1 s2 s3 s4 s5 s6 s7 s8 : Option Slot} {xs : List D} {r : DEnv} : wpM (slotB 9 (s0 :: s1 :: s2 :: s3 :: s4 :: s5 :: s6 :: s7 :: s8 :: some (.own xs) :: r)) Q E cs = Q (.lst xs) cs := rfl
theorem set9 {s0 s1 s2 s3 s4 s5 s6 s7 s8 : Option Slot} {a x : Option Slot} {r : DEnv} : List.set (s0 :: s1 :: s2 :: s3 :: s4 :: s5 :: s6 :: s7 :: s8 :: a :: r) 9 x = s0 :: s1 :: s2 :: s3 :: s4 :: s5 :: s6 :: s7 :: s8 :: x :: r := rfl
theorem get9 {s0 s1 s2 s3 s4 s5 s6 s7 s8 : Option Slot} {a : Option Slot} {r : DEnv} : (s0 :: s1 :: s2 :: s3 :: s4 :: s5 :: s6 :: s7 :: s8 :: a :: r)[9]? = some a := rfl
theorem w_app9 {s0 s1 s2 s3 s4 s5 s6 s7 s8 : Option Slot} {xs : List D} {r : DEnv} {f : DEnv → M D} {Q : Fl → DEnv → CS → Prop} {E : XS} : wpS (appS 9 f) Q E (s0 :: s1 :: s2 :: s3 :: s4 :: s5 :: s6 :: s7 :: s8 :: some (.own xs) :: r) cs = wpM (f (s0 :: s1 :: s2 :: s3 :: s4 :: s5 :: s6 :: s7 :: s8 :: some (.own xs) :: r)) (fun d cs => xs.length < sizeLine ∧ Q .nx (s0 :: s1 :: s2 :: s3 :: s4 :: s5 :: s6 :: s7 :: s8 :: some (.own (xs ++ [d])) :: r) cs) (fun e => E e (s0 :: s1 :: s2 :: s3 :: s4 :: s5 :: s6 :: s7 :: s8 :: some (.own xs) :: r)) cs := wpS_app rfl
theorem w_frz9 {s0 s1 s2 s3 s4 s5 s6 s7 s8 : Option Slot} {xs : List D} {r : DEnv} {Q : Fl → DEnv → CS → Prop} {E : XS} : wpS (frzS 9) Q E (s0 :: s1 :: s2 :: s3 :: s4 :: s5 :: s6 :: s7 :: s8 :: some (.own xs) :: r) cs = Q .nx (s0 :: s1 :: s2 :: s3 :: s4 :: s5 :: s6 :: s7 :: s8 :: some (.sh (.lst xs)) :: r) cs := wpS_frz rfl
theorem w_slot10 {s0 s1 s2 s3 s4 s5 s6 s7 s8 s9 : Option Slot} {d : D} {r : DEnv} : wpM (slotD 10 (s0 :: s1 :: s2 :: s3 :: s4 :: s5 :: s6 :: s7 :: s8 :: s9 :: some (.sh d) :: r)) Q E cs = Q d cs := rfl
theorem w_slotB10 {s0 s1 s2 s3 s4 s5 s6 s7 s8 s9 : Option Slot} {d : D} {r : DEnv} : wpM (slotB 10 (s0 :: s1 :: s2 :: s3 :: s4 :: s5 :: s6 :: s7 :: s8 :: s9 :: some (.sh d) :: r)) Q E cs = Q d cs := rfl
theorem w_slotO10 {s0 s1 s2 s3 s4 s5 s6 s7 s8 s9 : Option Slot} {xs : List D} {r : DEnv} : wpM (slotB 10 (s0 :: s1 :: s2 :: s3 :: s4 :: s5 :: s6 :: s7 :: s8 :: s9 :: some (.own xs) :: r)) Q E cs = Q (.lst xs) cs := rfl
theorem set10 {s0 s1 s2 s3 s4 s5 s6 s7 s8 s9 : Option Slot} {a x : Option Slot} {r : DEnv} : List.set (s0 :: s1 :: s2 :: s3 :: s4 :: s5 :: s6 :: s7 :: s8 :: s9 :: a :: r) 10 x = s0 :: s1 :: s2 :: s3 :: s4 :: s5 :: s6 :: s7 :: s8 :: s9 :: x :: r := rfl
theorem get10 {s0 s1 s2 s3 s4 s5 s6 s7 s8 s9 : Option Slot} {a : Option Slot} {r : DEnv} : (s0 :: s1 :: s2 :: s3 :: s4 :: s5 :: s6 :: s7 :: s8 :: s9 :: a :: r)[10]? = some a := rfl
theorem w_app10 {s0 s1 s2 s3 s4 s5 s6 s7 s8 s9 : Option Slot} {xs : List D} {r : DEnv} {f : DEnv → M D} {Q : Fl → DEnv → CS → Prop} {E : XS} : wpS (appS 10 f) Q E (s0 :: s1 :: s2 :: s3 :: s4 :: s5 :: s6 :: s7 :: s8 :: s9 :: some (.own xs) :: r) cs = wpM (f (s0 :: s1 :: s2 :: s3 :: s4 :: s5 :: s6 :: s7 :: s8 :: s9 :: some (.own xs) :: r)) (fun d cs => xs.length < sizeLine ∧ Q .nx (s0 :: s1 :: s2 :: s3 :: s4 :: s5 :: s6 :: s7 :: s8 :: s9 :: some (.own (xs ++ [d])) :: r) cs) (fun e => E e (s0 :: s1 :: s2 :: s3 :: s4 :: s5 :: s6 :: s7 :: s8 :: s9 :: some (.own xs) :: r)) cs := wpS_app rfl
theorem w_frz10 {s0 s1 s2 s3 s4 s5 s6 s7 s8 s9 : Option Slot} {xs : List D} {r : DEnv} {Q : Fl → DEnv → CS → Prop} {E : XS} : wpS (frzS 10) Q E (s0 :: s1 :: s2 :: s3 :: s4 :: s5 :: s6 :: s7 :: s8 :: s9 :: some (.own xs) :: r) cs = Q .nx (s0 :: s1 :: s2 :: s3 :: s4 :: s5 :: s6 :: s7 :: s8 :: s9 :: some (.sh (.lst xs)) :: r) cs := wpS_frz rfl
theorem w_slot11 {s0 s1 s2 s3 s4 s5 s6 s7 s8 s9 s10 : Option Slot} {d : D} {r : DEnv} : wpM (slotD 11 (s0 :: s1 :: s2 :: s3 :: s4 :: s5 :: s6 :: s7 :: s8 :: s9 :: s10 :: some (.sh d) :: r)) Q E cs = Q d cs := rfl
theorem w_slotB11 {s0 s1 s2 s3 s4 s5 s6 s7 s8 s9 s10 : Option Slot} {d : D} {r : DEnv} : wpM (slotB 11 (s0 :: s1 :: s2 :: s3 :: s4 :: s5 :: s6 :: s7 :: s8 :: s9 :: s10 :: some (.sh d) :: r)) Q E cs = Q d cs := rfl
theorem w_slotO11 {s0 s1 s2 s3 s4 s5 s6 s7 s8 s9 s10 : Option Slot} {xs : List D} {r : DEnv} : wpM (slotB 11 (s0 :: s1 :: s2 :: s3 :: s4 :: s5 :: s6 :: s7 :: s8 :: s9 :: s10 :: some (.own xs) :: r)) Q E cs = Q (.lst xs) cs := rfl
theorem set11 {s0 s1 s2 s3 s4 s5 s6 s7 s8 s9 s10 : Option Slot} {a x : Option Slot} {r : DEnv} : List.set (s0 :: s1 :: s2 :: s3 :: s4 :: s5 :: s6 :: s7 :: s8 :: s9 :: s10 :: a :: r) 11 x = s0 :: s1 :: s2 :: s3 :: s4 :: s5 :: s6 :: s7 :: s8 :: s9 :: s10 :: x :: r := rfl
theorem get11 {s0 s1 s2 s3 s4 s5 s6 s7 s8 s9 s10 : Option Slot} {a : Option Slot} {r : DEnv} : (s0 :: s1 :: s2 :: s3 :: s4 :: s5 :: s6 :: s7 :: s8 :: s9 :: s10 :: a :: r)[11]? = some a := rfl
theorem w_app11 {s0 s1 s2 s3 s4 s5 s6 s7 s8 s9 s10 : Option Slot} {xs : List D} {r : DEnv} {f : DEnv → M D} {Q : Fl → DEnv → CS → Prop} {E : XS} : wpS (appS 11 f) Q E (s0 :: s1 :: s2 :: s3 :: s4 :: s5 :: s6 :: s7 :: s8 :: s9 :: s10 :: some (.own xs) :: r) cs = wpM (f (s0 :: s1 :: s2 :: s3 :: s4 :: s5 :: s6 :: s7 :: s8 :: s9 :: s10 :: some (.own xs) :: r)) (fun d cs => xs.length < sizeLine ∧ Q .nx (s0 :: s1 :: s2 :: s3 :: s4 :: s5 :: s6 :: s7 :: s8 :: s9 :: s10 :: some (.own (xs ++ [d])) :: r) cs) (fun e => E e (s0 :: s1 :: s2 :: s3 :: s4 :: s5 :: s6 :: s7 :: s8 :: s9 :: s10 :: some (.own xs) :: r)) cs := wpS_app rfl
theorem w_frz11 {s0 s1 s2 s3 s4 s5 s6 s7 s8 s9 s10 : Option Slot} {xs : List D} {r : DEnv} {Q : Fl → DEnv → CS → Prop} {E : XS} : wpS (frzS 11) Q E (s0 :: s1 :: s2 :: s3 :: s4 :: s5 :: s6 :: s7 :: s8 :: s9 :: s10 :: some (.own xs) :: r) cs = Q .nx (s0 :: s1 :: s2 :: s3 :: s4 :: s5 :: s6 :: s7 :: s8 :: s9 :: s10 :: some (.sh (.lst xs)) :: r) cs := wpS_frz rfl
theorem w_pure {α : Type} {a : α} {Q : α → CS → Prop} : wpM (pure a) Q E cs = Q a cs := rfl
theorem wpM_if {α : Type} {b : Bool} {m : M α} {Q : α → CS → Prop} : wpM (if b = true then m else bad) Q E cs = (b = true ∧ wpM m Q E cs) := by
  cases b <;> simp [wpM_bad]
theorem wpM_ifp {α : Type} {c : Prop} [Decidable c] {m : M α} {Q : α → CS → Prop} : wpM (if c then m else bad) Q E cs = (c ∧ wpM m Q E cs) := by
  by_cases h : c <;> simp [h, wpM_bad]
theorem w_ints {C : Int → Int → Bool} {f : Int → Int → D} {i j : Int} : wpM (intsD C f (.int i) (.int j)) Q E cs = (C i j = true ∧ Q (f i j) cs) := wpM_if
theorem w_intsA {f : Int → Int → D} {i j : Int} : wpM (intsD always f (.int i) (.int j)) Q E cs = Q (f i j) cs := rfl
theorem w_lt {i j : Int} : wpM (ltD (.int i) (.int j)) Q E cs = Q (.bl (decide (i < j))) cs := rfl
theorem w_leq {i j : Int} : wpM (leqD (.int i) (.int j)) Q E cs = Q (.bl (decide (i ≤ j))) cs := rfl
theorem w_gt {i j : Int} : wpM (gtD (.int i) (.int j)) Q E cs = Q (.bl (decide (j < i))) cs := rfl
theorem w_geq {i j : Int} : wpM (geqD (.int i) (.int j)) Q E cs = Q (.bl (decide (j ≤ i))) cs := rfl
theorem w_addI {i j : Int} : wpM (addD (.int i) (.int j)) Q E cs = Q (.int (i + j)) cs := rfl
theorem w_addS {x y : Str} : wpM (addD (.str x) (.str y)) Q E cs = (x.length + y.length ≤ sizeLine ∧ Q (.str (x ++ y)) cs) := wpM_ifp
theorem w_tupM {xs : List D} : wpM (mkTup xs) Q E cs = (few xs = true ∧ Q (.tup xs) cs) := wpM_if
theorem w_lstM {xs : List D} : wpM (mkLst xs) Q E cs = (few xs = true ∧ Q (.lst xs) cs) := wpM_if
theorem w_fewM {xs : List D} {Q : List D → CS → Prop} : wpM (fewL xs) Q E cs = (few xs = true ∧ Q xs cs) := wpM_if
theorem few_le {xs : List D} (h : xs.length ≤ 16777216) : few xs = true := by
  unfold few
  rw [sizeLine_eq]
  exact decide_eq_true h
theorem few_cons {a : D} {xs : List D} (h : xs.length ≤ 16777215) : few (a :: xs) = true := few_le (by rw [List.length_cons]; omega)
theorem few0 : few [] = true := few_le (by simp)
theorem w_call0 {φ : List D → M D} : wpM (callM 0 φ []) Q E cs = wpM (φ []) Q E cs := rfl
theorem few1 {a0 : D} : few [a0] = true := few_le (by simp)
theorem w_call1 {a0 : D} {φ : List D → M D} : wpM (callM 1 φ [a0]) Q E cs = wpM (φ [a0]) Q E cs := rfl
theorem few2 {a0 a1 : D} : few [a0, a1] = true := few_le (by simp)
theorem w_call2 {a0 a1 : D} {φ : List D → M D} : wpM (callM 2 φ [a0, a1]) Q E cs = wpM (φ [a0, a1]) Q E cs := rfl
theorem few3 {a0 a1 a2 : D} : few [a0, a1, a2] = true := few_le (by simp)
theorem w_call3 {a0 a1 a2 : D} {φ : List D → M D} : wpM (callM 3 φ [a0, a1, a2]) Q E cs = wpM (φ [a0, a1, a2]) Q E cs := rfl
theorem few4 {a0 a1 a2 a3 : D} : few [a0, a1, a2, a3] = true := few_le (by simp)
theorem w_call4 {a0 a1 a2 a3 : D} {φ : List D → M D} : wpM (callM 4 φ [a0, a1, a2, a3]) Q E cs = wpM (φ [a0, a1, a2, a3]) Q E cs := rfl
theorem few5 {a0 a1 a2 a3 a4 : D} : few [a0, a1, a2, a3, a4] = true := few_le (by simp)
theorem w_call5 {a0 a1 a2 a3 a4 : D} {φ : List D → M D} : wpM (callM 5 φ [a0, a1, a2, a3, a4]) Q E cs = wpM (φ [a0, a1, a2, a3, a4]) Q E cs := rfl
theorem few6 {a0 a1 a2 a3 a4 a5 : D} : few [a0, a1, a2, a3, a4, a5] = true := few_le (by simp)
theorem w_call6 {a0 a1 a2 a3 a4 a5 : D} {φ : List D → M D} : wpM (callM 6 φ [a0, a1, a2, a3, a4, a5]) Q E cs = wpM (φ [a0, a1, a2, a3, a4, a5]) Q E cs := rfl
theorem few7 {a0 a1 a2 a3 a4 a5 a6 : D} : few [a0, a1, a2, a3, a4, a5, a6] = true := few_le (by simp)
theorem w_call7 {a0 a1 a2 a3 a4 a5 a6 : D} {φ : List D → M D} : wpM (callM 7 φ [a0, a1, a2, a3, a4, a5, a6]) Q E cs = wpM (φ [a0, a1, a2, a3, a4, a5, a6]) Q E cs := rfl
theorem few8 {a0 a1 a2 a3 a4 a5 a6 a7 : D} : few [a0, a1, a2, a3, a4, a5, a6, a7] = true := few_le (by simp)
theorem w_call8 {a0 a1 a2 a3 a4 a5 a6 a7 : D} {φ : List D → M D} : wpM (callM 8 φ [a0, a1, a2, a3, a4, a5, a6, a7]) Q E cs = wpM (φ [a0, a1, a2, a3, a4, a5, a6, a7]) Q E cs := rfl
theorem w_addT {xs ys : List D} : wpM (addD (.tup xs) (.tup ys)) Q E cs = (few (xs ++ ys) = true ∧ Q (.tup (xs ++ ys)) cs) := wpM_if
theorem w_addL {xs ys : List D} : wpM (addD (.lst xs) (.lst ys)) Q E cs = (few (xs ++ ys) = true ∧ Q (.lst (xs ++ ys)) cs) := wpM_if
theorem w_mulI {i j : Int} : wpM (mulD (.int i) (.int j)) Q E cs = (mulOk i j = true ∧ Q (.int (i * j)) cs) := wpM_if
theorem w_mulS {x : Str} {j : Int} : wpM (mulD (.str x) (.int j)) Q E cs = (repStr x j = true ∧ Q (.str (Txt.mul x j)) cs) := wpM_if
theorem w_mulL {xs : List D} {j : Int} : wpM (mulD (.lst xs) (.int j)) Q E cs = (repSize xs j = true ∧ few (List.replicate j.toNat xs).flatten = true ∧ Q (.lst (List.replicate j.toNat xs).flatten) cs) := wpM_if.trans (congrArg _ wpM_if)
theorem w_neg {i : Int} : wpM (negD (.int i)) Q E cs = Q (.int (-i)) cs := rfl
theorem w_not {b : Bool} : wpM (notD (.bl b)) Q E cs = Q (.bl (!b)) cs := rfl
theorem w_abs {i : Int} : wpM (absD (.int i)) Q E cs = Q (.int (if i < 0 then -i else i)) cs := rfl
theorem w_max2 {i j : Int} : wpM (max2D (.int i) (.int j)) Q E cs = Q (.int (if j > i then j else i)) cs := rfl
theorem w_min2 {i j : Int} : wpM (min2D (.int i) (.int j)) Q E cs = Q (.int (if j < i then j else i)) cs := rfl
theorem w_intI {i : Int} : wpM (intD (.int i)) Q E cs = Q (.int i) cs := rfl
theorem w_intB {b : Bool} : wpM (intD (.bl b)) Q E cs = Q (.int (if b then 1 else 0)) cs := rfl
theorem w_intS {x : Str} {n : Int} (h : PySem.intText? x = some n) (l : x.length ≤ 640) : wpM (intD (.str x)) Q E cs = Q (.int n) cs := by
  have e : intD (.str x) = pure (.int n) := by
    show (match PySem.intText? x with | some n => if x.length ≤ 640 then pure (.int n) else bad | none => bad : M D) = _
    rw [h]
    exact if_pos l
  rw [e, wpM_pure]
theorem w_str {i : Int} : wpM (strD (.int i)) Q E cs = (i.natAbs.log2 < 1920 ∧ Q (.str (toString i)) cs) := wpM_ifp
theorem w_isi_int_non : wpM (isiD "int" (.non)) Q E cs = Q (.bl false) cs := rfl
theorem w_isi_int_bl {b : Bool} : wpM (isiD "int" (.bl b)) Q E cs = Q (.bl true) cs := rfl
theorem w_isi_int_int {i : Int} : wpM (isiD "int" (.int i)) Q E cs = Q (.bl true) cs := rfl
theorem w_isi_int_str {x : Str} : wpM (isiD "int" (.str x)) Q E cs = Q (.bl false) cs := rfl
theorem w_isi_int_tup {xs : List D} : wpM (isiD "int" (.tup xs)) Q E cs = Q (.bl false) cs := rfl
theorem w_isi_int_lst {xs : List D} : wpM (isiD "int" (.lst xs)) Q E cs = Q (.bl false) cs := rfl
theorem w_isi_int_dct {ks : List Key} {xs : List D} : wpM (isiD "int" (.dct ks xs)) Q E cs = Q (.bl false) cs := rfl
theorem w_isi_bool_non : wpM (isiD "bool" (.non)) Q E cs = Q (.bl false) cs := rfl
theorem w_isi_bool_bl {b : Bool} : wpM (isiD "bool" (.bl b)) Q E cs = Q (.bl true) cs := rfl
theorem w_isi_bool_int {i : Int} : wpM (isiD "bool" (.int i)) Q E cs = Q (.bl false) cs := rfl
theorem w_isi_bool_str {x : Str} : wpM (isiD "bool" (.str x)) Q E cs = Q (.bl false) cs := rfl
theorem w_isi_bool_tup {xs : List D} : wpM (isiD "bool" (.tup xs)) Q E cs = Q (.bl false) cs := rfl
theorem w_isi_bool_lst {xs : List D} : wpM (isiD "bool" (.lst xs)) Q E cs = Q (.bl false) cs := rfl
theorem w_isi_bool_dct {ks : List Key} {xs : List D} : wpM (isiD "bool" (.dct ks xs)) Q E cs = Q (.bl false) cs := rfl
theorem w_isi_str_non : wpM (isiD "str" (.non)) Q E cs = Q (.bl false) cs := rfl
theorem w_isi_str_bl {b : Bool} : wpM (isiD "str" (.bl b)) Q E cs = Q (.bl false) cs := rfl
theorem w_isi_str_int {i : Int} : wpM (isiD "str" (.int i)) Q E cs = Q (.bl false) cs := rfl
theorem w_isi_str_str {x : Str} : wpM (isiD "str" (.str x)) Q E cs = Q (.bl true) cs := rfl
theorem w_isi_str_tup {xs : List D} : wpM (isiD "str" (.tup xs)) Q E cs = Q (.bl false) cs := rfl
theorem w_isi_str_lst {xs : List D} : wpM (isiD "str" (.lst xs)) Q E cs = Q (.bl false) cs := rfl
theorem w_isi_str_dct {ks : List Key} {xs : List D} : wpM (isiD "str" (.dct ks xs)) Q E cs = Q (.bl false) cs := rfl
theorem w_isi_tuple_non : wpM (isiD "tuple" (.non)) Q E cs = Q (.bl false) cs := rfl
theorem w_isi_tuple_bl {b : Bool} : wpM (isiD "tuple" (.bl b)) Q E cs = Q (.bl false) cs := rfl
theorem w_isi_tuple_int {i : Int} : wpM (isiD "tuple" (.int i)) Q E cs = Q (.bl false) cs := rfl
theorem w_isi_tuple_str {x : Str} : wpM (isiD "tuple" (.str x)) Q E cs = Q (.bl false) cs := rfl
theorem w_isi_tuple_tup {xs : List D} : wpM (isiD "tuple" (.tup xs)) Q E cs = Q (.bl true) cs := rfl
theorem w_isi_tuple_lst {xs : List D} : wpM (isiD "tuple" (.lst xs)) Q E cs = Q (.bl false) cs := rfl
theorem w_isi_tuple_dct {ks : List Key} {xs : List D} : wpM (isiD "tuple" (.dct ks xs)) Q E cs = Q (.bl false) cs := rfl
theorem w_isi_list_non : wpM (isiD "list" (.non)) Q E cs = Q (.bl false) cs := rfl
theorem w_isi_list_bl {b : Bool} : wpM (isiD "list" (.bl b)) Q E cs = Q (.bl false) cs := rfl
theorem w_isi_list_int {i : Int} : wpM (isiD "list" (.int i)) Q E cs = Q (.bl false) cs := rfl
theorem w_isi_list_str {x : Str} : wpM (isiD "list" (.str x)) Q E cs = Q (.bl false) cs := rfl
theorem w_isi_list_tup {xs : List D} : wpM (isiD "list" (.tup xs)) Q E cs = Q (.bl false) cs := rfl
theorem w_isi_list_lst {xs : List D} : wpM (isiD "list" (.lst xs)) Q E cs = Q (.bl true) cs := rfl
theorem w_isi_list_dct {ks : List Key} {xs : List D} : wpM (isiD "list" (.dct ks xs)) Q E cs = Q (.bl false) cs := rfl
theorem w_isi_dict_non : wpM (isiD "dict" (.non)) Q E cs = Q (.bl false) cs := rfl
theorem w_isi_dict_bl {b : Bool} : wpM (isiD "dict" (.bl b)) Q E cs = Q (.bl false) cs := rfl
theorem w_isi_dict_int {i : Int} : wpM (isiD "dict" (.int i)) Q E cs = Q (.bl false) cs := rfl
theorem w_isi_dict_str {x : Str} : wpM (isiD "dict" (.str x)) Q E cs = Q (.bl false) cs := rfl
theorem w_isi_dict_tup {xs : List D} : wpM (isiD "dict" (.tup xs)) Q E cs = Q (.bl false) cs := rfl
theorem w_isi_dict_lst {xs : List D} : wpM (isiD "dict" (.lst xs)) Q E cs = Q (.bl false) cs := rfl
theorem w_isi_dict_dct {ks : List Key} {xs : List D} : wpM (isiD "dict" (.dct ks xs)) Q E cs = Q (.bl true) cs := rfl
theorem w_is_non : wpM (isD (.non) .non) Q E cs = Q (.bl true) cs := rfl
theorem w_isn_non : wpM (isNotD (.non) .non) Q E cs = Q (.bl false) cs := rfl
theorem w_is_bl {b : Bool} : wpM (isD (.bl b) .non) Q E cs = Q (.bl false) cs := rfl
theorem w_isn_bl {b : Bool} : wpM (isNotD (.bl b) .non) Q E cs = Q (.bl true) cs := rfl
theorem w_is_int {i : Int} : wpM (isD (.int i) .non) Q E cs = Q (.bl false) cs := rfl
theorem w_isn_int {i : Int} : wpM (isNotD (.int i) .non) Q E cs = Q (.bl true) cs := rfl
theorem w_is_str {x : Str} : wpM (isD (.str x) .non) Q E cs = Q (.bl false) cs := rfl
theorem w_isn_str {x : Str} : wpM (isNotD (.str x) .non) Q E cs = Q (.bl true) cs := rfl
theorem w_is_tup {xs : List D} : wpM (isD (.tup xs) .non) Q E cs = Q (.bl false) cs := rfl
theorem w_isn_tup {xs : List D} : wpM (isNotD (.tup xs) .non) Q E cs = Q (.bl true) cs := rfl
theorem w_is_lst {xs : List D} : wpM (isD (.lst xs) .non) Q E cs = Q (.bl false) cs := rfl
theorem w_isn_lst {xs : List D} : wpM (isNotD (.lst xs) .non) Q E cs = Q (.bl true) cs := rfl
theorem w_is_dct {ks : List Key} {xs : List D} : wpM (isD (.dct ks xs) .non) Q E cs = Q (.bl false) cs := rfl
theorem w_isn_dct {ks : List Key} {xs : List D} : wpM (isNotD (.dct ks xs) .non) Q E cs = Q (.bl true) cs := rfl
theorem w_is_rol {xs : List D} : wpM (isD (.rol xs) .non) Q E cs = Q (.bl false) cs := rfl
theorem w_isn_rol {xs : List D} : wpM (isNotD (.rol xs) .non) Q E cs = Q (.bl true) cs := rfl
theorem w_is_cell {k : Nat} : wpM (isD (.cell k) .non) Q E cs = Q (.bl false) cs := rfl
theorem w_isn_cell {k : Nat} : wpM (isNotD (.cell k) .non) Q E cs = Q (.bl true) cs := rfl
theorem shapedI {i : Int} : SeqAt.shaped (.int i) = true := rfl
theorem w_eqI {n : Bool} {i j : Int} : wpM (eqD n (.int i) (.int j)) Q E cs = Q (.bl (if n then !decide (i = j) else decide (i = j))) cs := by
  have e : (i == j) = decide (i = j) := by by_cases h : i = j <;> simp [h]
  show Q (.bl (if n then !(i == j) else (i == j))) cs = _
  rw [e]
theorem shapedS {x : Str} : SeqAt.shaped (.str x) = PyData.strOk x := by
  unfold SeqAt.shaped
  simp [PyData.canLay0, PyData.depth]
theorem w_eqS {n : Bool} {i j : Str} : wpM (eqD n (.str i) (.str j)) Q E cs = ((PyData.strOk i = true ∧ PyData.strOk j = true) ∧ Q (.bl (if n then !decide (i = j) else decide (i = j))) cs) := by
  show wpM (if SeqAt.shaped (.str i) && SeqAt.shaped (.str j) then pure (.bl (if n then !(i == j) else (i == j))) else bad) Q E cs = _
  have e : (i == j) = decide (i = j) := by by_cases h : i = j <;> simp [h]
  rw [wpM_if, shapedS, shapedS, e, Bool.and_eq_true]
  rfl
theorem w_lenS {x : Str} : wpM (lenD (.str x)) Q E cs = (x.length ≤ sizeLine ∧ Q (.int x.length) cs) := wpM_ifp
theorem w_lenL {xs : List D} : wpM (lenD (.lst xs)) Q E cs = Q (.int xs.length) cs := rfl
theorem w_ixL {xs : List D} {i : Int} {d : D} (h : atI xs i = some d) : wpM (ixD (.lst xs) (.int i)) Q E cs = Q d cs := by
  show wpM (atD xs i) Q E cs = _
  unfold atD
  rw [h]
  rfl
theorem w_ixL0 {a0 : D} {r : List D} : wpM (ixD (.lst (a0 :: r)) (.int 0)) Q E cs = Q a0 cs := w_ixL (atI_nat (j := 0) rfl)
theorem w_ixL1 {a0 a1 : D} {r : List D} : wpM (ixD (.lst (a0 :: a1 :: r)) (.int 1)) Q E cs = Q a1 cs := w_ixL (atI_nat (j := 1) rfl)
theorem w_ixL2 {a0 a1 a2 : D} {r : List D} : wpM (ixD (.lst (a0 :: a1 :: a2 :: r)) (.int 2)) Q E cs = Q a2 cs := w_ixL (atI_nat (j := 2) rfl)
theorem w_ixL3 {a0 a1 a2 a3 : D} {r : List D} : wpM (ixD (.lst (a0 :: a1 :: a2 :: a3 :: r)) (.int 3)) Q E cs = Q a3 cs := w_ixL (atI_nat (j := 3) rfl)
theorem w_itL {xs : List D} {Q : List D → CS → Prop} : wpM (itD (.lst xs)) Q E cs = Q xs cs := rfl
theorem w_seqL {xs : List D} {Q : List D → CS → Prop} : wpM (seqD (.lst xs)) Q E cs = Q xs cs := rfl
theorem w_lenT {xs : List D} : wpM (lenD (.tup xs)) Q E cs = Q (.int xs.length) cs := rfl
theorem w_ixT {xs : List D} {i : Int} {d : D} (h : atI xs i = some d) : wpM (ixD (.tup xs) (.int i)) Q E cs = Q d cs := by
  show wpM (atD xs i) Q E cs = _
  unfold atD
  rw [h]
  rfl
theorem w_ixT0 {a0 : D} {r : List D} : wpM (ixD (.tup (a0 :: r)) (.int 0)) Q E cs = Q a0 cs := w_ixT (atI_nat (j := 0) rfl)
theorem w_ixT1 {a0 a1 : D} {r : List D} : wpM (ixD (.tup (a0 :: a1 :: r)) (.int 1)) Q E cs = Q a1 cs := w_ixT (atI_nat (j := 1) rfl)
theorem w_ixT2 {a0 a1 a2 : D} {r : List D} : wpM (ixD (.tup (a0 :: a1 :: a2 :: r)) (.int 2)) Q E cs = Q a2 cs := w_ixT (atI_nat (j := 2) rfl)
theorem w_ixT3 {a0 a1 a2 a3 : D} {r : List D} : wpM (ixD (.tup (a0 :: a1 :: a2 :: a3 :: r)) (.int 3)) Q E cs = Q a3 cs := w_ixT (atI_nat (j := 3) rfl)
theorem w_itT {xs : List D} {Q : List D → CS → Prop} : wpM (itD (.tup xs)) Q E cs = Q xs cs := rfl
theorem w_seqT {xs : List D} {Q : List D → CS → Prop} : wpM (seqD (.tup xs)) Q E cs = Q xs cs := rfl
theorem w_lenR {xs : List D} : wpM (lenD (.rol xs)) Q E cs = Q (.int xs.length) cs := rfl
theorem w_ixR {xs : List D} {i : Int} {d : D} (h : atI xs i = some d) : wpM (ixD (.rol xs) (.int i)) Q E cs = Q d cs := by
  show wpM (atD xs i) Q E cs = _
  unfold atD
  rw [h]
  rfl
theorem w_ixR0 {a0 : D} {r : List D} : wpM (ixD (.rol (a0 :: r)) (.int 0)) Q E cs = Q a0 cs := w_ixR (atI_nat (j := 0) rfl)
theorem w_ixR1 {a0 a1 : D} {r : List D} : wpM (ixD (.rol (a0 :: a1 :: r)) (.int 1)) Q E cs = Q a1 cs := w_ixR (atI_nat (j := 1) rfl)
theorem w_ixR2 {a0 a1 a2 : D} {r : List D} : wpM (ixD (.rol (a0 :: a1 :: a2 :: r)) (.int 2)) Q E cs = Q a2 cs := w_ixR (atI_nat (j := 2) rfl)
theorem w_ixR3 {a0 a1 a2 a3 : D} {r : List D} : wpM (ixD (.rol (a0 :: a1 :: a2 :: a3 :: r)) (.int 3)) Q E cs = Q a3 cs := w_ixR (atI_nat (j := 3) rfl)
theorem w_itR {xs : List D} {Q : List D → CS → Prop} : wpM (itD (.rol xs)) Q E cs = Q xs cs := rfl
theorem w_seqR {xs : List D} {Q : List D → CS → Prop} : wpM (seqD (.rol xs)) Q E cs = Q xs cs := rfl
theorem w_itS {x : Str} {Q : List D → CS → Prop} : wpM (itD (.str x)) Q E cs = Q (chars x) cs := rfl
theorem w_slS {x : Str} {lo hi : Option Int} : wpM (slD (.str x) lo hi) Q E cs = (x.length ≤ sizeLine ∧ Q (.str (cutS x lo hi)) cs) := wpM_ifp
theorem w_slL {x : List D} {lo hi : Option Int} : wpM (slD (.lst x) lo hi) Q E cs = (few (cutG x lo hi) = true ∧ Q (.lst (cutG x lo hi)) cs) := wpM_if
theorem w_slR {x : List D} {lo hi : Option Int} : wpM (slD (.rol x) lo hi) Q E cs = (few (cutG x lo hi) = true ∧ Q (.lst (cutG x lo hi)) cs) := wpM_if
theorem w_slT {x : List D} {lo hi : Option Int} : wpM (slD (.tup x) lo hi) Q E cs = (few (cutG x lo hi) = true ∧ Q (.tup (cutG x lo hi)) cs) := wpM_if
theorem w_split {x y : Str} : wpM (splitD x (.str y)) Q E cs = (((y.length == 0) = false ∧ x.length + 2 ≤ sizeLine) ∧ Q (.lst ((Txt.split x y).map .str)) cs) := wpM_ifp
theorem strsOf_map : ∀ {ys : List Str}, strsOf (ys.map .str) = some ys
  | [] => rfl
  | y :: ys => by rw [List.map_cons, strsOf, strsOf_map]; rfl
theorem w_join {x : Str} {ys : List Str} : wpM (joinD x (.lst (ys.map .str))) Q E cs = ((ys.map (·.length)).sum + ys.length * x.length ≤ 16777216 ∧ Q (.str (Txt.join x ys)) cs) := by
  show wpM (match strsOf (ys.map .str) with | some ys => if (ys.map (·.length)).sum + ys.length * x.length ≤ 16777216 then pure (.str (Txt.join x ys)) else bad | none => bad) Q E cs = _
  rw [strsOf_map]
  exact wpM_ifp
theorem w_tuple {xs : List D} : wpM (tupD (.lst xs)) Q E cs = (few xs = true ∧ Q (.tup xs) cs) := wpM_if
theorem w_tupleT {xs : List D} : wpM (tupD (.tup xs)) Q E cs = Q (.tup xs) cs := rfl
theorem w_list {xs : List D} : wpM (listD (.lst xs)) Q E cs = (few xs = true ∧ Q (.lst xs) cs) := wpM_if
theorem w_listT {xs : List D} : wpM (listD (.tup xs)) Q E cs = (few xs = true ∧ Q (.lst xs) cs) := wpM_if
theorem w_upper {x : Str} : wpM (upperD (.str x)) Q E cs = (x.length ≤ 5592405 ∧ Q (.str (Txt.upper x)) cs) := wpM_ifp
theorem w_repl {x y z : Str} : wpM (replD y z (.str x)) Q E cs = (x.length + (x.length + 1) * z.length ≤ 16777216 ∧ Q (.str (Txt.replace x y z)) cs) := wpM_ifp
theorem w_repr {d : D} {p : PyData} (h : pyOf d = some p) (ok : reprOk p = true) : wpM (reprD d) Q E cs = Q (.str p.shown) cs := by
  have hd : deref d = pure d := by cases d <;> first | rfl | (simp only [pyOf] at h; cases h)
  unfold reprD
  rw [hd, wpM_bind, wpM_pure, h]
  show wpM (if reprOk p = true then pure (.str p.shown) else bad) Q E cs = _
  rw [ok]
  rfl
theorem w_rng1 {j : Int} {Q : List D → CS → Prop} : wpM (rng1 [.int j]) Q E cs = (rngOk 0 j = true ∧ Q (upTo 0 j.toNat) cs) := wpM_if
theorem w_rng2 {i j : Int} {Q : List D → CS → Prop} : wpM (rng2 [.int i, .int j]) Q E cs = (rngOk i j = true ∧ Q (upTo i (j - i).toNat) cs) := wpM_if
theorem w_sort {xs : List D} : wpM (sortD (.lst xs)) Q E cs = (sortOk xs = true ∧ few (xs.mergeSort leD) = true ∧ Q (.lst (xs.mergeSort leD)) cs) := wpM_if.trans (congrArg _ wpM_if)
theorem w_new {c : Cell} {l : List Cell} : wpM (newCell c) Q E (some l) = Q (.cell l.length) (some (l ++ [c])) := rfl
theorem w_cellM {f : DEnv → M (List D)} : wpM (cellM f env) Q E cs = wpM (f env) (fun xs => wpM (newCell (.lst xs)) Q E) E cs := wpM_bind
theorem w_ixC {xs : List D} {k : Nat} {i : Int} {d : D} (hc : cellAt cs k = some (.lst xs)) (h : atI xs i = some d) : wpM (ixD (.cell k) (.int i)) Q E cs = Q d cs := by
  show wpM (cellL k >>= fun xs => atD xs i) Q E cs = _
  rw [wpM_bind]
  have e : cellL k cs = .ok xs cs := by unfold cellL; rw [hc]
  rw [wpM_ok e]
  unfold atD
  rw [h]
  rfl
theorem w_inS {n : Bool} {c : Nat} {z : Str} : wpM (inD n (.str ⟨#[c]⟩) (.str z)) Q E cs = Q (.bl (if n then !decide (c ∈ z.cps.toList) else decide (c ∈ z.cps.toList))) cs := rfl
theorem wpM_someD {f : DEnv → M D} {Q : Option Int → CS → Prop} : wpM (f env >>= someI) Q E cs = wpM (f env) (fun d => wpM (someI d) Q E) E cs := wpM_bind
/-- an item's set in a cell -/
theorem wpS_subC {Q : Fl → DEnv → CS → Prop} {E : XS} {fo f fi : DEnv → M D} : wpS (subC fo f fi) Q E env cs = wpM (f env) (fun d => wpM (fo env) (fun o => wpM (fi env) (fun i cs => match o, i with
  | .cell k, .int n => (match cellAt cs k with
    | some (.lst xs) => (match putI xs n d with
      | some ys => (match putCell k (.lst ys) cs with | some cs' => Q .nx env cs' | none => False)
      | none => False)
    | _ => False)
  | _, _ => False) (fun e => E e env)) (fun e => E e env)) (fun e => E e env) cs := by
  unfold wpS wpM subC thenS
  simp only
  cases h : f env cs with
  | ok d cs1 =>
    simp only
    cases h2 : fo env cs1 with
    | ok o cs2 =>
      simp only
      cases h3 : fi env cs2 with
      | ok i cs3 =>
        simp only
        cases o <;> try rfl
        rename_i k
        cases i <;> try rfl
        rename_i n
        simp only
        cases h4 : cellAt cs3 k with
        | none => rfl
        | some c =>
          cases c with
          | ins _ _ _ => rfl
          | lst xs =>
            simp only
            cases h5 : putI xs n d with
            | none => rfl
            | some ys =>
              simp only
              cases putCell k (.lst ys) cs3 <;> rfl
      | _ => rfl
    | _ => rfl
  | _ => rfl
theorem env1_0 : envOf 1 [] = [none] := rfl
theorem env1_1 {a0 : D} : envOf 1 [a0] = [some (.sh a0)] := rfl
theorem env2_0 : envOf 2 [] = [none, none] := rfl
theorem env2_1 {a0 : D} : envOf 2 [a0] = [some (.sh a0), none] := rfl
theorem env2_2 {a0 a1 : D} : envOf 2 [a0, a1] = [some (.sh a0), some (.sh a1)] := rfl
theorem env3_0 : envOf 3 [] = [none, none, none] := rfl
theorem env3_1 {a0 : D} : envOf 3 [a0] = [some (.sh a0), none, none] := rfl
theorem env3_2 {a0 a1 : D} : envOf 3 [a0, a1] = [some (.sh a0), some (.sh a1), none] := rfl
theorem env3_3 {a0 a1 a2 : D} : envOf 3 [a0, a1, a2] = [some (.sh a0), some (.sh a1), some (.sh a2)] := rfl
theorem env4_0 : envOf 4 [] = [none, none, none, none] := rfl
theorem env4_1 {a0 : D} : envOf 4 [a0] = [some (.sh a0), none, none, none] := rfl
theorem env4_2 {a0 a1 : D} : envOf 4 [a0, a1] = [some (.sh a0), some (.sh a1), none, none] := rfl
theorem env4_3 {a0 a1 a2 : D} : envOf 4 [a0, a1, a2] = [some (.sh a0), some (.sh a1), some (.sh a2), none] := rfl
theorem env4_4 {a0 a1 a2 a3 : D} : envOf 4 [a0, a1, a2, a3] = [some (.sh a0), some (.sh a1), some (.sh a2), some (.sh a3)] := rfl
theorem env5_0 : envOf 5 [] = [none, none, none, none, none] := rfl
theorem env5_1 {a0 : D} : envOf 5 [a0] = [some (.sh a0), none, none, none, none] := rfl
theorem env5_2 {a0 a1 : D} : envOf 5 [a0, a1] = [some (.sh a0), some (.sh a1), none, none, none] := rfl
theorem env5_3 {a0 a1 a2 : D} : envOf 5 [a0, a1, a2] = [some (.sh a0), some (.sh a1), some (.sh a2), none, none] := rfl
theorem env5_4 {a0 a1 a2 a3 : D} : envOf 5 [a0, a1, a2, a3] = [some (.sh a0), some (.sh a1), some (.sh a2), some (.sh a3), none] := rfl
theorem env6_0 : envOf 6 [] = [none, none, none, none, none, none] := rfl
theorem env6_1 {a0 : D} : envOf 6 [a0] = [some (.sh a0), none, none, none, none, none] := rfl
theorem env6_2 {a0 a1 : D} : envOf 6 [a0, a1] = [some (.sh a0), some (.sh a1), none, none, none, none] := rfl
theorem env6_3 {a0 a1 a2 : D} : envOf 6 [a0, a1, a2] = [some (.sh a0), some (.sh a1), some (.sh a2), none, none, none] := rfl
theorem env6_4 {a0 a1 a2 a3 : D} : envOf 6 [a0, a1, a2, a3] = [some (.sh a0), some (.sh a1), some (.sh a2), some (.sh a3), none, none] := rfl
theorem env7_0 : envOf 7 [] = [none, none, none, none, none, none, none] := rfl
theorem env7_1 {a0 : D} : envOf 7 [a0] = [some (.sh a0), none, none, none, none, none, none] := rfl
theorem env7_2 {a0 a1 : D} : envOf 7 [a0, a1] = [some (.sh a0), some (.sh a1), none, none, none, none, none] := rfl
theorem env7_3 {a0 a1 a2 : D} : envOf 7 [a0, a1, a2] = [some (.sh a0), some (.sh a1), some (.sh a2), none, none, none, none] := rfl
theorem env7_4 {a0 a1 a2 a3 : D} : envOf 7 [a0, a1, a2, a3] = [some (.sh a0), some (.sh a1), some (.sh a2), some (.sh a3), none, none, none] := rfl
theorem env8_0 : envOf 8 [] = [none, none, none, none, none, none, none, none] := rfl
theorem env8_1 {a0 : D} : envOf 8 [a0] = [some (.sh a0), none, none, none, none, none, none, none] := rfl
theorem env8_2 {a0 a1 : D} : envOf 8 [a0, a1] = [some (.sh a0), some (.sh a1), none, none, none, none, none, none] := rfl
theorem env8_3 {a0 a1 a2 : D} : envOf 8 [a0, a1, a2] = [some (.sh a0), some (.sh a1), some (.sh a2), none, none, none, none, none] := rfl
theorem env8_4 {a0 a1 a2 a3 : D} : envOf 8 [a0, a1, a2, a3] = [some (.sh a0), some (.sh a1), some (.sh a2), some (.sh a3), none, none, none, none] := rfl
theorem env9_0 : envOf 9 [] = [none, none, none, none, none, none, none, none, none] := rfl
theorem env9_1 {a0 : D} : envOf 9 [a0] = [some (.sh a0), none, none, none, none, none, none, none, none] := rfl
theorem env9_2 {a0 a1 : D} : envOf 9 [a0, a1] = [some (.sh a0), some (.sh a1), none, none, none, none, none, none, none] := rfl
theorem env9_3 {a0 a1 a2 : D} : envOf 9 [a0, a1, a2] = [some (.sh a0), some (.sh a1), some (.sh a2), none, none, none, none, none, none] := rfl
theorem env9_4 {a0 a1 a2 a3 : D} : envOf 9 [a0, a1, a2, a3] = [some (.sh a0), some (.sh a1), some (.sh a2), some (.sh a3), none, none, none, none, none] := rfl
theorem env10_0 : envOf 10 [] = [none, none, none, none, none, none, none, none, none, none] := rfl
theorem env10_1 {a0 : D} : envOf 10 [a0] = [some (.sh a0), none, none, none, none, none, none, none, none, none] := rfl
theorem env10_2 {a0 a1 : D} : envOf 10 [a0, a1] = [some (.sh a0), some (.sh a1), none, none, none, none, none, none, none, none] := rfl
theorem env10_3 {a0 a1 a2 : D} : envOf 10 [a0, a1, a2] = [some (.sh a0), some (.sh a1), some (.sh a2), none, none, none, none, none, none, none] := rfl
theorem env10_4 {a0 a1 a2 a3 : D} : envOf 10 [a0, a1, a2, a3] = [some (.sh a0), some (.sh a1), some (.sh a2), some (.sh a3), none, none, none, none, none, none] := rfl
theorem env11_0 : envOf 11 [] = [none, none, none, none, none, none, none, none, none, none, none] := rfl
theorem env11_1 {a0 : D} : envOf 11 [a0] = [some (.sh a0), none, none, none, none, none, none, none, none, none, none] := rfl
theorem env11_2 {a0 a1 : D} : envOf 11 [a0, a1] = [some (.sh a0), some (.sh a1), none, none, none, none, none, none, none, none, none] := rfl
theorem env11_3 {a0 a1 a2 : D} : envOf 11 [a0, a1, a2] = [some (.sh a0), some (.sh a1), some (.sh a2), none, none, none, none, none, none, none, none] := rfl
theorem env11_4 {a0 a1 a2 a3 : D} : envOf 11 [a0, a1, a2, a3] = [some (.sh a0), some (.sh a1), some (.sh a2), some (.sh a3), none, none, none, none, none, none, none] := rfl
theorem w_run1 {a0 : D} {n : Nat} {body : SD} : wpM (runD n 1 body [a0]) Q E cs = wpS body (outR Q) (fun e _ => E e) (envOf n [a0]) cs := wpM_run rfl
theorem w_run2 {a0 a1 : D} {n : Nat} {body : SD} : wpM (runD n 2 body [a0, a1]) Q E cs = wpS body (outR Q) (fun e _ => E e) (envOf n [a0, a1]) cs := wpM_run rfl
theorem w_run3 {a0 a1 a2 : D} {n : Nat} {body : SD} : wpM (runD n 3 body [a0, a1, a2]) Q E cs = wpS body (outR Q) (fun e _ => E e) (envOf n [a0, a1, a2]) cs := wpM_run rfl
theorem w_run4 {a0 a1 a2 a3 : D} {n : Nat} {body : SD} : wpM (runD n 4 body [a0, a1, a2, a3]) Q E cs = wpS body (outR Q) (fun e _ => E e) (envOf n [a0, a1, a2, a3]) cs := wpM_run rfl
theorem wpM_of {α : Type} {m : M α} {a : α} {Q : α → CS → Prop} (h : wpM m (fun b c => b = a ∧ c = cs) noE cs) : wpM m Q E cs = Q a cs := wpM_ok (wpM_eq h)
def optI : Option Int → D
  | none => .non
  | some i => .int i
def optN : Option Nat → D
  | none => .non
  | some i => .int i
def optS : Option Str → D
  | none => .non
  | some x => .str x
theorem w_is_optI {o} : wpM (isD (optI o) .non) Q E cs = Q (.bl o.isNone) cs := by cases o <;> rfl
theorem w_isn_optI {o} : wpM (isNotD (optI o) .non) Q E cs = Q (.bl o.isSome) cs := by cases o <;> rfl
theorem w_is_optN {o} : wpM (isD (optN o) .non) Q E cs = Q (.bl o.isNone) cs := by cases o <;> rfl
theorem w_isn_optN {o} : wpM (isNotD (optN o) .non) Q E cs = Q (.bl o.isSome) cs := by cases o <;> rfl
theorem w_is_optS {o} : wpM (isD (optS o) .non) Q E cs = Q (.bl o.isNone) cs := by cases o <;> rfl
theorem w_isn_optS {o} : wpM (isNotD (optS o) .non) Q E cs = Q (.bl o.isSome) cs := by cases o <;> rfl
end
theorem sxd : type_of% (And.intro @wpS_seq (And.intro @onS_nx (And.intro @onS_rt (And.intro @onS_bk (And.intro @onS_ct (And.intro @wpS_skip (And.intro @wpS_if (And.intro @wpS_set (And.intro @wpS_setF (And.intro @wpS_ret (And.intro @wpS_expr (And.intro @wpS_asg (And.intro @wpS_par (And.intro @wpS_for (And.intro @wpS_raise (And.intro @wpS_try (And.intro @wpM_op2 (And.intro @wpM_consA (And.intro @wpM_tst (And.intro @wpM_nott (And.intro @wpM_andM (And.intro @wpM_orM (And.intro @wpM_andV (And.intro @wpM_orV (And.intro @wpM_ifM (And.intro @wpM_chain (And.intro @wpM_isB (And.intro @wpM_arg1 (And.intro @wpM_arg2 (And.intro @wpM_cut (And.intro @wpM_strOp (And.intro @wpM_strOnly (And.intro @wpM_someI (And.intro @wpM_lstM (And.intro @wpM_enumM (And.intro @wpM_comp (And.intro @wpM_bind (And.intro @w_slot0 (And.intro @w_slotB0 (And.intro @w_slotO0 (And.intro @w_app0 (And.intro @w_frz0 (And.intro @w_slot1 (And.intro @w_slotB1 (And.intro @w_slotO1 (And.intro @w_app1 (And.intro @w_frz1 (And.intro @w_slot2 (And.intro @w_slotB2 (And.intro @w_slotO2 (And.intro @w_app2 (And.intro @w_frz2 (And.intro @w_slot3 (And.intro @w_slotB3 (And.intro @w_slotO3 (And.intro @w_app3 (And.intro @w_frz3 (And.intro @w_slot4 (And.intro @w_slotB4 (And.intro @w_slotO4 (And.intro @w_app4 (And.intro @w_frz4 (And.intro @w_slot5 (And.intro @w_slotB5 (And.intro @w_slotO5 (And.intro @w_app5 (And.intro @w_frz5 (And.intro @w_slot6 (And.intro @w_slotB6 (And.intro @w_slotO6 (And.intro @w_app6 (And.intro @w_frz6 (And.intro @w_slot7 (And.intro @w_slotB7 (And.intro @w_slotO7 (And.intro @w_app7 (And.intro @w_frz7 (And.intro @w_slot8 (And.intro @w_slotB8 (And.intro @w_slotO8 (And.intro @w_app8 (And.intro @w_frz8 (And.intro @w_slot9 (And.intro @w_slotB9 (And.intro @w_slotO9 (And.intro @w_app9 (And.intro @w_frz9 (And.intro @w_slot10 (And.intro @w_slotB10 (And.intro @w_slotO10 (And.intro @w_app10 (And.intro @w_frz10 (And.intro @w_slot11 (And.intro @w_slotB11 (And.intro @w_slotO11 (And.intro @w_app11 (And.intro @w_frz11 (And.intro @w_pure (And.intro @w_ints (And.intro @w_intsA (And.intro @w_lt (And.intro @w_leq (And.intro @w_gt (And.intro @w_geq (And.intro @w_addI (And.intro @w_addS (And.intro @w_call0 (And.intro @w_call1 (And.intro @w_call2 (And.intro @w_call3 (And.intro @w_call4 (And.intro @w_call5 (And.intro @w_call6 (And.intro @w_call7 (And.intro @w_call8 (And.intro @w_tupM (And.intro @w_lstM (And.intro @w_fewM (And.intro @w_addT (And.intro @w_addL (And.intro @w_mulI (And.intro @w_mulS (And.intro @w_mulL (And.intro @w_neg (And.intro @w_not (And.intro @w_abs (And.intro @w_max2 (And.intro @w_min2 (And.intro @w_intI (And.intro @w_intB (And.intro @w_str (And.intro @w_isi_int_non (And.intro @w_isi_int_bl (And.intro @w_isi_int_int (And.intro @w_isi_int_str (And.intro @w_isi_int_tup (And.intro @w_isi_int_lst (And.intro @w_isi_int_dct (And.intro @w_isi_bool_non (And.intro @w_isi_bool_bl (And.intro @w_isi_bool_int (And.intro @w_isi_bool_str (And.intro @w_isi_bool_tup (And.intro @w_isi_bool_lst (And.intro @w_isi_bool_dct (And.intro @w_isi_str_non (And.intro @w_isi_str_bl (And.intro @w_isi_str_int (And.intro @w_isi_str_str (And.intro @w_isi_str_tup (And.intro @w_isi_str_lst (And.intro @w_isi_str_dct (And.intro @w_isi_tuple_non (And.intro @w_isi_tuple_bl (And.intro @w_isi_tuple_int (And.intro @w_isi_tuple_str (And.intro @w_isi_tuple_tup (And.intro @w_isi_tuple_lst (And.intro @w_isi_tuple_dct (And.intro @w_isi_list_non (And.intro @w_isi_list_bl (And.intro @w_isi_list_int (And.intro @w_isi_list_str (And.intro @w_isi_list_tup (And.intro @w_isi_list_lst (And.intro @w_isi_list_dct (And.intro @w_isi_dict_non (And.intro @w_isi_dict_bl (And.intro @w_isi_dict_int (And.intro @w_isi_dict_str (And.intro @w_isi_dict_tup (And.intro @w_isi_dict_lst (And.intro @w_isi_dict_dct (And.intro @w_is_non (And.intro @w_isn_non (And.intro @w_is_bl (And.intro @w_isn_bl (And.intro @w_is_int (And.intro @w_isn_int (And.intro @w_is_str (And.intro @w_isn_str (And.intro @w_is_tup (And.intro @w_isn_tup (And.intro @w_is_lst (And.intro @w_isn_lst (And.intro @w_is_dct (And.intro @w_isn_dct (And.intro @w_is_rol (And.intro @w_isn_rol (And.intro @w_is_cell (And.intro @w_isn_cell (And.intro @w_eqI (And.intro @w_eqS (And.intro @w_lenS (And.intro @w_lenL (And.intro @w_ixL0 (And.intro @w_ixL1 (And.intro @w_ixL2 (And.intro @w_ixL3 (And.intro @w_itL (And.intro @w_seqL (And.intro @w_lenT (And.intro @w_ixT0 (And.intro @w_ixT1 (And.intro @w_ixT2 (And.intro @w_ixT3 (And.intro @w_itT (And.intro @w_seqT (And.intro @w_lenR (And.intro @w_ixR0 (And.intro @w_ixR1 (And.intro @w_ixR2 (And.intro @w_ixR3 (And.intro @w_itR (And.intro @w_seqR (And.intro @w_itS (And.intro @w_slS (And.intro @w_slL (And.intro @w_slR (And.intro @w_slT (And.intro @w_split (And.intro @w_join (And.intro @w_tuple (And.intro @w_tupleT (And.intro @w_list (And.intro @w_listT (And.intro @w_upper (And.intro @w_repl (And.intro @w_rng1 (And.intro @w_rng2 (And.intro @w_sort (And.intro @w_new (And.intro @w_cellM (And.intro @w_inS (And.intro @wpM_someD (And.intro @wpS_subC (And.intro @w_run1 (And.intro @w_run2 (And.intro @w_run3 (And.intro @w_run4 (And.intro @w_is_optI (And.intro @w_isn_optI (And.intro @w_is_optN (And.intro @w_isn_optN (And.intro @w_is_optS (@w_isn_optS)))))))))))))))))))))))))))))))))))))))))))))))))))))))))))))))))))))))))))))))))))))))))))))))))))))))))))))))))))))))))))))))))))))))))))))))))))))))))))))))))))))))))))))))))))))))))))))))))))))))))))))))))))))))))))))))))))))))))))))))))))))) := And.intro @wpS_seq (And.intro @onS_nx (And.intro @onS_rt (And.intro @onS_bk (And.intro @onS_ct (And.intro @wpS_skip (And.intro @wpS_if (And.intro @wpS_set (And.intro @wpS_setF (And.intro @wpS_ret (And.intro @wpS_expr (And.intro @wpS_asg (And.intro @wpS_par (And.intro @wpS_for (And.intro @wpS_raise (And.intro @wpS_try (And.intro @wpM_op2 (And.intro @wpM_consA (And.intro @wpM_tst (And.intro @wpM_nott (And.intro @wpM_andM (And.intro @wpM_orM (And.intro @wpM_andV (And.intro @wpM_orV (And.intro @wpM_ifM (And.intro @wpM_chain (And.intro @wpM_isB (And.intro @wpM_arg1 (And.intro @wpM_arg2 (And.intro @wpM_cut (And.intro @wpM_strOp (And.intro @wpM_strOnly (And.intro @wpM_someI (And.intro @wpM_lstM (And.intro @wpM_enumM (And.intro @wpM_comp (And.intro @wpM_bind (And.intro @w_slot0 (And.intro @w_slotB0 (And.intro @w_slotO0 (And.intro @w_app0 (And.intro @w_frz0 (And.intro @w_slot1 (And.intro @w_slotB1 (And.intro @w_slotO1 (And.intro @w_app1 (And.intro @w_frz1 (And.intro @w_slot2 (And.intro @w_slotB2 (And.intro @w_slotO2 (And.intro @w_app2 (And.intro @w_frz2 (And.intro @w_slot3 (And.intro @w_slotB3 (And.intro @w_slotO3 (And.intro @w_app3 (And.intro @w_frz3 (And.intro @w_slot4 (And.intro @w_slotB4 (And.intro @w_slotO4 (And.intro @w_app4 (And.intro @w_frz4 (And.intro @w_slot5 (And.intro @w_slotB5 (And.intro @w_slotO5 (And.intro @w_app5 (And.intro @w_frz5 (And.intro @w_slot6 (And.intro @w_slotB6 (And.intro @w_slotO6 (And.intro @w_app6 (And.intro @w_frz6 (And.intro @w_slot7 (And.intro @w_slotB7 (And.intro @w_slotO7 (And.intro @w_app7 (And.intro @w_frz7 (And.intro @w_slot8 (And.intro @w_slotB8 (And.intro @w_slotO8 (And.intro @w_app8 (And.intro @w_frz8 (And.intro @w_slot9 (And.intro @w_slotB9 (And.intro @w_slotO9 (And.intro @w_app9 (And.intro @w_frz9 (And.intro @w_slot10 (And.intro @w_slotB10 (And.intro @w_slotO10 (And.intro @w_app10 (And.intro @w_frz10 (And.intro @w_slot11 (And.intro @w_slotB11 (And.intro @w_slotO11 (And.intro @w_app11 (And.intro @w_frz11 (And.intro @w_pure (And.intro @w_ints (And.intro @w_intsA (And.intro @w_lt (And.intro @w_leq (And.intro @w_gt (And.intro @w_geq (And.intro @w_addI (And.intro @w_addS (And.intro @w_call0 (And.intro @w_call1 (And.intro @w_call2 (And.intro @w_call3 (And.intro @w_call4 (And.intro @w_call5 (And.intro @w_call6 (And.intro @w_call7 (And.intro @w_call8 (And.intro @w_tupM (And.intro @w_lstM (And.intro @w_fewM (And.intro @w_addT (And.intro @w_addL (And.intro @w_mulI (And.intro @w_mulS (And.intro @w_mulL (And.intro @w_neg (And.intro @w_not (And.intro @w_abs (And.intro @w_max2 (And.intro @w_min2 (And.intro @w_intI (And.intro @w_intB (And.intro @w_str (And.intro @w_isi_int_non (And.intro @w_isi_int_bl (And.intro @w_isi_int_int (And.intro @w_isi_int_str (And.intro @w_isi_int_tup (And.intro @w_isi_int_lst (And.intro @w_isi_int_dct (And.intro @w_isi_bool_non (And.intro @w_isi_bool_bl (And.intro @w_isi_bool_int (And.intro @w_isi_bool_str (And.intro @w_isi_bool_tup (And.intro @w_isi_bool_lst (And.intro @w_isi_bool_dct (And.intro @w_isi_str_non (And.intro @w_isi_str_bl (And.intro @w_isi_str_int (And.intro @w_isi_str_str (And.intro @w_isi_str_tup (And.intro @w_isi_str_lst (And.intro @w_isi_str_dct (And.intro @w_isi_tuple_non (And.intro @w_isi_tuple_bl (And.intro @w_isi_tuple_int (And.intro @w_isi_tuple_str (And.intro @w_isi_tuple_tup (And.intro @w_isi_tuple_lst (And.intro @w_isi_tuple_dct (And.intro @w_isi_list_non (And.intro @w_isi_list_bl (And.intro @w_isi_list_int (And.intro @w_isi_list_str (And.intro @w_isi_list_tup (And.intro @w_isi_list_lst (And.intro @w_isi_list_dct (And.intro @w_isi_dict_non (And.intro @w_isi_dict_bl (And.intro @w_isi_dict_int (And.intro @w_isi_dict_str (And.intro @w_isi_dict_tup (And.intro @w_isi_dict_lst (And.intro @w_isi_dict_dct (And.intro @w_is_non (And.intro @w_isn_non (And.intro @w_is_bl (And.intro @w_isn_bl (And.intro @w_is_int (And.intro @w_isn_int (And.intro @w_is_str (And.intro @w_isn_str (And.intro @w_is_tup (And.intro @w_isn_tup (And.intro @w_is_lst (And.intro @w_isn_lst (And.intro @w_is_dct (And.intro @w_isn_dct (And.intro @w_is_rol (And.intro @w_isn_rol (And.intro @w_is_cell (And.intro @w_isn_cell (And.intro @w_eqI (And.intro @w_eqS (And.intro @w_lenS (And.intro @w_lenL (And.intro @w_ixL0 (And.intro @w_ixL1 (And.intro @w_ixL2 (And.intro @w_ixL3 (And.intro @w_itL (And.intro @w_seqL (And.intro @w_lenT (And.intro @w_ixT0 (And.intro @w_ixT1 (And.intro @w_ixT2 (And.intro @w_ixT3 (And.intro @w_itT (And.intro @w_seqT (And.intro @w_lenR (And.intro @w_ixR0 (And.intro @w_ixR1 (And.intro @w_ixR2 (And.intro @w_ixR3 (And.intro @w_itR (And.intro @w_seqR (And.intro @w_itS (And.intro @w_slS (And.intro @w_slL (And.intro @w_slR (And.intro @w_slT (And.intro @w_split (And.intro @w_join (And.intro @w_tuple (And.intro @w_tupleT (And.intro @w_list (And.intro @w_listT (And.intro @w_upper (And.intro @w_repl (And.intro @w_rng1 (And.intro @w_rng2 (And.intro @w_sort (And.intro @w_new (And.intro @w_cellM (And.intro @w_inS (And.intro @wpM_someD (And.intro @wpS_subC (And.intro @w_run1 (And.intro @w_run2 (And.intro @w_run3 (And.intro @w_run4 (And.intro @w_is_optI (And.intro @w_isn_optI (And.intro @w_is_optN (And.intro @w_isn_optN (And.intro @w_is_optS (@w_isn_optS)))))))))))))))))))))))))))))))))))))))))))))))))))))))))))))))))))))))))))))))))))))))))))))))))))))))))))))))))))))))))))))))))))))))))))))))))))))))))))))))))))))))))))))))))))))))))))))))))))))))))))))))))))))))))))))))))))))))))))))))))))))
theorem sxp : type_of% (And.intro @pow10_3 (And.intro @pow10_6 (And.intro @pow10_9 (And.intro @pow10_12 (And.intro @pow10_15 (And.intro @pow10_18 (And.intro @pow10_20 (And.intro @pow10_30 (And.intro @pow10_38 (And.intro @pow10_39 (And.intro @pow10_40 (And.intro @pow10_41 (And.intro @pow10_42 (And.intro @pow10_49 (And.intro @pow10_50 (And.intro @pow10_51 (And.intro @pow10_60 (And.intro @pow10_100 (And.intro @pow2_20 (And.intro @pow2_30 (And.intro @pow2_40 (And.intro @pow2_60 (And.intro @pow2_61 (And.intro @pow2_62 (And.intro @pow2_63 (And.intro @pow2_64 (And.intro @pow2_70 (And.intro @pow2_80 (And.intro @pow2_100 (And.intro @set0 (And.intro @get0 (And.intro @set1 (And.intro @get1 (And.intro @set2 (And.intro @get2 (And.intro @set3 (And.intro @get3 (And.intro @set4 (And.intro @get4 (And.intro @set5 (And.intro @get5 (And.intro @set6 (And.intro @get6 (And.intro @set7 (And.intro @get7 (And.intro @set8 (And.intro @get8 (And.intro @set9 (And.intro @get9 (And.intro @set10 (And.intro @get10 (And.intro @set11 (And.intro @get11 (And.intro @few0 (And.intro @few1 (And.intro @few2 (And.intro @few3 (And.intro @few4 (And.intro @few5 (And.intro @few6 (And.intro @few7 (And.intro @few8 (And.intro @env1_0 (And.intro @env1_1 (And.intro @env2_0 (And.intro @env2_1 (And.intro @env2_2 (And.intro @env3_0 (And.intro @env3_1 (And.intro @env3_2 (And.intro @env3_3 (And.intro @env4_0 (And.intro @env4_1 (And.intro @env4_2 (And.intro @env4_3 (And.intro @env4_4 (And.intro @env5_0 (And.intro @env5_1 (And.intro @env5_2 (And.intro @env5_3 (And.intro @env5_4 (And.intro @env6_0 (And.intro @env6_1 (And.intro @env6_2 (And.intro @env6_3 (And.intro @env6_4 (And.intro @env7_0 (And.intro @env7_1 (And.intro @env7_2 (And.intro @env7_3 (And.intro @env7_4 (And.intro @env8_0 (And.intro @env8_1 (And.intro @env8_2 (And.intro @env8_3 (And.intro @env8_4 (And.intro @env9_0 (And.intro @env9_1 (And.intro @env9_2 (And.intro @env9_3 (And.intro @env9_4 (And.intro @env10_0 (And.intro @env10_1 (And.intro @env10_2 (And.intro @env10_3 (And.intro @env10_4 (And.intro @env11_0 (And.intro @env11_1 (And.intro @env11_2 (And.intro @env11_3 (@env11_4))))))))))))))))))))))))))))))))))))))))))))))))))))))))))))))))))))))))))))))))))))))))))))))))))))))))))))))) := And.intro @pow10_3 (And.intro @pow10_6 (And.intro @pow10_9 (And.intro @pow10_12 (And.intro @pow10_15 (And.intro @pow10_18 (And.intro @pow10_20 (And.intro @pow10_30 (And.intro @pow10_38 (And.intro @pow10_39 (And.intro @pow10_40 (And.intro @pow10_41 (And.intro @pow10_42 (And.intro @pow10_49 (And.intro @pow10_50 (And.intro @pow10_51 (And.intro @pow10_60 (And.intro @pow10_100 (And.intro @pow2_20 (And.intro @pow2_30 (And.intro @pow2_40 (And.intro @pow2_60 (And.intro @pow2_61 (And.intro @pow2_62 (And.intro @pow2_63 (And.intro @pow2_64 (And.intro @pow2_70 (And.intro @pow2_80 (And.intro @pow2_100 (And.intro @set0 (And.intro @get0 (And.intro @set1 (And.intro @get1 (And.intro @set2 (And.intro @get2 (And.intro @set3 (And.intro @get3 (And.intro @set4 (And.intro @get4 (And.intro @set5 (And.intro @get5 (And.intro @set6 (And.intro @get6 (And.intro @set7 (And.intro @get7 (And.intro @set8 (And.intro @get8 (And.intro @set9 (And.intro @get9 (And.intro @set10 (And.intro @get10 (And.intro @set11 (And.intro @get11 (And.intro @few0 (And.intro @few1 (And.intro @few2 (And.intro @few3 (And.intro @few4 (And.intro @few5 (And.intro @few6 (And.intro @few7 (And.intro @few8 (And.intro @env1_0 (And.intro @env1_1 (And.intro @env2_0 (And.intro @env2_1 (And.intro @env2_2 (And.intro @env3_0 (And.intro @env3_1 (And.intro @env3_2 (And.intro @env3_3 (And.intro @env4_0 (And.intro @env4_1 (And.intro @env4_2 (And.intro @env4_3 (And.intro @env4_4 (And.intro @env5_0 (And.intro @env5_1 (And.intro @env5_2 (And.intro @env5_3 (And.intro @env5_4 (And.intro @env6_0 (And.intro @env6_1 (And.intro @env6_2 (And.intro @env6_3 (And.intro @env6_4 (And.intro @env7_0 (And.intro @env7_1 (And.intro @env7_2 (And.intro @env7_3 (And.intro @env7_4 (And.intro @env8_0 (And.intro @env8_1 (And.intro @env8_2 (And.intro @env8_3 (And.intro @env8_4 (And.intro @env9_0 (And.intro @env9_1 (And.intro @env9_2 (And.intro @env9_3 (And.intro @env9_4 (And.intro @env10_0 (And.intro @env10_1 (And.intro @env10_2 (And.intro @env10_3 (And.intro @env10_4 (And.intro @env11_0 (And.intro @env11_1 (And.intro @env11_2 (And.intro @env11_3 (@env11_4))))))))))))))))))))))))))))))))))))))))))))))))))))))))))))))))))))))))))))))))))))))))))))))))))))))))))))))
end Dn

end
set_option maxHeartbeats 4000000
section
namespace Dn
open PySem PySem.Spec L2
open PyProof.Rows hiding St
/-! ### texts of plain signs -/
def Asc (x : Str) : Prop := ∀ c ∈ x.cps.toList, c < 128
instance (x : Str) : Decidable (Asc x) := by unfold Asc; infer_instance
theorem Asc.ok {x : Str} (h : Asc x) : PyData.strOk x = true := by
  unfold PyData.strOk
  rw [Array.all_eq_true]
  intro i hi
  have := h (x.cps[i]) (by rw [Array.mem_toList_iff]; exact Array.getElem_mem hi)
  exact decide_eq_true (by omega)
theorem Asc.app {x y : Str} (a : Asc x) (b : Asc y) : Asc (x ++ y) := fun c h => by
  rw [cps_toList_append] at h
  exact (List.mem_append.mp h).elim (a c) (b c)
theorem Asc.cut {x : Str} (a : Asc x) (lo hi : Option Int) : Asc (cutS x lo hi) := fun c h => a c (by
  unfold cutS at h
  exact List.mem_of_mem_drop (List.mem_of_mem_take h))
theorem cut_len (x : Str) (lo hi : Option Int) : (cutS x lo hi).length ≤ x.length := by
  unfold cutS
  show ((x.cps.toList.drop _).take _).toArray.size ≤ x.cps.size
  rw [List.size_toArray, List.length_take, List.length_drop, Array.length_toList]
  omega
theorem mem_joined {y p : Str} {c : Nat} (hc : c ∈ p.cps.toList) : ∀ {ps : List Str}, p ∈ ps → c ∈ (Str.join y ps).cps.toList
  | [], h => by cases h
  | [q], h => by rw [List.mem_singleton.mp h] at hc; exact hc
  | q :: q2 :: r, h => by
    show c ∈ (q ++ y ++ Str.join y (q2 :: r)).cps.toList
    rw [cps_toList_append, cps_toList_append]
    rcases List.mem_cons.mp h with e | h
    · rw [e] at hc; exact List.mem_append_left _ (List.mem_append_left _ hc)
    · exact List.mem_append_right _ (mem_joined hc h)
theorem Asc.split {x : Str} (a : Asc x) (y : Str) : ∀ p ∈ Txt.split x y, Asc p := fun p hp c hc => a c (by
  have := mem_joined (y := y) hc hp
  rwa [StrLaws.join_split] at this)
theorem Asc.joinS {y : Str} (a : Asc y) : ∀ {ps : List Str}, (∀ p ∈ ps, Asc p) → Asc (Str.join y ps)
  | [], _ => fun c h => by simp [Str.join, Str.empty] at h
  | [q], h => h q (by simp)
  | q :: q2 :: r, h => ((h q (by simp)).app a).app (Asc.joinS a (ps := q2 :: r) fun p hp => h p (List.mem_cons_of_mem _ hp))
theorem Asc.join {y : Str} (a : Asc y) {ps : List Str} (h : ∀ p ∈ ps, Asc p) : Asc (Txt.join y ps) := by
  rw [TL.join_eq]
  exact a.joinS h
theorem Asc.repl {x z : Str} {c : Nat} (a : Asc x) (b : Asc z) : Asc (Txt.replace x ⟨#[c]⟩ z) := by
  rw [StrLaws.replace_one]
  exact b.joinS (a.split _)
theorem upper_asc : ∀ l : List Nat, (∀ c ∈ l, c < 128) → Asc (Txt.upper ⟨l.toArray⟩) ∧ (Txt.upper ⟨l.toArray⟩).length = l.length
  | [], _ => ⟨by decide +kernel, by decide +kernel⟩
  | c :: l, h => by
    obtain ⟨i1, i2⟩ := upper_asc l fun d hd => h d (List.mem_cons_of_mem _ hd)
    have e : (⟨(c :: l).toArray⟩ : Str) = ⟨#[c]⟩ ++ ⟨l.toArray⟩ := by
      refine Str.ext' ?_
      rw [Str.cps_append]
      simp
    have hc := h c (by simp)
    rw [e, PySem.W.KOpn.upper_app, PySem.W.KOpn.upper_one hc]
    constructor
    · refine Asc.app (fun d hd => ?_) i1
      have hd : d = if 97 ≤ c ∧ c ≤ 122 then c - 32 else c := by simpa using hd
      rw [hd]
      split <;> omega
    · rw [Str.length_append, i2]
      show 1 + _ = _
      rw [List.length_cons]
      omega
theorem Asc.upper {x : Str} (a : Asc x) : Asc (Txt.upper x) ∧ (Txt.upper x).length = x.length := by
  have e : x = ⟨x.cps.toList.toArray⟩ := Str.ext' (by simp)
  have h := upper_asc x.cps.toList a
  rw [← e] at h
  exact ⟨h.1, h.2.trans Array.length_toList⟩
/-! ### comprehensions that ask the same of each -/
section
variable {b : Bnd} {t : DEnv → M Bool} {el : DEnv → M D} {env : DEnv} {cs : CS}
theorem compL_pure {α : Type} (inj : α → D) (p : α → Bool) (g : α → D) : ∀ (xs : List α), (∀ x ∈ xs, ∃ env1, b (inj x) env = some env1 ∧ (∀ (Q : Bool → CS → Prop) E, wpM (t env1) Q E cs = Q (p x) cs) ∧ (p x = true → ∀ (Q : D → CS → Prop) E, wpM (el env1) Q E cs = Q (g x) cs)) →
    ∀ (Q : List D → CS → Prop) E, wpM (compL b t el env (xs.map inj)) Q E cs = Q ((xs.filter p).map g) cs
  | [], _, Q, E => rfl
  | x :: xs, h, Q, E => by
    obtain ⟨env1, e, ht, he⟩ := h x (by simp)
    rw [List.map_cons]
    unfold compL
    simp only [e]
    rw [wpM_bind, wpM_calm, ht]
    cases hp : p x with
    | false =>
      rw [List.filter_cons_of_neg (by rw [hp]; decide)]
      exact compL_pure inj p g xs (fun y hy => h y (List.mem_cons_of_mem _ hy)) Q E
    | true =>
      rw [List.filter_cons_of_pos hp]
      simp only [if_true]
      rw [wpM_bind, wpM_calm, he hp, wpM_bind]
      exact compL_pure inj p g xs (fun y hy => h y (List.mem_cons_of_mem _ hy)) _ E
end
/-! ### lists of small things -/
def flatI : D → Bool
  | .non => true
  | .bl _ => true
  | .int _ => true
  | _ => false
theorem flat_py : ∀ {xs : List D}, xs.all flatI = true → ∃ ps, pyAll xs = some ps ∧ PyData.canLayAll0 ps = true ∧ PyData.depthAll ps = 0 ∧ ps.length = xs.length
  | [], _ => ⟨[], by simp [pyAll], rfl, rfl, rfl⟩
  | x :: xs, h => by
    rw [List.all_cons, Bool.and_eq_true] at h
    obtain ⟨ps, e1, e2, e3, e4⟩ := flat_py h.2
    cases x with
    | non => exact ⟨.none :: ps, by simp [pyAll, pyOf, e1], by simp [PyData.canLayAll0, PyData.canLay0, e2], by simp [PyData.depthAll, PyData.depth, e3], by simp [e4]⟩
    | bl k => exact ⟨.bool k :: ps, by simp [pyAll, pyOf, e1], by simp [PyData.canLayAll0, PyData.canLay0, e2], by simp [PyData.depthAll, PyData.depth, e3], by simp [e4]⟩
    | int k => exact ⟨.int k :: ps, by simp [pyAll, pyOf, e1], by simp [PyData.canLayAll0, PyData.canLay0, e2], by simp [PyData.depthAll, PyData.depth, e3], by simp [e4]⟩
    | _ => cases h.1
theorem w_eqL0 {Q : D → CS → Prop} {E : XM} {cs : CS} {n : Bool} {xs : List D} (h : xs.all flatI = true) : wpM (eqD n (.lst xs) (.lst [])) Q E cs = Q (.bl (if n then !xs.isEmpty else xs.isEmpty)) cs := by
  obtain ⟨ps, e1, e2, e3, e4⟩ := flat_py h
  have p1 : pyOf (.lst xs) = some (.list ps) := by simp [pyOf, e1]
  have p2 : pyOf (.lst []) = some (.list []) := by simp [pyOf, pyAll]
  show wpM (match pyOf (.lst xs), pyOf (.lst []) with | some a, some b => if SeqAt.shaped a && SeqAt.shaped b then pure (.bl (if n then !PyData.eqv a b else PyData.eqv a b)) else bad | _, _ => bad) Q E cs = _
  rw [p1, p2]
  have s1 : SeqAt.shaped (.list ps) = true := by
    unfold SeqAt.shaped
    simp [PyData.canLay0, e2, PyData.depth, e3]
  have s2 : SeqAt.shaped (.list []) = true := by decide
  have q : PyData.eqv (.list ps) (.list []) = xs.isEmpty := by
    cases xs with
    | nil => cases ps <;> first | rfl | simp at e4
    | cons _ _ => cases ps <;> first | (simp at e4; done) | rfl
  show wpM (if (SeqAt.shaped (.list ps) && SeqAt.shaped (.list [])) = true then pure (.bl (if n then !PyData.eqv (.list ps) (.list []) else PyData.eqv (.list ps) (.list []))) else bad) Q E cs = _
  rw [s1, s2, q]
  rfl
end Dn

end
set_option maxHeartbeats 4000000
section
namespace Dn
open PySem PySem.Spec L2
open PyProof.Rows hiding St
/-! ### what repr shows: plain signs, not too many -/
theorem reprChar_asc : ∀ c, c < 128 → ∀ q ∈ [34, 39], ∀ d ∈ Builtin.Str.reprChar q c, d < 128 := by decide +kernel
theorem quote_two (x : Str) : reprQuote x ∈ [34, 39] := by
  unfold reprQuote
  split <;> simp
theorem fold_repr_asc {q : Nat} (hq : q ∈ [34, 39]) : ∀ (l : List Nat) (acc : Array Nat), (∀ c ∈ l, c < 128) → (∀ c ∈ acc.toList, c < 128) → ∀ c ∈ (l.foldl (fun out c => out ++ (Builtin.Str.reprChar q c).toArray) acc).toList, c < 128
  | [], acc, _, h => h
  | c :: r, acc, hl, h => by
    rw [List.foldl_cons]
    refine fold_repr_asc hq r _ (fun d hd => hl d (List.mem_cons_of_mem _ hd)) fun d hd => ?_
    rw [Array.toList_append] at hd
    rcases List.mem_append.mp hd with hd | hd
    · exact h d hd
    · exact reprChar_asc c (hl c (by simp)) q hq d hd
theorem reprText_asc {x : Str} (h : Asc x) : Asc (reprText x) := by
  intro c hc
  unfold reprText at hc
  have hq := quote_two x
  have hq2 : reprQuote x < 128 := by
    rcases List.mem_cons.mp hq with e | e
    · rw [e]; decide
    · rw [List.mem_singleton.mp e]; decide
  rw [Array.toList_push] at hc
  rcases List.mem_append.mp hc with hc | hc
  · rw [← Array.foldl_toList] at hc
    exact fold_repr_asc hq _ _ h (fun d hd => by rw [List.mem_singleton.mp hd]; exact hq2) c hc
  · rw [List.mem_singleton.mp hc]; exact hq2
open TL in
theorem tl_int (i : Int) : tl (Str.ofString (toString i)) = if i < 0 then 45 :: numL i.natAbs else numL i.natAbs := by
  cases i with
  | ofNat n =>
    rw [if_neg (show ¬ Int.ofNat n < 0 from Int.not_lt.mpr (Int.natCast_nonneg n))]
    exact tl_num n
  | negSucc n =>
    rw [if_pos (by omega)]
    have e : (toString (Int.negSucc n) : String) = "-" ++ toString (n + 1) := rfl
    rw [e, tl_ofString]
    have h := tl_num (n + 1)
    rw [tl_ofString] at h
    rw [String.toList_append, List.map_append]
    show [45] ++ _ = 45 :: _
    exact congrArg (45 :: ·) h
theorem int_asc (i : Int) : Asc (Str.ofString (toString i)) := by
  intro c hc
  have hd := TL.numL_digits i.natAbs
  have hc : c ∈ TL.tl (Str.ofString (toString i)) := hc
  rw [tl_int i] at hc
  split at hc
  · rcases List.mem_cons.mp hc with rfl | hc
    · decide
    · have := hd c hc; omega
  · have := hd c hc; omega
theorem int_len {i : Int} {k : Nat} (hk : 0 < k) (h : i.natAbs < 10 ^ k) : (Str.ofString (toString i)).length ≤ k + 1 := by
  have hl := TL.numL_len hk h
  rw [TL.len_tl, tl_int i]
  split
  · rw [List.length_cons]; omega
  · omega
theorem log_lt {i : Int} (h : i.natAbs < 10 ^ 500) : i.natAbs.log2 < 1920 := by
  by_cases h0 : i.natAbs = 0
  · rw [h0]; decide
  · have : i.natAbs < 2 ^ 1920 := Nat.lt_of_lt_of_le h (by decide +kernel)
    exact (Nat.log2_lt h0).mpr this
open Builtin in
theorem from_asc : ∀ (ts : List Str) (k : Nat) (acc : Str), (∀ t ∈ ts, Asc t) → Asc acc → Asc (textFrom k acc ts)
  | [], _, _, _, h => h
  | t :: r, k, acc, hs, h => by
    refine from_asc r (k + 1) _ (fun u hu => hs u (List.mem_cons_of_mem _ hu)) (Asc.app (h.app ?_) (hs t (by simp)))
    split <;> decide +kernel
theorem from_len : ∀ (ts : List Str) (k : Nat) (acc : Str), (textFrom k acc ts).length ≤ acc.length + (ts.map fun t => t.length + 2).sum
  | [], _, acc => by show acc.length ≤ _; omega
  | t :: r, k, acc => by
    have ih := from_len r (k + 1) (acc ++ (if k > 0 then ", " else "" : String) ++ t)
    have e : (acc ++ (if k > 0 then ", " else "" : String) ++ t).length ≤ acc.length + 2 + t.length := by
      rw [Str.length_append, Str.length_append]
      have : (Str.ofString (if k > 0 then ", " else "" : String)).length ≤ 2 := by split <;> decide +kernel
      omega
    rw [List.map_cons, List.sum_cons]
    show (textFrom (k + 1) (acc ++ (if k > 0 then ", " else "" : String) ++ t) r).length ≤ _
    omega
theorem join_len2 (ts : List Str) : (Str.join ", " ts).length ≤ (ts.map fun t => t.length + 2).sum := by
  have h := StrLaws.join_length_le ", " ts
  have e : (", " : Str).length = 2 := by decide +kernel
  have f : ∀ ts : List Str, (ts.map fun t => t.length + 2).sum = (ts.map (·.length)).sum + ts.length * 2 := fun ts => by
    induction ts with
    | nil => rfl
    | cons t r ih => rw [List.map_cons, List.sum_cons, ih, List.map_cons, List.sum_cons, List.length_cons]; omega
  rw [e] at h
  rw [f]
  exact h
mutual
/-- ints below 10 ^ 500, texts of plain signs -/
def okP : PyData → Prop
  | .none => True
  | .bool _ => True
  | .int i => i.natAbs < 10 ^ 500
  | .str x => Asc x
  | .list xs => okAll xs
  | .tuple xs => okAll xs
  | .dict _ => False
def okAll : List PyData → Prop
  | [] => True
  | x :: xs => okP x ∧ okAll xs
end
mutual
def szP : PyData → Nat
  | .none => 4
  | .bool _ => 5
  | .int _ => 501
  | .str x => 10 * x.length + 2
  | .list xs => 2 + szAll xs
  | .tuple xs => 3 + szAll xs
  | .dict _ => 0
def szAll : List PyData → Nat
  | [] => 0
  | x :: xs => szP x + 2 + szAll xs
end
mutual
theorem shown_ok : ∀ p : PyData, okP p → Asc p.shown ∧ p.shown.length ≤ szP p ∧ p.showable = true
  | .none, _ => ⟨by decide +kernel, by decide +kernel, rfl⟩
  | .bool b, _ => by cases b <;> exact ⟨by decide +kernel, by decide +kernel, rfl⟩
  | .int i, h => by
    simp only [okP] at h
    simp only [PyData.shown, szP, PyData.showable, decide_eq_true_eq]
    exact ⟨int_asc i, int_len (by decide) h, log_lt h⟩
  | .str x, h => by
    simp only [okP] at h
    simp only [PyData.shown, szP, PyData.showable]
    exact ⟨reprText_asc h, StrLaws.reprText_len x fun c hc => Nat.lt_trans (h c hc) (by decide), trivial⟩
  | .list xs, h => by
    simp only [okP] at h
    obtain ⟨h1, h2, h3⟩ := shownAll_ok xs h
    simp only [PyData.shown, szP, PyData.showable]
    refine ⟨(from_asc _ _ _ h1 (by decide +kernel)).app (by decide +kernel), ?_, h3⟩
    unfold listText
    rw [Str.length_append]
    have := from_len (PyData.shownAll xs) 0 "["
    have e1 : ("[" : Str).length = 1 := by decide +kernel
    have e2 : ("]" : Str).length = 1 := by decide +kernel
    omega
  | .tuple xs, h => by
    simp only [okP] at h
    obtain ⟨h1, h2, h3⟩ := shownAll_ok xs h
    simp only [PyData.shown, szP, PyData.showable]
    refine ⟨?_, ?_, h3⟩
    · unfold tupleText
      refine Asc.app (Asc.app (by decide +kernel) (Asc.joinS (by decide +kernel) h1)) ?_
      split <;> decide +kernel
    · unfold tupleText
      rw [Str.length_append, Str.length_append]
      have := join_len2 (PyData.shownAll xs)
      have e1 : ("(" : Str).length = 1 := by decide +kernel
      have e2 : (Str.ofString (if (PyData.shownAll xs).length == 1 then ",)" else ")" : String)).length ≤ 2 := by split <;> decide +kernel
      omega
  | .dict _, h => by simp only [okP] at h
theorem shownAll_ok : ∀ xs : List PyData, okAll xs → (∀ t ∈ PyData.shownAll xs, Asc t) ∧ ((PyData.shownAll xs).map fun t => t.length + 2).sum ≤ szAll xs ∧ PyData.showableAll xs = true
  | [], _ => ⟨by simp [PyData.shownAll], by simp [PyData.shownAll, szAll], rfl⟩
  | x :: xs, h => by
    simp only [okAll] at h
    obtain ⟨a1, a2, a3⟩ := shown_ok x h.1
    obtain ⟨b1, b2, b3⟩ := shownAll_ok xs h.2
    simp only [PyData.shownAll, PyData.showableAll, szAll, List.map_cons, List.sum_cons, a3, b3]
    refine ⟨fun t ht => ?_, by omega, rfl⟩
    rcases List.mem_cons.mp ht with rfl | ht
    · exact a1
    · exact b1 t ht
end
theorem reprOk_of {p : PyData} (h : okP p) (hz : szP p ≤ 16777216) (hd : p.depth ≤ 60) : reprOk p = true := by
  obtain ⟨h1, h2, h3⟩ := shown_ok p h
  unfold reprOk
  simp only [Bool.and_eq_true, decide_eq_true_eq]
  exact ⟨h3, by rw [sizeLine_eq]; omega, hd⟩
/-- what may be shown -/
structure Shows (d : D) (p : PyData) : Prop where
  py : pyOf d = some p
  ok : okP p
  sz : szP p ≤ 16777216
  dp : p.depth ≤ 60
section
variable {Q : D → CS → Prop} {E : XM} {cs : CS}
theorem Shows.repr {d : D} {p : PyData} (h : Shows d p) : wpM (reprD d) Q E cs = Q (.str p.shown) cs := w_repr h.py (reprOk_of h.ok h.sz h.dp)
theorem Shows.asc {d : D} {p : PyData} (h : Shows d p) : Asc p.shown := (shown_ok p h.ok).1
theorem Shows.strOk {d : D} {p : PyData} (h : Shows d p) : PyData.strOk p.shown = true := h.asc.ok
end
/-- .. built up -/
structure Sh (d : D) (p : PyData) (n k : Nat) : Prop where
  py : pyOf d = some p
  ok : okP p
  sz : szP p ≤ n
  dp : p.depth ≤ k
theorem Sh.shows {d : D} {p : PyData} {n k : Nat} (h : Sh d p n k) (hn : n ≤ 16777216) (hk : k ≤ 60) : Shows d p := ⟨h.py, h.ok, Nat.le_trans h.sz hn, Nat.le_trans h.dp hk⟩
theorem Sh.non : Sh .non .none 4 0 := ⟨by simp [pyOf], by simp [okP], by simp [szP], by simp [PyData.depth]⟩
theorem Sh.bl (b : Bool) : Sh (.bl b) (.bool b) 5 0 := ⟨by simp [pyOf], by simp [okP], by simp [szP], by simp [PyData.depth]⟩
theorem Sh.int {i : Int} (h : i.natAbs < 10 ^ 500) : Sh (.int i) (.int i) 501 0 := ⟨by simp [pyOf], by simpa only [okP] using h, by simp [szP], by simp [PyData.depth]⟩
theorem Sh.str {x : Str} (h : Asc x) : Sh (.str x) (.str x) (10 * x.length + 2) 0 := ⟨by simp [pyOf], by simpa only [okP] using h, by simp [szP], by simp [PyData.depth]⟩
theorem Sh.all {α : Type} {f : α → D} {g : α → PyData} {n k : Nat} : ∀ {xs : List α}, (∀ x ∈ xs, Sh (f x) (g x) n k) → pyAll (xs.map f) = some (xs.map g) ∧ okAll (xs.map g) ∧ szAll (xs.map g) ≤ xs.length * (n + 2) ∧ PyData.depthAll (xs.map g) ≤ k
  | [], _ => ⟨by simp [pyAll], by simp [okAll], by simp [szAll], by simp [PyData.depthAll]⟩
  | x :: xs, h => by
    obtain ⟨a1, a2, a3, a4⟩ := Sh.all (xs := xs) fun y hy => h y (List.mem_cons_of_mem _ hy)
    have b := h x (by simp)
    have c := b.sz
    have d := b.dp
    refine ⟨by simp [pyAll, b.py, a1], by simp only [List.map_cons, okAll]; exact ⟨b.ok, a2⟩, ?_, ?_⟩
    · simp only [List.map_cons, szAll, List.length_cons, Nat.add_mul]
      omega
    · simp only [List.map_cons, PyData.depthAll]
      omega
theorem Sh.tupM {α : Type} {f : α → D} {g : α → PyData} {n k : Nat} {xs : List α} (h : ∀ x ∈ xs, Sh (f x) (g x) n k) : Sh (.tup (xs.map f)) (.tuple (xs.map g)) (xs.length * (n + 2) + 3) (k + 1) := by
  obtain ⟨a1, a2, a3, a4⟩ := Sh.all h
  exact ⟨by simp [pyOf, a1], by simpa only [okP] using a2, by simp only [szP]; omega, by simp only [PyData.depth]; omega⟩
theorem Sh.lstM {α : Type} {f : α → D} {g : α → PyData} {n k : Nat} {xs : List α} (h : ∀ x ∈ xs, Sh (f x) (g x) n k) : Sh (.lst (xs.map f)) (.list (xs.map g)) (xs.length * (n + 2) + 3) (k + 1) := by
  obtain ⟨a1, a2, a3, a4⟩ := Sh.all h
  exact ⟨by simp [pyOf, a1], by simpa only [okP] using a2, by simp only [szP]; omega, by simp only [PyData.depth]; omega⟩
section
variable {a b c : D} {p q r : PyData} {n m l k : Nat}
theorem Sh.tup2 (h : Sh a p n k) (i : Sh b q m k) : Sh (.tup [a, b]) (.tuple [p, q]) (n + m + 7) (k + 1) := by
  have := h.sz
  have := i.sz
  have := h.dp
  have := i.dp
  exact ⟨by simp [pyOf, pyAll, h.py, i.py], by simp only [okP, okAll]; exact ⟨h.ok, i.ok, trivial⟩, by simp only [szP, szAll]; omega, by simp only [PyData.depth, PyData.depthAll]; omega⟩
theorem Sh.lst1 (h : Sh a p n k) : Sh (.lst [a]) (.list [p]) (n + 4) (k + 1) := by
  have := h.sz
  have := h.dp
  exact ⟨by simp [pyOf, pyAll, h.py], by simp only [okP, okAll]; exact ⟨h.ok, trivial⟩, by simp only [szP, szAll]; omega, by simp only [PyData.depth, PyData.depthAll]; omega⟩
theorem Sh.lst2 (h : Sh a p n k) (i : Sh b q m k) : Sh (.lst [a, b]) (.list [p, q]) (n + m + 6) (k + 1) := by
  have := h.sz
  have := i.sz
  have := h.dp
  have := i.dp
  exact ⟨by simp [pyOf, pyAll, h.py, i.py], by simp only [okP, okAll]; exact ⟨h.ok, i.ok, trivial⟩, by simp only [szP, szAll]; omega, by simp only [PyData.depth, PyData.depthAll]; omega⟩
theorem Sh.lst3 (h : Sh a p n k) (i : Sh b q m k) (j : Sh c r l k) : Sh (.lst [a, b, c]) (.list [p, q, r]) (n + m + l + 8) (k + 1) := by
  have := h.sz
  have := i.sz
  have := j.sz
  have := h.dp
  have := i.dp
  have := j.dp
  exact ⟨by simp [pyOf, pyAll, h.py, i.py, j.py], by simp only [okP, okAll]; exact ⟨h.ok, i.ok, j.ok, trivial⟩, by simp only [szP, szAll]; omega, by simp only [PyData.depth, PyData.depthAll]; omega⟩
theorem Sh.up (h : Sh a p n k) (hn : n ≤ m) (hk : k ≤ l) : Sh a p m l := ⟨h.py, h.ok, Nat.le_trans h.sz hn, Nat.le_trans h.dp hk⟩
end
end Dn

end
set_option maxHeartbeats 4000000
section
namespace K67
open PySem PySem.Spec PyProof.Rows L2 Dn
/-! ### the deck -/
def DeckOk (l : List Cell) (cs : CS) : Prop := ∃ g s n : Int, cs = some (.lst [.int g, .int s, .int n] :: l) ∧ 0 ≤ g ∧ 0 ≤ s ∧ s < 2305843009213693951
theorem small_mul {i j : Int} (h : i.natAbs < 2 ^ 64) : mulOk i j = true := by
  unfold mulOk
  rw [decide_eq_true h]
  rfl
theorem small_mulR {i j : Int} (h : j.natAbs < 2 ^ 64) : mulOk i j = true := by
  unfold mulOk
  rw [decide_eq_true h, Bool.or_true]
  rfl
theorem small_div {i j : Int} (h0 : 0 < j) (h : j < 2 ^ 64) : divOk i j = true := by
  unfold divOk
  rw [decide_eq_true h0, Bool.true_and]
  refine decide_eq_true ?_
  have : j.natAbs < 2 ^ 64 := by omega
  have := (Nat.log2_lt (by omega : j.natAbs ≠ 0)).mpr this
  omega
theorem take_wp {l : List Cell} {m : Int} {Q : D → CS → Prop} {E : XM} {cs : CS} (hd : DeckOk l cs) (h0 : 0 < m) (h1 : m < 2 ^ 64)
    (k : ∀ t cs', 0 ≤ t → t < m → DeckOk l cs' → Q (.int t) cs') : wpM (φ__law_take [.cell 0, .int m]) Q E cs := by
  obtain ⟨g, s, n, rfl, hg, hs, hs2⟩ := hd
  have c0 : ∀ g s n : Int, cellAt (some (.lst [.int g, .int s, .int n] :: l)) 0 = some (.lst [.int g, .int s, .int n]) := fun _ _ _ => rfl
  have a0 : ∀ g s n : Int, atI [D.int g, .int s, .int n] 0 = some (.int g) := fun _ _ _ => rfl
  have a1 : ∀ g s n : Int, atI [D.int g, .int s, .int n] 1 = some (.int s) := fun _ _ _ => rfl
  have a2 : ∀ g s n : Int, atI [D.int g, .int s, .int n] 2 = some (.int n) := fun _ _ _ => rfl
  simp only [φ__law_take, d__law_take, ↓reduceIte, decide_eq_true_eq, decide_true, decide_false, Bool.not_true, Bool.not_false, Bool.false_eq_true, true_and, and_true, eq_self, Bool.true_eq_false, reduceCtorEq, Bool.true_and, Bool.false_and, Bool.and_true, Bool.and_false, Option.isSome_some, Option.isSome_none, Option.isNone_some, Option.isNone_none, Int.cast_ofNat_Int, Nat.reduceAdd, Nat.reduceSub, Nat.reduceLT, Nat.reduceLeDiff, Nat.reduceEqDiff, Int.reduceLT, Int.reduceLE, Int.reduceEq, Int.reduceNeg, Int.reduceToNat, Int.reducePow, Int.reduceAdd, Int.reduceSub, List.length_cons, List.length_nil, Option.bind_some, ↓Dn.sxd, Dn.sxp, Dn.leaveW, Dn.turnW, Dn.outR, Dn.bName, Dn.bTup, Dn.bCons, Dn.bNil, Dn.wipeD, Dn.ite_ap, w_ixC (c0 _ _ _) (a0 _ _ _), w_ixC (c0 _ _ _) (a1 _ _ _), w_ixC (c0 _ _ _) (a2 _ _ _)]
  have pc : ∀ (u v : List D), putCell 0 (.lst v) (some (.lst u :: l)) = some (some (.lst v :: l)) := fun _ _ => rfl
  have p0 : ∀ (g s n x : Int), putI [D.int g, .int s, .int n] 0 (.int x) = some [.int x, .int s, .int n] := fun _ _ _ _ => rfl
  have p1 : ∀ (g s n x : Int), putI [D.int g, .int s, .int n] 1 (.int x) = some [.int g, .int x, .int n] := fun _ _ _ _ => rfl
  have p2 : ∀ (g s n x : Int), putI [D.int g, .int s, .int n] 2 (.int x) = some [.int g, .int s, .int x] := fun _ _ _ _ => rfl
  have e1 : ∀ i : Int, mulOk i 3202034522624059733 = true := fun i => small_mulR (by decide)
  have e2 : ∀ i : Int, mulOk 1181783497276652981 i = true := fun i => small_mul (by decide)
  have e3 : divOk g m = true := small_div h0 h1
  have e4 : ∀ g : Int, divOk g 4096 = true := fun _ => small_div (by decide) (by decide)
  have e5 : ∀ i : Int, mulOk (i % 2305843009213693951) (i % 2305843009213693951) = true := fun i => small_mul (by have := Int.emod_nonneg i (show (2305843009213693951 : Int) ≠ 0 by decide); have := Int.emod_lt_of_pos i (show (0 : Int) < 2305843009213693951 by decide); omega)
  have e6 : (0 : Int) < 2305843009213693951 := by decide
  have e7 : (0 : Int) < 2305843009213693921 := by decide
  have bd : ∀ i : Int, 0 ≤ i % m ∧ i % m < m := fun i => ⟨Int.emod_nonneg i (by omega), Int.emod_lt_of_pos i h0⟩
  by_cases hg' : 0 < g
  · simp only [hg', ↓reduceIte, decide_eq_true_eq, decide_true, decide_false, Bool.not_true, Bool.not_false, Bool.false_eq_true, true_and, and_true, eq_self, Bool.true_eq_false, reduceCtorEq, Bool.true_and, Bool.false_and, Bool.and_true, Bool.and_false, Option.isSome_some, Option.isSome_none, Option.isNone_some, Option.isNone_none, Int.cast_ofNat_Int, Nat.reduceAdd, Nat.reduceSub, Nat.reduceLT, Nat.reduceLeDiff, Nat.reduceEqDiff, Int.reduceLT, Int.reduceLE, Int.reduceEq, Int.reduceNeg, Int.reduceToNat, Int.reducePow, Int.reduceAdd, Int.reduceSub, List.length_cons, List.length_nil, Option.bind_some, ↓Dn.sxd, Dn.sxp, Dn.leaveW, Dn.turnW, Dn.outR, Dn.bName, Dn.bTup, Dn.bCons, Dn.bNil, Dn.wipeD, Dn.ite_ap, w_ixC (c0 _ _ _) (a0 _ _ _), c0, p0, pc, e3, h0]
    exact k _ _ (bd _).1 (bd _).2 ⟨_, _, _, rfl, Int.ediv_nonneg hg (by omega), hs, hs2⟩
  · simp only [hg', ↓reduceIte, decide_eq_true_eq, decide_true, decide_false, Bool.not_true, Bool.not_false, Bool.false_eq_true, true_and, and_true, eq_self, Bool.true_eq_false, reduceCtorEq, Bool.true_and, Bool.false_and, Bool.and_true, Bool.and_false, Option.isSome_some, Option.isSome_none, Option.isNone_some, Option.isNone_none, Int.cast_ofNat_Int, Nat.reduceAdd, Nat.reduceSub, Nat.reduceLT, Nat.reduceLeDiff, Nat.reduceEqDiff, Int.reduceLT, Int.reduceLE, Int.reduceEq, Int.reduceNeg, Int.reduceToNat, Int.reducePow, Int.reduceAdd, Int.reduceSub, List.length_cons, List.length_nil, Option.bind_some, ↓Dn.sxd, Dn.sxp, Dn.leaveW, Dn.turnW, Dn.outR, Dn.bName, Dn.bTup, Dn.bCons, Dn.bNil, Dn.wipeD, Dn.ite_ap, w_ixC (c0 _ _ _) (a0 _ _ _), w_ixC (c0 _ _ _) (a1 _ _ _), w_ixC (c0 _ _ _) (a2 _ _ _), c0, p0, p1, p2, pc, e1, e2, e4, e5, e6, e7, h0]
    exact k _ _ (bd _).1 (bd _).2 ⟨_, _, _, rfl, hg, Int.emod_nonneg _ (by decide), Int.emod_lt_of_pos _ (by decide)⟩
theorem take_wpN {l : List Cell} {m : Nat} {Q : D → CS → Prop} {E : XM} {cs : CS} (hd : DeckOk l cs) (h0 : 0 < m) (h1 : m < 2 ^ 64)
    (k : ∀ (t : Nat) cs', t < m → DeckOk l cs' → Q (.int t) cs') : wpM (φ__law_take [.cell 0, .int m]) Q E cs :=
  take_wp hd (by omega) (by omega) fun t cs' a b c => by
    have := k t.toNat cs' (by omega) c
    rwa [Int.toNat_of_nonneg a] at this
theorem pick_wp {l : List Cell} {xs : List D} {Q : D → CS → Prop} {E : XM} {cs : CS} (hd : DeckOk l cs) (h0 : xs ≠ []) (h1 : xs.length ≤ 16777216)
    (k : ∀ d ∈ xs, ∀ cs', DeckOk l cs' → Q d cs') : wpM (φ__law_pick [.cell 0, .lst xs]) Q E cs := by
  simp only [φ__law_pick, d__law_pick, ↓reduceIte, decide_eq_true_eq, decide_true, decide_false, Bool.not_true, Bool.not_false, Bool.false_eq_true, true_and, and_true, eq_self, Bool.true_eq_false, reduceCtorEq, Bool.true_and, Bool.false_and, Bool.and_true, Bool.and_false, Option.isSome_some, Option.isSome_none, Option.isNone_some, Option.isNone_none, Int.cast_ofNat_Int, Nat.reduceAdd, Nat.reduceSub, Nat.reduceLT, Nat.reduceLeDiff, Nat.reduceEqDiff, Int.reduceLT, Int.reduceLE, Int.reduceEq, Int.reduceNeg, Int.reduceToNat, Int.reducePow, Int.reduceAdd, Int.reduceSub, List.length_cons, List.length_nil, Option.bind_some, ↓Dn.sxd, Dn.sxp, Dn.leaveW, Dn.turnW, Dn.outR, Dn.bName, Dn.bTup, Dn.bCons, Dn.bNil, Dn.wipeD, Dn.ite_ap]
  refine take_wpN hd (List.length_pos_iff.mpr h0) (by omega) fun t cs' ht hd' => ?_
  rw [w_ixL (atI_nat (List.getElem?_eq_getElem ht))]
  exact k _ (List.getElem_mem ht) _ hd'
theorem pow18 : powOk 10 18 = true := by decide
def IDeck (ns : List Int) (xs : List D) (env : DEnv) (cs : CS) : Prop := ∃ (ms : List Int) (g s : Int) (a b : Option Slot), xs = ms.map D.int ∧ env = [some (.sh (.rol (ns.map D.int))), some (.sh (.int g)), some (.sh (.int s)), a, b] ∧ cs = some [] ∧ 0 ≤ g ∧ 0 ≤ s ∧ s < 2305843009213693951
theorem deck_wp {ns : List Int} {Q : D → CS → Prop} {E : XM} (h : ns.length ≤ 63) (k : ∀ cs', DeckOk [] cs' → Q (.cell 0) cs') : wpM (φ__law_deck [.rol (ns.map .int)]) Q E (some []) := by
  have hl : (ns.map D.int).length ≤ 16777216 := by rw [List.length_map]; omega
  have hf : few (cutG (ns.map D.int) none (some 63)) = true := few_le (by unfold cutG; rw [List.length_take, List.length_drop]; omega)
  simp only [φ__law_deck, d__law_deck, ↓reduceIte, decide_eq_true_eq, decide_true, decide_false, Bool.not_true, Bool.not_false, Bool.false_eq_true, true_and, and_true, eq_self, Bool.true_eq_false, reduceCtorEq, Bool.true_and, Bool.false_and, Bool.and_true, Bool.and_false, Option.isSome_some, Option.isSome_none, Option.isNone_some, Option.isNone_none, Int.cast_ofNat_Int, Nat.reduceAdd, Nat.reduceSub, Nat.reduceLT, Nat.reduceLeDiff, Nat.reduceEqDiff, Int.reduceLT, Int.reduceLE, Int.reduceEq, Int.reduceNeg, Int.reduceToNat, Int.reducePow, Int.reduceAdd, Int.reduceSub, List.length_cons, List.length_nil, Option.bind_some, ↓Dn.sxd, Dn.sxp, Dn.leaveW, Dn.turnW, Dn.outR, Dn.bName, Dn.bTup, Dn.bCons, Dn.bNil, Dn.wipeD, Dn.ite_ap, small_mul (i := 37) (by decide), hf]
  have he : ∃ ms : List Int, cutG (ns.map D.int) none (some 63) = ms.map D.int := ⟨(ns.drop (HT.sIx ns.length 0 none)).take (HT.sIx ns.length ns.length (some 63) - HT.sIx ns.length 0 none), by unfold cutG; rw [List.length_map, List.map_take, List.map_drop]⟩
  obtain ⟨ms, he⟩ := he
  rw [he]
  clear he hf
  refine wpS_loop (IDeck ns) ?_ ?_ _ _ _ ⟨ms, _, _, _, _, rfl, rfl, rfl, Int.le_refl 0, by omega, by simp only [List.length_map]; omega⟩
  · rintro x xs env cs ⟨ms, g, s, a, b, e1, rfl, rfl, hg, hs, hs2⟩
    cases ms with
    | nil => cases e1
    | cons m ms =>
      cases e1
      refine ⟨_, rfl, ?_⟩
      have e6 : (0 : Int) < 2305843009213693951 := by decide
      have e1 : ∀ i : Int, mulOk i 3202034522624059733 = true := fun i => small_mulR (by decide)
      simp only [↓reduceIte, decide_eq_true_eq, decide_true, decide_false, Bool.not_true, Bool.not_false, Bool.false_eq_true, true_and, and_true, eq_self, Bool.true_eq_false, reduceCtorEq, Bool.true_and, Bool.false_and, Bool.and_true, Bool.and_false, Option.isSome_some, Option.isSome_none, Option.isNone_some, Option.isNone_none, Int.cast_ofNat_Int, Nat.reduceAdd, Nat.reduceSub, Nat.reduceLT, Nat.reduceLeDiff, Nat.reduceEqDiff, Int.reduceLT, Int.reduceLE, Int.reduceEq, Int.reduceNeg, Int.reduceToNat, Int.reducePow, Int.reduceAdd, Int.reduceSub, List.length_cons, List.length_nil, Option.bind_some, ↓Dn.sxd, Dn.sxp, Dn.leaveW, Dn.turnW, Dn.outR, Dn.bName, Dn.bTup, Dn.bCons, Dn.bNil, Dn.wipeD, Dn.ite_ap, pow18]
      by_cases hm : (1000000000000000000 : Int) ≤ m
      · simp only [↓reduceIte, decide_eq_true_eq, decide_true, decide_false, Bool.not_true, Bool.not_false, Bool.false_eq_true, true_and, and_true, eq_self, Bool.true_eq_false, reduceCtorEq, Bool.true_and, Bool.false_and, Bool.and_true, Bool.and_false, Option.isSome_some, Option.isSome_none, Option.isNone_some, Option.isNone_none, Int.cast_ofNat_Int, Nat.reduceAdd, Nat.reduceSub, Nat.reduceLT, Nat.reduceLeDiff, Nat.reduceEqDiff, Int.reduceLT, Int.reduceLE, Int.reduceEq, Int.reduceNeg, Int.reduceToNat, Int.reducePow, Int.reduceAdd, Int.reduceSub, List.length_cons, List.length_nil, Option.bind_some, ↓Dn.sxd, Dn.sxp, Dn.leaveW, Dn.turnW, Dn.outR, Dn.bName, Dn.bTup, Dn.bCons, Dn.bNil, Dn.wipeD, Dn.ite_ap, hm, pow18, small_mulR (j := 43) (by decide)]
        exact ⟨ms, _, _, _, _, rfl, rfl, rfl, by omega, hs, hs2⟩
      · simp only [↓reduceIte, decide_eq_true_eq, decide_true, decide_false, Bool.not_true, Bool.not_false, Bool.false_eq_true, true_and, and_true, eq_self, Bool.true_eq_false, reduceCtorEq, Bool.true_and, Bool.false_and, Bool.and_true, Bool.and_false, Option.isSome_some, Option.isSome_none, Option.isNone_some, Option.isNone_none, Int.cast_ofNat_Int, Nat.reduceAdd, Nat.reduceSub, Nat.reduceLT, Nat.reduceLeDiff, Nat.reduceEqDiff, Int.reduceLT, Int.reduceLE, Int.reduceEq, Int.reduceNeg, Int.reduceToNat, Int.reducePow, Int.reduceAdd, Int.reduceSub, List.length_cons, List.length_nil, Option.bind_some, ↓Dn.sxd, Dn.sxp, Dn.leaveW, Dn.turnW, Dn.outR, Dn.bName, Dn.bTup, Dn.bCons, Dn.bNil, Dn.wipeD, Dn.ite_ap, hm, e1, small_mul (i := 2) (by decide), e6]
        exact ⟨ms, _, _, _, _, rfl, rfl, rfl, hg, Int.emod_nonneg _ (by decide), Int.emod_lt_of_pos _ (by decide)⟩
  · rintro env cs ⟨ms, g, s, a, b, e1, rfl, rfl, hg, hs, hs2⟩
    simp only [↓reduceIte, decide_eq_true_eq, decide_true, decide_false, Bool.not_true, Bool.not_false, Bool.false_eq_true, true_and, and_true, eq_self, Bool.true_eq_false, reduceCtorEq, Bool.true_and, Bool.false_and, Bool.and_true, Bool.and_false, Option.isSome_some, Option.isSome_none, Option.isNone_some, Option.isNone_none, Int.cast_ofNat_Int, Nat.reduceAdd, Nat.reduceSub, Nat.reduceLT, Nat.reduceLeDiff, Nat.reduceEqDiff, Int.reduceLT, Int.reduceLE, Int.reduceEq, Int.reduceNeg, Int.reduceToNat, Int.reducePow, Int.reduceAdd, Int.reduceSub, List.length_cons, List.length_nil, Option.bind_some, ↓Dn.sxd, Dn.sxp, Dn.leaveW, Dn.turnW, Dn.outR, Dn.bName, Dn.bTup, Dn.bCons, Dn.bNil, Dn.wipeD, Dn.ite_ap]
    exact k _ ⟨_, _, _, rfl, hg, hs, hs2⟩
/-! ### a row, a sheet: what is wrong with it -/
abbrev W40 : Int := 10000000000000000000000000000000000000000
abbrev V50 : Int := 100000000000000000000000000000000000000000000000000
abbrev Row := Option Int × Option Int
def okB (n : Int) : Option Int → Bool
  | none => true
  | some i => decide (-n ≤ i) && decide (i ≤ n)
def rowD (r : Row) : D := .tup [optI r.1, optI r.2]
def sheetD (s : List Row) : D := .tup (s.map rowD)
def rowWord (r : Row) : Option Str := if okB W40 r.1 = false then some "worth" else if okB V50 r.2 = false then some "value" else none
def behind (o a : Option Int) : Bool := match o with
  | none => true
  | some i => (match a with
    | none => false
    | some j => decide (j ≤ i))
def wordAt (s : List Row) (k : Nat) (r : Row) : Option Str := match rowWord r with
  | some w => some w
  | none => if 0 < k ∧ behind r.1 ((s.getD (k - 1) (none, none)).1) = false then some "order" else none
def errFrom (s : List Row) : Nat → List Row → Option (Nat × Str)
  | _, [] => none
  | k, r :: rs => match wordAt s k r with
    | some w => some (k, w)
    | none => errFrom s (k + 1) rs
def sheetErr (s : List Row) : Option (Option Nat × Str) := if 60 < s.length then some (none, "sheet") else (errFrom s 0 s).map fun p => (some p.1, p.2)
def errD : Option (Option Nat × Str) → D
  | none => .non
  | some p => .tup [optN p.1, .str p.2]
section
variable {Q : D → CS → Prop} {E : XM} {cs : CS}
theorem isint_wp {i lo hi : Int} : wpM (φ_is_integer [.int i, .int lo, .int hi]) Q E cs = Q (.bl (decide (lo ≤ i) && decide (i ≤ hi))) cs := by
  simp only [φ_is_integer, d_is_integer, ↓reduceIte, decide_eq_true_eq, decide_true, decide_false, Bool.not_true, Bool.not_false, Bool.false_eq_true, true_and, and_true, eq_self, Bool.true_eq_false, reduceCtorEq, Bool.true_and, Bool.false_and, Bool.and_true, Bool.and_false, Option.isSome_some, Option.isSome_none, Option.isNone_some, Option.isNone_none, Int.cast_ofNat_Int, Nat.reduceAdd, Nat.reduceSub, Nat.reduceLT, Nat.reduceLeDiff, Nat.reduceEqDiff, Int.reduceLT, Int.reduceLE, Int.reduceEq, Int.reduceNeg, Int.reduceToNat, Int.reducePow, Int.reduceAdd, Int.reduceSub, List.length_cons, List.length_nil, Option.bind_some, ↓Dn.sxd, Dn.sxp, Dn.leaveW, Dn.turnW, Dn.outR, Dn.bName, Dn.bTup, Dn.bCons, Dn.bNil, Dn.wipeD, Dn.ite_ap]
  by_cases h : lo ≤ i <;> simp only [h, ↓reduceIte, decide_eq_true_eq, decide_true, decide_false, Bool.not_true, Bool.not_false, Bool.false_eq_true, true_and, and_true, eq_self, Bool.true_eq_false, reduceCtorEq, Bool.true_and, Bool.false_and, Bool.and_true, Bool.and_false, Option.isSome_some, Option.isSome_none, Option.isNone_some, Option.isNone_none, Int.cast_ofNat_Int, Nat.reduceAdd, Nat.reduceSub, Nat.reduceLT, Nat.reduceLeDiff, Nat.reduceEqDiff, Int.reduceLT, Int.reduceLE, Int.reduceEq, Int.reduceNeg, Int.reduceToNat, Int.reducePow, Int.reduceAdd, Int.reduceSub, List.length_cons, List.length_nil, Option.bind_some, ↓Dn.sxd, Dn.sxp, Dn.leaveW, Dn.turnW, Dn.outR, Dn.bName, Dn.bTup, Dn.bCons, Dn.bNil, Dn.wipeD, Dn.ite_ap, Bool.true_and, Bool.false_and]
theorem lisint_wp {i lo hi : Int} : wpM (φ__law_is_int [.int i, .int lo, .int hi]) Q E cs = Q (.bl (decide (lo ≤ i) && decide (i ≤ hi))) cs := by
  simp only [φ__law_is_int, d__law_is_int, ↓reduceIte, decide_eq_true_eq, decide_true, decide_false, Bool.not_true, Bool.not_false, Bool.false_eq_true, true_and, and_true, eq_self, Bool.true_eq_false, reduceCtorEq, Bool.true_and, Bool.false_and, Bool.and_true, Bool.and_false, Option.isSome_some, Option.isSome_none, Option.isNone_some, Option.isNone_none, Int.cast_ofNat_Int, Nat.reduceAdd, Nat.reduceSub, Nat.reduceLT, Nat.reduceLeDiff, Nat.reduceEqDiff, Int.reduceLT, Int.reduceLE, Int.reduceEq, Int.reduceNeg, Int.reduceToNat, Int.reducePow, Int.reduceAdd, Int.reduceSub, List.length_cons, List.length_nil, Option.bind_some, ↓Dn.sxd, Dn.sxp, Dn.leaveW, Dn.turnW, Dn.outR, Dn.bName, Dn.bTup, Dn.bCons, Dn.bNil, Dn.wipeD, Dn.ite_ap]
  by_cases h : lo ≤ i <;> simp only [h, ↓reduceIte, decide_eq_true_eq, decide_true, decide_false, Bool.not_true, Bool.not_false, Bool.false_eq_true, true_and, and_true, eq_self, Bool.true_eq_false, reduceCtorEq, Bool.true_and, Bool.false_and, Bool.and_true, Bool.and_false, Option.isSome_some, Option.isSome_none, Option.isNone_some, Option.isNone_none, Int.cast_ofNat_Int, Nat.reduceAdd, Nat.reduceSub, Nat.reduceLT, Nat.reduceLeDiff, Nat.reduceEqDiff, Int.reduceLT, Int.reduceLE, Int.reduceEq, Int.reduceNeg, Int.reduceToNat, Int.reducePow, Int.reduceAdd, Int.reduceSub, List.length_cons, List.length_nil, Option.bind_some, ↓Dn.sxd, Dn.sxp, Dn.leaveW, Dn.turnW, Dn.outR, Dn.bName, Dn.bTup, Dn.bCons, Dn.bNil, Dn.wipeD, Dn.ite_ap, Bool.true_and, Bool.false_and]
theorem worth_wp {o : Option Int} : wpM (φ_is_worth [optI o]) Q E cs = Q (.bl (okB W40 o)) cs := by
  cases o <;> simp only [optI, okB, φ_is_worth, d_is_worth, ↓reduceIte, decide_eq_true_eq, decide_true, decide_false, Bool.not_true, Bool.not_false, Bool.false_eq_true, true_and, and_true, eq_self, Bool.true_eq_false, reduceCtorEq, Bool.true_and, Bool.false_and, Bool.and_true, Bool.and_false, Option.isSome_some, Option.isSome_none, Option.isNone_some, Option.isNone_none, Int.cast_ofNat_Int, Nat.reduceAdd, Nat.reduceSub, Nat.reduceLT, Nat.reduceLeDiff, Nat.reduceEqDiff, Int.reduceLT, Int.reduceLE, Int.reduceEq, Int.reduceNeg, Int.reduceToNat, Int.reducePow, Int.reduceAdd, Int.reduceSub, List.length_cons, List.length_nil, Option.bind_some, ↓Dn.sxd, Dn.sxp, Dn.leaveW, Dn.turnW, Dn.outR, Dn.bName, Dn.bTup, Dn.bCons, Dn.bNil, Dn.wipeD, Dn.ite_ap, isint_wp]
theorem value_wp {o : Option Int} : wpM (φ_is_value [optI o]) Q E cs = Q (.bl (okB V50 o)) cs := by
  cases o <;> simp only [optI, okB, φ_is_value, d_is_value, ↓reduceIte, decide_eq_true_eq, decide_true, decide_false, Bool.not_true, Bool.not_false, Bool.false_eq_true, true_and, and_true, eq_self, Bool.true_eq_false, reduceCtorEq, Bool.true_and, Bool.false_and, Bool.and_true, Bool.and_false, Option.isSome_some, Option.isSome_none, Option.isNone_some, Option.isNone_none, Int.cast_ofNat_Int, Nat.reduceAdd, Nat.reduceSub, Nat.reduceLT, Nat.reduceLeDiff, Nat.reduceEqDiff, Int.reduceLT, Int.reduceLE, Int.reduceEq, Int.reduceNeg, Int.reduceToNat, Int.reducePow, Int.reduceAdd, Int.reduceSub, List.length_cons, List.length_nil, Option.bind_some, ↓Dn.sxd, Dn.sxp, Dn.leaveW, Dn.turnW, Dn.outR, Dn.bName, Dn.bTup, Dn.bCons, Dn.bNil, Dn.wipeD, Dn.ite_ap, isint_wp]
theorem row_word_wp {r : Row} : wpM (φ_row_word [rowD r]) Q E cs = Q (optS (rowWord r)) cs := by
  simp only [φ_row_word, d_row_word, rowD, rowWord, ↓reduceIte, decide_eq_true_eq, decide_true, decide_false, Bool.not_true, Bool.not_false, Bool.false_eq_true, true_and, and_true, eq_self, Bool.true_eq_false, reduceCtorEq, Bool.true_and, Bool.false_and, Bool.and_true, Bool.and_false, Option.isSome_some, Option.isSome_none, Option.isNone_some, Option.isNone_none, Int.cast_ofNat_Int, Nat.reduceAdd, Nat.reduceSub, Nat.reduceLT, Nat.reduceLeDiff, Nat.reduceEqDiff, Int.reduceLT, Int.reduceLE, Int.reduceEq, Int.reduceNeg, Int.reduceToNat, Int.reducePow, Int.reduceAdd, Int.reduceSub, List.length_cons, List.length_nil, Option.bind_some, ↓Dn.sxd, Dn.sxp, Dn.leaveW, Dn.turnW, Dn.outR, Dn.bName, Dn.bTup, Dn.bCons, Dn.bNil, Dn.wipeD, Dn.ite_ap, worth_wp, value_wp]
  cases h : okB W40 r.1 <;> simp only [↓reduceIte, decide_eq_true_eq, decide_true, decide_false, Bool.not_true, Bool.not_false, Bool.false_eq_true, true_and, and_true, eq_self, Bool.true_eq_false, reduceCtorEq, Bool.true_and, Bool.false_and, Bool.and_true, Bool.and_false, Option.isSome_some, Option.isSome_none, Option.isNone_some, Option.isNone_none, Int.cast_ofNat_Int, Nat.reduceAdd, Nat.reduceSub, Nat.reduceLT, Nat.reduceLeDiff, Nat.reduceEqDiff, Int.reduceLT, Int.reduceLE, Int.reduceEq, Int.reduceNeg, Int.reduceToNat, Int.reducePow, Int.reduceAdd, Int.reduceSub, List.length_cons, List.length_nil, Option.bind_some, ↓Dn.sxd, Dn.sxp, Dn.leaveW, Dn.turnW, Dn.outR, Dn.bName, Dn.bTup, Dn.bCons, Dn.bNil, Dn.wipeD, Dn.ite_ap, value_wp, optS]
  cases h : okB V50 r.2 <;> simp only [↓reduceIte, decide_eq_true_eq, decide_true, decide_false, Bool.not_true, Bool.not_false, Bool.false_eq_true, true_and, and_true, eq_self, Bool.true_eq_false, reduceCtorEq, Bool.true_and, Bool.false_and, Bool.and_true, Bool.and_false, Option.isSome_some, Option.isSome_none, Option.isNone_some, Option.isNone_none, Int.cast_ofNat_Int, Nat.reduceAdd, Nat.reduceSub, Nat.reduceLT, Nat.reduceLeDiff, Nat.reduceEqDiff, Int.reduceLT, Int.reduceLE, Int.reduceEq, Int.reduceNeg, Int.reduceToNat, Int.reducePow, Int.reduceAdd, Int.reduceSub, List.length_cons, List.length_nil, Option.bind_some, ↓Dn.sxd, Dn.sxp, Dn.leaveW, Dn.turnW, Dn.outR, Dn.bName, Dn.bTup, Dn.bCons, Dn.bNil, Dn.wipeD, Dn.ite_ap, optS]
theorem is_behind_wp {o a : Option Int} : wpM (φ_is_behind [optI o, optI a]) Q E cs = Q (.bl (behind o a)) cs := by
  simp only [φ_is_behind, d_is_behind, ↓reduceIte, decide_eq_true_eq, decide_true, decide_false, Bool.not_true, Bool.not_false, Bool.false_eq_true, true_and, and_true, eq_self, Bool.true_eq_false, reduceCtorEq, Bool.true_and, Bool.false_and, Bool.and_true, Bool.and_false, Option.isSome_some, Option.isSome_none, Option.isNone_some, Option.isNone_none, Int.cast_ofNat_Int, Nat.reduceAdd, Nat.reduceSub, Nat.reduceLT, Nat.reduceLeDiff, Nat.reduceEqDiff, Int.reduceLT, Int.reduceLE, Int.reduceEq, Int.reduceNeg, Int.reduceToNat, Int.reducePow, Int.reduceAdd, Int.reduceSub, List.length_cons, List.length_nil, Option.bind_some, ↓Dn.sxd, Dn.sxp, Dn.leaveW, Dn.turnW, Dn.outR, Dn.bName, Dn.bTup, Dn.bCons, Dn.bNil, Dn.wipeD, Dn.ite_ap]
  cases o with
  | none => simp only [↓reduceIte, decide_eq_true_eq, decide_true, decide_false, Bool.not_true, Bool.not_false, Bool.false_eq_true, true_and, and_true, eq_self, Bool.true_eq_false, reduceCtorEq, Bool.true_and, Bool.false_and, Bool.and_true, Bool.and_false, Option.isSome_some, Option.isSome_none, Option.isNone_some, Option.isNone_none, Int.cast_ofNat_Int, Nat.reduceAdd, Nat.reduceSub, Nat.reduceLT, Nat.reduceLeDiff, Nat.reduceEqDiff, Int.reduceLT, Int.reduceLE, Int.reduceEq, Int.reduceNeg, Int.reduceToNat, Int.reducePow, Int.reduceAdd, Int.reduceSub, List.length_cons, List.length_nil, Option.bind_some, ↓Dn.sxd, Dn.sxp, Dn.leaveW, Dn.turnW, Dn.outR, Dn.bName, Dn.bTup, Dn.bCons, Dn.bNil, Dn.wipeD, Dn.ite_ap, Option.isNone, behind]
  | some i => cases a <;> simp only [↓reduceIte, decide_eq_true_eq, decide_true, decide_false, Bool.not_true, Bool.not_false, Bool.false_eq_true, true_and, and_true, eq_self, Bool.true_eq_false, reduceCtorEq, Bool.true_and, Bool.false_and, Bool.and_true, Bool.and_false, Option.isSome_some, Option.isSome_none, Option.isNone_some, Option.isNone_none, Int.cast_ofNat_Int, Nat.reduceAdd, Nat.reduceSub, Nat.reduceLT, Nat.reduceLeDiff, Nat.reduceEqDiff, Int.reduceLT, Int.reduceLE, Int.reduceEq, Int.reduceNeg, Int.reduceToNat, Int.reducePow, Int.reduceAdd, Int.reduceSub, List.length_cons, List.length_nil, Option.bind_some, ↓Dn.sxd, Dn.sxp, Dn.leaveW, Dn.turnW, Dn.outR, Dn.bName, Dn.bTup, Dn.bCons, Dn.bNil, Dn.wipeD, Dn.ite_ap, Option.isNone, Option.isSome, behind, optI]
theorem li40_wp {i : Int} : wpM (φ__law_is_int [.int i, .int (-10000000000000000000000000000000000000000), .int 10000000000000000000000000000000000000000]) Q E cs = Q (.bl (okB W40 (some i))) cs := lisint_wp
theorem li50_wp {i : Int} : wpM (φ__law_is_int [.int i, .int (-100000000000000000000000000000000000000000000000000), .int 100000000000000000000000000000000000000000000000000]) Q E cs = Q (.bl (okB V50 (some i))) cs := lisint_wp
theorem okB_none {n : Int} : okB n none = true := rfl
theorem optI_some {i : Int} : optI (some i) = .int i := rfl
theorem optI_none : optI none = .non := rfl
theorem lrow_wp {r : Row} : wpM (φ__law_is_row [rowD r]) Q E cs = Q (optS (rowWord r)) cs := by
  obtain ⟨o, p⟩ := r
  simp only [φ__law_is_row, d__law_is_row, rowD, rowWord, ↓reduceIte, decide_eq_true_eq, decide_true, decide_false, Bool.not_true, Bool.not_false, Bool.false_eq_true, true_and, and_true, eq_self, Bool.true_eq_false, reduceCtorEq, Bool.true_and, Bool.false_and, Bool.and_true, Bool.and_false, Option.isSome_some, Option.isSome_none, Option.isNone_some, Option.isNone_none, Int.cast_ofNat_Int, Nat.reduceAdd, Nat.reduceSub, Nat.reduceLT, Nat.reduceLeDiff, Nat.reduceEqDiff, Int.reduceLT, Int.reduceLE, Int.reduceEq, Int.reduceNeg, Int.reduceToNat, Int.reducePow, Int.reduceAdd, Int.reduceSub, List.length_cons, List.length_nil, Option.bind_some, ↓Dn.sxd, Dn.sxp, Dn.leaveW, Dn.turnW, Dn.outR, Dn.bName, Dn.bTup, Dn.bCons, Dn.bNil, Dn.wipeD, Dn.ite_ap]
  cases o with
  | none =>
    cases p with
    | none => simp only [↓reduceIte, decide_eq_true_eq, decide_true, decide_false, Bool.not_true, Bool.not_false, Bool.false_eq_true, true_and, and_true, eq_self, Bool.true_eq_false, reduceCtorEq, Bool.true_and, Bool.false_and, Bool.and_true, Bool.and_false, Option.isSome_some, Option.isSome_none, Option.isNone_some, Option.isNone_none, Int.cast_ofNat_Int, Nat.reduceAdd, Nat.reduceSub, Nat.reduceLT, Nat.reduceLeDiff, Nat.reduceEqDiff, Int.reduceLT, Int.reduceLE, Int.reduceEq, Int.reduceNeg, Int.reduceToNat, Int.reducePow, Int.reduceAdd, Int.reduceSub, List.length_cons, List.length_nil, Option.bind_some, ↓Dn.sxd, Dn.sxp, Dn.leaveW, Dn.turnW, Dn.outR, Dn.bName, Dn.bTup, Dn.bCons, Dn.bNil, Dn.wipeD, Dn.ite_ap, okB_none, optS]
    | some j =>
      simp only [↓reduceIte, decide_eq_true_eq, decide_true, decide_false, Bool.not_true, Bool.not_false, Bool.false_eq_true, true_and, and_true, eq_self, Bool.true_eq_false, reduceCtorEq, Bool.true_and, Bool.false_and, Bool.and_true, Bool.and_false, Option.isSome_some, Option.isSome_none, Option.isNone_some, Option.isNone_none, Int.cast_ofNat_Int, Nat.reduceAdd, Nat.reduceSub, Nat.reduceLT, Nat.reduceLeDiff, Nat.reduceEqDiff, Int.reduceLT, Int.reduceLE, Int.reduceEq, Int.reduceNeg, Int.reduceToNat, Int.reducePow, Int.reduceAdd, Int.reduceSub, List.length_cons, List.length_nil, Option.bind_some, ↓Dn.sxd, Dn.sxp, Dn.leaveW, Dn.turnW, Dn.outR, Dn.bName, Dn.bTup, Dn.bCons, Dn.bNil, Dn.wipeD, Dn.ite_ap, okB_none, optI_some, li50_wp]
      cases h : okB V50 (some j) <;> simp only [↓reduceIte, decide_eq_true_eq, decide_true, decide_false, Bool.not_true, Bool.not_false, Bool.false_eq_true, true_and, and_true, eq_self, Bool.true_eq_false, reduceCtorEq, Bool.true_and, Bool.false_and, Bool.and_true, Bool.and_false, Option.isSome_some, Option.isSome_none, Option.isNone_some, Option.isNone_none, Int.cast_ofNat_Int, Nat.reduceAdd, Nat.reduceSub, Nat.reduceLT, Nat.reduceLeDiff, Nat.reduceEqDiff, Int.reduceLT, Int.reduceLE, Int.reduceEq, Int.reduceNeg, Int.reduceToNat, Int.reducePow, Int.reduceAdd, Int.reduceSub, List.length_cons, List.length_nil, Option.bind_some, ↓Dn.sxd, Dn.sxp, Dn.leaveW, Dn.turnW, Dn.outR, Dn.bName, Dn.bTup, Dn.bCons, Dn.bNil, Dn.wipeD, Dn.ite_ap, optS]
  | some i =>
    simp only [↓reduceIte, decide_eq_true_eq, decide_true, decide_false, Bool.not_true, Bool.not_false, Bool.false_eq_true, true_and, and_true, eq_self, Bool.true_eq_false, reduceCtorEq, Bool.true_and, Bool.false_and, Bool.and_true, Bool.and_false, Option.isSome_some, Option.isSome_none, Option.isNone_some, Option.isNone_none, Int.cast_ofNat_Int, Nat.reduceAdd, Nat.reduceSub, Nat.reduceLT, Nat.reduceLeDiff, Nat.reduceEqDiff, Int.reduceLT, Int.reduceLE, Int.reduceEq, Int.reduceNeg, Int.reduceToNat, Int.reducePow, Int.reduceAdd, Int.reduceSub, List.length_cons, List.length_nil, Option.bind_some, ↓Dn.sxd, Dn.sxp, Dn.leaveW, Dn.turnW, Dn.outR, Dn.bName, Dn.bTup, Dn.bCons, Dn.bNil, Dn.wipeD, Dn.ite_ap, optI_some, li40_wp]
    cases h2 : okB W40 (some i)
    · simp only [↓reduceIte, decide_eq_true_eq, decide_true, decide_false, Bool.not_true, Bool.not_false, Bool.false_eq_true, true_and, and_true, eq_self, Bool.true_eq_false, reduceCtorEq, Bool.true_and, Bool.false_and, Bool.and_true, Bool.and_false, Option.isSome_some, Option.isSome_none, Option.isNone_some, Option.isNone_none, Int.cast_ofNat_Int, Nat.reduceAdd, Nat.reduceSub, Nat.reduceLT, Nat.reduceLeDiff, Nat.reduceEqDiff, Int.reduceLT, Int.reduceLE, Int.reduceEq, Int.reduceNeg, Int.reduceToNat, Int.reducePow, Int.reduceAdd, Int.reduceSub, List.length_cons, List.length_nil, Option.bind_some, ↓Dn.sxd, Dn.sxp, Dn.leaveW, Dn.turnW, Dn.outR, Dn.bName, Dn.bTup, Dn.bCons, Dn.bNil, Dn.wipeD, Dn.ite_ap, optS]
    · cases p with
      | none => simp only [↓reduceIte, decide_eq_true_eq, decide_true, decide_false, Bool.not_true, Bool.not_false, Bool.false_eq_true, true_and, and_true, eq_self, Bool.true_eq_false, reduceCtorEq, Bool.true_and, Bool.false_and, Bool.and_true, Bool.and_false, Option.isSome_some, Option.isSome_none, Option.isNone_some, Option.isNone_none, Int.cast_ofNat_Int, Nat.reduceAdd, Nat.reduceSub, Nat.reduceLT, Nat.reduceLeDiff, Nat.reduceEqDiff, Int.reduceLT, Int.reduceLE, Int.reduceEq, Int.reduceNeg, Int.reduceToNat, Int.reducePow, Int.reduceAdd, Int.reduceSub, List.length_cons, List.length_nil, Option.bind_some, ↓Dn.sxd, Dn.sxp, Dn.leaveW, Dn.turnW, Dn.outR, Dn.bName, Dn.bTup, Dn.bCons, Dn.bNil, Dn.wipeD, Dn.ite_ap, okB_none, optS]
      | some j =>
        simp only [↓reduceIte, decide_eq_true_eq, decide_true, decide_false, Bool.not_true, Bool.not_false, Bool.false_eq_true, true_and, and_true, eq_self, Bool.true_eq_false, reduceCtorEq, Bool.true_and, Bool.false_and, Bool.and_true, Bool.and_false, Option.isSome_some, Option.isSome_none, Option.isNone_some, Option.isNone_none, Int.cast_ofNat_Int, Nat.reduceAdd, Nat.reduceSub, Nat.reduceLT, Nat.reduceLeDiff, Nat.reduceEqDiff, Int.reduceLT, Int.reduceLE, Int.reduceEq, Int.reduceNeg, Int.reduceToNat, Int.reducePow, Int.reduceAdd, Int.reduceSub, List.length_cons, List.length_nil, Option.bind_some, ↓Dn.sxd, Dn.sxp, Dn.leaveW, Dn.turnW, Dn.outR, Dn.bName, Dn.bTup, Dn.bCons, Dn.bNil, Dn.wipeD, Dn.ite_ap, optI_some, li50_wp]
        cases h : okB V50 (some j) <;> simp only [↓reduceIte, decide_eq_true_eq, decide_true, decide_false, Bool.not_true, Bool.not_false, Bool.false_eq_true, true_and, and_true, eq_self, Bool.true_eq_false, reduceCtorEq, Bool.true_and, Bool.false_and, Bool.and_true, Bool.and_false, Option.isSome_some, Option.isSome_none, Option.isNone_some, Option.isNone_none, Int.cast_ofNat_Int, Nat.reduceAdd, Nat.reduceSub, Nat.reduceLT, Nat.reduceLeDiff, Nat.reduceEqDiff, Int.reduceLT, Int.reduceLE, Int.reduceEq, Int.reduceNeg, Int.reduceToNat, Int.reducePow, Int.reduceAdd, Int.reduceSub, List.length_cons, List.length_nil, Option.bind_some, ↓Dn.sxd, Dn.sxp, Dn.leaveW, Dn.turnW, Dn.outR, Dn.bName, Dn.bTup, Dn.bCons, Dn.bNil, Dn.wipeD, Dn.ite_ap, optS]
/-! ### a sheet -/
theorem w_row0 {r : Row} : wpM (ixD (rowD r) (.int 0)) Q E cs = Q (optI r.1) cs := rfl
theorem w_row1 {r : Row} : wpM (ixD (rowD r) (.int 1)) Q E cs = Q (optI r.2) cs := rfl
theorem enumL_cons {k : Nat} {d : D} {ds : List D} : enumL k (d :: ds) = .tup [.int (k : Nat), d] :: enumL (k + 1) ds := rfl
theorem at_ahead {s : List Row} {k : Nat} (h0 : 0 < k) (h : k < s.length) : atI (s.map rowD) ((k : Int) - 1) = some (rowD (s.getD (k - 1) (none, none))) := by
  have e : ((k : Int) - 1) = ((k - 1 : Nat) : Int) := by omega
  rw [e]
  refine atI_nat ?_
  rw [List.getElem?_map, List.getElem?_eq_getElem (by omega), List.getD_eq_getElem?_getD, List.getElem?_eq_getElem (by omega)]
  rfl
def IErr (s : List Row) (xs : List D) (env : DEnv) (cs : CS) (cs0 : CS) : Prop := cs = cs0 ∧ ∃ (k : Nat) (rs : List Row) (a b c : Option Slot), xs = enumL k (rs.map rowD) ∧ s.drop k = rs ∧ env = [some (.sh (.tup (s.map rowD))), a, b, c] ∧ errFrom s 0 s = errFrom s k rs
theorem drop_cons {α : Type} {s : List α} {k : Nat} {r : α} {rs : List α} (h : s.drop k = r :: rs) : k < s.length ∧ s.drop (k + 1) = rs := by
  have hl : k < s.length := by
    have := congrArg List.length h
    rw [List.length_drop, List.length_cons] at this
    omega
  refine ⟨hl, ?_⟩
  rw [List.drop_eq_getElem_cons hl] at h
  exact (List.cons.inj h).2
theorem errFrom_cons {s : List Row} {k : Nat} {r : Row} {rs : List Row} : errFrom s k (r :: rs) = match wordAt s k r with | some w => some (k, w) | none => errFrom s (k + 1) rs := rfl
theorem sheet_error_wp {s : List Row} : wpM (φ_sheet_error [sheetD s]) Q E cs = Q (errD (sheetErr s)) cs := by
  refine wpM_of ?_
  simp only [φ_sheet_error, d_sheet_error, sheetD, ↓reduceIte, decide_eq_true_eq, decide_true, decide_false, Bool.not_true, Bool.not_false, Bool.false_eq_true, true_and, and_true, eq_self, Bool.true_eq_false, reduceCtorEq, Bool.true_and, Bool.false_and, Bool.and_true, Bool.and_false, Option.isSome_some, Option.isSome_none, Option.isNone_some, Option.isNone_none, Int.cast_ofNat_Int, Nat.reduceAdd, Nat.reduceSub, Nat.reduceLT, Nat.reduceLeDiff, Nat.reduceEqDiff, Int.reduceLT, Int.reduceLE, Int.reduceEq, Int.reduceNeg, Int.reduceToNat, Int.reducePow, Int.reduceAdd, Int.reduceSub, List.length_cons, List.length_nil, Option.bind_some, ↓Dn.sxd, Dn.sxp, Dn.leaveW, Dn.turnW, Dn.outR, Dn.bName, Dn.bTup, Dn.bCons, Dn.bNil, Dn.wipeD, Dn.ite_ap, List.length_map]
  unfold sheetErr
  by_cases hl : 60 < s.length
  · simp only [(show (60 : Int) < (s.length : Int) by omega), hl, ↓reduceIte, decide_eq_true_eq, decide_true, decide_false, Bool.not_true, Bool.not_false, Bool.false_eq_true, true_and, and_true, eq_self, Bool.true_eq_false, reduceCtorEq, Bool.true_and, Bool.false_and, Bool.and_true, Bool.and_false, Option.isSome_some, Option.isSome_none, Option.isNone_some, Option.isNone_none, Int.cast_ofNat_Int, Nat.reduceAdd, Nat.reduceSub, Nat.reduceLT, Nat.reduceLeDiff, Nat.reduceEqDiff, Int.reduceLT, Int.reduceLE, Int.reduceEq, Int.reduceNeg, Int.reduceToNat, Int.reducePow, Int.reduceAdd, Int.reduceSub, List.length_cons, List.length_nil, Option.bind_some, ↓Dn.sxd, Dn.sxp, Dn.leaveW, Dn.turnW, Dn.outR, Dn.bName, Dn.bTup, Dn.bCons, Dn.bNil, Dn.wipeD, Dn.ite_ap, errD, optN]
  · simp only [(show ¬ (60 : Int) < (s.length : Int) by omega), hl, ↓reduceIte, decide_eq_true_eq, decide_true, decide_false, Bool.not_true, Bool.not_false, Bool.false_eq_true, true_and, and_true, eq_self, Bool.true_eq_false, reduceCtorEq, Bool.true_and, Bool.false_and, Bool.and_true, Bool.and_false, Option.isSome_some, Option.isSome_none, Option.isNone_some, Option.isNone_none, Int.cast_ofNat_Int, Nat.reduceAdd, Nat.reduceSub, Nat.reduceLT, Nat.reduceLeDiff, Nat.reduceEqDiff, Int.reduceLT, Int.reduceLE, Int.reduceEq, Int.reduceNeg, Int.reduceToNat, Int.reducePow, Int.reduceAdd, Int.reduceSub, List.length_cons, List.length_nil, Option.bind_some, ↓Dn.sxd, Dn.sxp, Dn.leaveW, Dn.turnW, Dn.outR, Dn.bName, Dn.bTup, Dn.bCons, Dn.bNil, Dn.wipeD, Dn.ite_ap]
    refine wpS_loop (fun xs env cs' => IErr s xs env cs' cs) ?_ ?_ _ _ _ ⟨rfl, 0, s, _, _, _, rfl, rfl, rfl, rfl⟩
    · rintro x xs env cs' ⟨rfl, k, rs, a, b, c, e1, e2, rfl, e3⟩
      cases rs with
      | nil => cases e1
      | cons r rs =>
        rw [List.map_cons, enumL_cons] at e1
        cases e1
        obtain ⟨hk, e2'⟩ := drop_cons e2
        refine ⟨_, rfl, ?_⟩
        simp only [↓reduceIte, decide_eq_true_eq, decide_true, decide_false, Bool.not_true, Bool.not_false, Bool.false_eq_true, true_and, and_true, eq_self, Bool.true_eq_false, reduceCtorEq, Bool.true_and, Bool.false_and, Bool.and_true, Bool.and_false, Option.isSome_some, Option.isSome_none, Option.isNone_some, Option.isNone_none, Int.cast_ofNat_Int, Nat.reduceAdd, Nat.reduceSub, Nat.reduceLT, Nat.reduceLeDiff, Nat.reduceEqDiff, Int.reduceLT, Int.reduceLE, Int.reduceEq, Int.reduceNeg, Int.reduceToNat, Int.reducePow, Int.reduceAdd, Int.reduceSub, List.length_cons, List.length_nil, Option.bind_some, ↓Dn.sxd, Dn.sxp, Dn.leaveW, Dn.turnW, Dn.outR, Dn.bName, Dn.bTup, Dn.bCons, Dn.bNil, Dn.wipeD, Dn.ite_ap, row_word_wp]
        rw [errFrom_cons] at e3
        unfold wordAt at e3
        cases hw : rowWord r with
        | some w =>
          rw [hw] at e3
          simp only [↓reduceIte, decide_eq_true_eq, decide_true, decide_false, Bool.not_true, Bool.not_false, Bool.false_eq_true, true_and, and_true, eq_self, Bool.true_eq_false, reduceCtorEq, Bool.true_and, Bool.false_and, Bool.and_true, Bool.and_false, Option.isSome_some, Option.isSome_none, Option.isNone_some, Option.isNone_none, Int.cast_ofNat_Int, Nat.reduceAdd, Nat.reduceSub, Nat.reduceLT, Nat.reduceLeDiff, Nat.reduceEqDiff, Int.reduceLT, Int.reduceLE, Int.reduceEq, Int.reduceNeg, Int.reduceToNat, Int.reducePow, Int.reduceAdd, Int.reduceSub, List.length_cons, List.length_nil, Option.bind_some, ↓Dn.sxd, Dn.sxp, Dn.leaveW, Dn.turnW, Dn.outR, Dn.bName, Dn.bTup, Dn.bCons, Dn.bNil, Dn.wipeD, Dn.ite_ap, hw, optS]
          simp only [e3, errD, Option.map, optN]
        | none =>
          rw [hw] at e3
          simp only [↓reduceIte, decide_eq_true_eq, decide_true, decide_false, Bool.not_true, Bool.not_false, Bool.false_eq_true, true_and, and_true, eq_self, Bool.true_eq_false, reduceCtorEq, Bool.true_and, Bool.false_and, Bool.and_true, Bool.and_false, Option.isSome_some, Option.isSome_none, Option.isNone_some, Option.isNone_none, Int.cast_ofNat_Int, Nat.reduceAdd, Nat.reduceSub, Nat.reduceLT, Nat.reduceLeDiff, Nat.reduceEqDiff, Int.reduceLT, Int.reduceLE, Int.reduceEq, Int.reduceNeg, Int.reduceToNat, Int.reducePow, Int.reduceAdd, Int.reduceSub, List.length_cons, List.length_nil, Option.bind_some, ↓Dn.sxd, Dn.sxp, Dn.leaveW, Dn.turnW, Dn.outR, Dn.bName, Dn.bTup, Dn.bCons, Dn.bNil, Dn.wipeD, Dn.ite_ap, hw, optS]
          by_cases h0 : 0 < k
          · simp only [(show (0 : Int) < (k : Int) by omega), ↓reduceIte, decide_eq_true_eq, decide_true, decide_false, Bool.not_true, Bool.not_false, Bool.false_eq_true, true_and, and_true, eq_self, Bool.true_eq_false, reduceCtorEq, Bool.true_and, Bool.false_and, Bool.and_true, Bool.and_false, Option.isSome_some, Option.isSome_none, Option.isNone_some, Option.isNone_none, Int.cast_ofNat_Int, Nat.reduceAdd, Nat.reduceSub, Nat.reduceLT, Nat.reduceLeDiff, Nat.reduceEqDiff, Int.reduceLT, Int.reduceLE, Int.reduceEq, Int.reduceNeg, Int.reduceToNat, Int.reducePow, Int.reduceAdd, Int.reduceSub, List.length_cons, List.length_nil, Option.bind_some, ↓Dn.sxd, Dn.sxp, Dn.leaveW, Dn.turnW, Dn.outR, Dn.bName, Dn.bTup, Dn.bCons, Dn.bNil, Dn.wipeD, Dn.ite_ap, w_row0, w_ixT (at_ahead h0 hk), is_behind_wp]
            cases hb : behind r.1 (s.getD (k - 1) (none, none)).1
            · simp only [h0, hb, ↓reduceIte, decide_eq_true_eq, decide_true, decide_false, Bool.not_true, Bool.not_false, Bool.false_eq_true, true_and, and_true, eq_self, Bool.true_eq_false, reduceCtorEq, Bool.true_and, Bool.false_and, Bool.and_true, Bool.and_false, Option.isSome_some, Option.isSome_none, Option.isNone_some, Option.isNone_none, Int.cast_ofNat_Int, Nat.reduceAdd, Nat.reduceSub, Nat.reduceLT, Nat.reduceLeDiff, Nat.reduceEqDiff, Int.reduceLT, Int.reduceLE, Int.reduceEq, Int.reduceNeg, Int.reduceToNat, Int.reducePow, Int.reduceAdd, Int.reduceSub, List.length_cons, List.length_nil, Option.bind_some, ↓Dn.sxd, Dn.sxp, Dn.leaveW, Dn.turnW, Dn.outR, Dn.bName, Dn.bTup, Dn.bCons, Dn.bNil, Dn.wipeD, Dn.ite_ap] at e3 ⊢
              simp only [e3, errD, Option.map, optN]
            · simp only [h0, hb, ↓reduceIte, decide_eq_true_eq, decide_true, decide_false, Bool.not_true, Bool.not_false, Bool.false_eq_true, true_and, and_true, eq_self, Bool.true_eq_false, reduceCtorEq, Bool.true_and, Bool.false_and, Bool.and_true, Bool.and_false, Option.isSome_some, Option.isSome_none, Option.isNone_some, Option.isNone_none, Int.cast_ofNat_Int, Nat.reduceAdd, Nat.reduceSub, Nat.reduceLT, Nat.reduceLeDiff, Nat.reduceEqDiff, Int.reduceLT, Int.reduceLE, Int.reduceEq, Int.reduceNeg, Int.reduceToNat, Int.reducePow, Int.reduceAdd, Int.reduceSub, List.length_cons, List.length_nil, Option.bind_some, ↓Dn.sxd, Dn.sxp, Dn.leaveW, Dn.turnW, Dn.outR, Dn.bName, Dn.bTup, Dn.bCons, Dn.bNil, Dn.wipeD, Dn.ite_ap] at e3 ⊢
              exact ⟨rfl, k + 1, rs, _, _, _, rfl, e2', rfl, e3⟩
          · simp only [(show ¬ (0 : Int) < (k : Int) by omega), ↓reduceIte, decide_eq_true_eq, decide_true, decide_false, Bool.not_true, Bool.not_false, Bool.false_eq_true, true_and, and_true, eq_self, Bool.true_eq_false, reduceCtorEq, Bool.true_and, Bool.false_and, Bool.and_true, Bool.and_false, Option.isSome_some, Option.isSome_none, Option.isNone_some, Option.isNone_none, Int.cast_ofNat_Int, Nat.reduceAdd, Nat.reduceSub, Nat.reduceLT, Nat.reduceLeDiff, Nat.reduceEqDiff, Int.reduceLT, Int.reduceLE, Int.reduceEq, Int.reduceNeg, Int.reduceToNat, Int.reducePow, Int.reduceAdd, Int.reduceSub, List.length_cons, List.length_nil, Option.bind_some, ↓Dn.sxd, Dn.sxp, Dn.leaveW, Dn.turnW, Dn.outR, Dn.bName, Dn.bTup, Dn.bCons, Dn.bNil, Dn.wipeD, Dn.ite_ap]
            simp only [h0, ↓reduceIte, decide_eq_true_eq, decide_true, decide_false, Bool.not_true, Bool.not_false, Bool.false_eq_true, true_and, and_true, eq_self, Bool.true_eq_false, reduceCtorEq, Bool.true_and, Bool.false_and, Bool.and_true, Bool.and_false, Option.isSome_some, Option.isSome_none, Option.isNone_some, Option.isNone_none, Int.cast_ofNat_Int, Nat.reduceAdd, Nat.reduceSub, Nat.reduceLT, Nat.reduceLeDiff, Nat.reduceEqDiff, Int.reduceLT, Int.reduceLE, Int.reduceEq, Int.reduceNeg, Int.reduceToNat, Int.reducePow, Int.reduceAdd, Int.reduceSub, List.length_cons, List.length_nil, Option.bind_some, ↓Dn.sxd, Dn.sxp, Dn.leaveW, Dn.turnW, Dn.outR, Dn.bName, Dn.bTup, Dn.bCons, Dn.bNil, Dn.wipeD, Dn.ite_ap, false_and] at e3
            exact ⟨rfl, k + 1, rs, _, _, _, rfl, e2', rfl, e3⟩
    · rintro env cs' ⟨rfl, k, rs, a, b, c, e1, e2, rfl, e3⟩
      cases rs with
      | cons r rs => cases e1
      | nil =>
        simp only [↓reduceIte, decide_eq_true_eq, decide_true, decide_false, Bool.not_true, Bool.not_false, Bool.false_eq_true, true_and, and_true, eq_self, Bool.true_eq_false, reduceCtorEq, Bool.true_and, Bool.false_and, Bool.and_true, Bool.and_false, Option.isSome_some, Option.isSome_none, Option.isNone_some, Option.isNone_none, Int.cast_ofNat_Int, Nat.reduceAdd, Nat.reduceSub, Nat.reduceLT, Nat.reduceLeDiff, Nat.reduceEqDiff, Int.reduceLT, Int.reduceLE, Int.reduceEq, Int.reduceNeg, Int.reduceToNat, Int.reducePow, Int.reduceAdd, Int.reduceSub, List.length_cons, List.length_nil, Option.bind_some, ↓Dn.sxd, Dn.sxp, Dn.leaveW, Dn.turnW, Dn.outR, Dn.bName, Dn.bTup, Dn.bCons, Dn.bNil, Dn.wipeD, Dn.ite_ap]
        rw [e3]
        simp only [errFrom, Option.map, errD]
/-- the law's own -/
def ILErr (s : List Row) (xs : List D) (env : DEnv) (cs : CS) (cs0 : CS) : Prop := cs = cs0 ∧ ∃ (k : Nat) (rs : List Row) (a b c d : Option Slot), xs = enumL k (rs.map rowD) ∧ s.drop k = rs ∧ env = [some (.sh (.tup (s.map rowD))), a, b, c, d] ∧ errFrom s 0 s = errFrom s k rs
theorem w_gtO {i : Int} {o : Option Int} (h : o.isSome = true) : wpM (gtD (optI o) (.int i)) Q E cs = Q (.bl (decide (i < o.getD 0))) cs := by
  cases o with
  | none => cases h
  | some j => rfl
theorem lsheet_error_wp {s : List Row} : wpM (φ__law_sheet_error [sheetD s]) Q E cs = Q (errD (sheetErr s)) cs := by
  refine wpM_of ?_
  simp only [φ__law_sheet_error, d__law_sheet_error, sheetD, ↓reduceIte, decide_eq_true_eq, decide_true, decide_false, Bool.not_true, Bool.not_false, Bool.false_eq_true, true_and, and_true, eq_self, Bool.true_eq_false, reduceCtorEq, Bool.true_and, Bool.false_and, Bool.and_true, Bool.and_false, Option.isSome_some, Option.isSome_none, Option.isNone_some, Option.isNone_none, Int.cast_ofNat_Int, Nat.reduceAdd, Nat.reduceSub, Nat.reduceLT, Nat.reduceLeDiff, Nat.reduceEqDiff, Int.reduceLT, Int.reduceLE, Int.reduceEq, Int.reduceNeg, Int.reduceToNat, Int.reducePow, Int.reduceAdd, Int.reduceSub, List.length_cons, List.length_nil, Option.bind_some, ↓Dn.sxd, Dn.sxp, Dn.leaveW, Dn.turnW, Dn.outR, Dn.bName, Dn.bTup, Dn.bCons, Dn.bNil, Dn.wipeD, Dn.ite_ap, List.length_map]
  unfold sheetErr
  by_cases hl : 60 < s.length
  · simp only [(show (60 : Int) < (s.length : Int) by omega), hl, ↓reduceIte, decide_eq_true_eq, decide_true, decide_false, Bool.not_true, Bool.not_false, Bool.false_eq_true, true_and, and_true, eq_self, Bool.true_eq_false, reduceCtorEq, Bool.true_and, Bool.false_and, Bool.and_true, Bool.and_false, Option.isSome_some, Option.isSome_none, Option.isNone_some, Option.isNone_none, Int.cast_ofNat_Int, Nat.reduceAdd, Nat.reduceSub, Nat.reduceLT, Nat.reduceLeDiff, Nat.reduceEqDiff, Int.reduceLT, Int.reduceLE, Int.reduceEq, Int.reduceNeg, Int.reduceToNat, Int.reducePow, Int.reduceAdd, Int.reduceSub, List.length_cons, List.length_nil, Option.bind_some, ↓Dn.sxd, Dn.sxp, Dn.leaveW, Dn.turnW, Dn.outR, Dn.bName, Dn.bTup, Dn.bCons, Dn.bNil, Dn.wipeD, Dn.ite_ap, errD, optN]
  · simp only [(show ¬ (60 : Int) < (s.length : Int) by omega), hl, ↓reduceIte, decide_eq_true_eq, decide_true, decide_false, Bool.not_true, Bool.not_false, Bool.false_eq_true, true_and, and_true, eq_self, Bool.true_eq_false, reduceCtorEq, Bool.true_and, Bool.false_and, Bool.and_true, Bool.and_false, Option.isSome_some, Option.isSome_none, Option.isNone_some, Option.isNone_none, Int.cast_ofNat_Int, Nat.reduceAdd, Nat.reduceSub, Nat.reduceLT, Nat.reduceLeDiff, Nat.reduceEqDiff, Int.reduceLT, Int.reduceLE, Int.reduceEq, Int.reduceNeg, Int.reduceToNat, Int.reducePow, Int.reduceAdd, Int.reduceSub, List.length_cons, List.length_nil, Option.bind_some, ↓Dn.sxd, Dn.sxp, Dn.leaveW, Dn.turnW, Dn.outR, Dn.bName, Dn.bTup, Dn.bCons, Dn.bNil, Dn.wipeD, Dn.ite_ap]
    refine wpS_loop (fun xs env cs' => ILErr s xs env cs' cs) ?_ ?_ _ _ _ ⟨rfl, 0, s, _, _, _, _, rfl, rfl, rfl, rfl⟩
    · rintro x xs env cs' ⟨rfl, k, rs, a, b, c, d, e1, e2, rfl, e3⟩
      cases rs with
      | nil => cases e1
      | cons r rs =>
        rw [List.map_cons, enumL_cons] at e1
        cases e1
        obtain ⟨hk, e2'⟩ := drop_cons e2
        refine ⟨_, rfl, ?_⟩
        simp only [↓reduceIte, decide_eq_true_eq, decide_true, decide_false, Bool.not_true, Bool.not_false, Bool.false_eq_true, true_and, and_true, eq_self, Bool.true_eq_false, reduceCtorEq, Bool.true_and, Bool.false_and, Bool.and_true, Bool.and_false, Option.isSome_some, Option.isSome_none, Option.isNone_some, Option.isNone_none, Int.cast_ofNat_Int, Nat.reduceAdd, Nat.reduceSub, Nat.reduceLT, Nat.reduceLeDiff, Nat.reduceEqDiff, Int.reduceLT, Int.reduceLE, Int.reduceEq, Int.reduceNeg, Int.reduceToNat, Int.reducePow, Int.reduceAdd, Int.reduceSub, List.length_cons, List.length_nil, Option.bind_some, ↓Dn.sxd, Dn.sxp, Dn.leaveW, Dn.turnW, Dn.outR, Dn.bName, Dn.bTup, Dn.bCons, Dn.bNil, Dn.wipeD, Dn.ite_ap, lrow_wp]
        rw [errFrom_cons] at e3
        unfold wordAt at e3
        cases hw : rowWord r with
        | some w =>
          rw [hw] at e3
          simp only [↓reduceIte, decide_eq_true_eq, decide_true, decide_false, Bool.not_true, Bool.not_false, Bool.false_eq_true, true_and, and_true, eq_self, Bool.true_eq_false, reduceCtorEq, Bool.true_and, Bool.false_and, Bool.and_true, Bool.and_false, Option.isSome_some, Option.isSome_none, Option.isNone_some, Option.isNone_none, Int.cast_ofNat_Int, Nat.reduceAdd, Nat.reduceSub, Nat.reduceLT, Nat.reduceLeDiff, Nat.reduceEqDiff, Int.reduceLT, Int.reduceLE, Int.reduceEq, Int.reduceNeg, Int.reduceToNat, Int.reducePow, Int.reduceAdd, Int.reduceSub, List.length_cons, List.length_nil, Option.bind_some, ↓Dn.sxd, Dn.sxp, Dn.leaveW, Dn.turnW, Dn.outR, Dn.bName, Dn.bTup, Dn.bCons, Dn.bNil, Dn.wipeD, Dn.ite_ap, hw, optS]
          simp only [e3, errD, Option.map, optN]
        | none =>
          rw [hw] at e3
          simp only [↓reduceIte, decide_eq_true_eq, decide_true, decide_false, Bool.not_true, Bool.not_false, Bool.false_eq_true, true_and, and_true, eq_self, Bool.true_eq_false, reduceCtorEq, Bool.true_and, Bool.false_and, Bool.and_true, Bool.and_false, Option.isSome_some, Option.isSome_none, Option.isNone_some, Option.isNone_none, Int.cast_ofNat_Int, Nat.reduceAdd, Nat.reduceSub, Nat.reduceLT, Nat.reduceLeDiff, Nat.reduceEqDiff, Int.reduceLT, Int.reduceLE, Int.reduceEq, Int.reduceNeg, Int.reduceToNat, Int.reducePow, Int.reduceAdd, Int.reduceSub, List.length_cons, List.length_nil, Option.bind_some, ↓Dn.sxd, Dn.sxp, Dn.leaveW, Dn.turnW, Dn.outR, Dn.bName, Dn.bTup, Dn.bCons, Dn.bNil, Dn.wipeD, Dn.ite_ap, hw, optS]
          by_cases h0 : 0 < k
          · simp only [(show (0 : Int) < (k : Int) by omega), ↓reduceIte, decide_eq_true_eq, decide_true, decide_false, Bool.not_true, Bool.not_false, Bool.false_eq_true, true_and, and_true, eq_self, Bool.true_eq_false, reduceCtorEq, Bool.true_and, Bool.false_and, Bool.and_true, Bool.and_false, Option.isSome_some, Option.isSome_none, Option.isNone_some, Option.isNone_none, Int.cast_ofNat_Int, Nat.reduceAdd, Nat.reduceSub, Nat.reduceLT, Nat.reduceLeDiff, Nat.reduceEqDiff, Int.reduceLT, Int.reduceLE, Int.reduceEq, Int.reduceNeg, Int.reduceToNat, Int.reducePow, Int.reduceAdd, Int.reduceSub, List.length_cons, List.length_nil, Option.bind_some, ↓Dn.sxd, Dn.sxp, Dn.leaveW, Dn.turnW, Dn.outR, Dn.bName, Dn.bTup, Dn.bCons, Dn.bNil, Dn.wipeD, Dn.ite_ap, w_row0]
            obtain ⟨o, p⟩ := r
            cases o with
            | none =>
              simp only [↓reduceIte, decide_eq_true_eq, decide_true, decide_false, Bool.not_true, Bool.not_false, Bool.false_eq_true, true_and, and_true, eq_self, Bool.true_eq_false, reduceCtorEq, Bool.true_and, Bool.false_and, Bool.and_true, Bool.and_false, Option.isSome_some, Option.isSome_none, Option.isNone_some, Option.isNone_none, Int.cast_ofNat_Int, Nat.reduceAdd, Nat.reduceSub, Nat.reduceLT, Nat.reduceLeDiff, Nat.reduceEqDiff, Int.reduceLT, Int.reduceLE, Int.reduceEq, Int.reduceNeg, Int.reduceToNat, Int.reducePow, Int.reduceAdd, Int.reduceSub, List.length_cons, List.length_nil, Option.bind_some, ↓Dn.sxd, Dn.sxp, Dn.leaveW, Dn.turnW, Dn.outR, Dn.bName, Dn.bTup, Dn.bCons, Dn.bNil, Dn.wipeD, Dn.ite_ap, w_row0]
              simp only [behind, ↓reduceIte, decide_eq_true_eq, decide_true, decide_false, Bool.not_true, Bool.not_false, Bool.false_eq_true, true_and, and_true, eq_self, Bool.true_eq_false, reduceCtorEq, Bool.true_and, Bool.false_and, Bool.and_true, Bool.and_false, Option.isSome_some, Option.isSome_none, Option.isNone_some, Option.isNone_none, Int.cast_ofNat_Int, Nat.reduceAdd, Nat.reduceSub, Nat.reduceLT, Nat.reduceLeDiff, Nat.reduceEqDiff, Int.reduceLT, Int.reduceLE, Int.reduceEq, Int.reduceNeg, Int.reduceToNat, Int.reducePow, Int.reduceAdd, Int.reduceSub, List.length_cons, List.length_nil, Option.bind_some, ↓Dn.sxd, Dn.sxp, Dn.leaveW, Dn.turnW, Dn.outR, Dn.bName, Dn.bTup, Dn.bCons, Dn.bNil, Dn.wipeD, Dn.ite_ap, and_false] at e3
              exact ⟨rfl, k + 1, rs, _, _, _, _, rfl, e2', rfl, e3⟩
            | some i =>
              simp only [↓reduceIte, decide_eq_true_eq, decide_true, decide_false, Bool.not_true, Bool.not_false, Bool.false_eq_true, true_and, and_true, eq_self, Bool.true_eq_false, reduceCtorEq, Bool.true_and, Bool.false_and, Bool.and_true, Bool.and_false, Option.isSome_some, Option.isSome_none, Option.isNone_some, Option.isNone_none, Int.cast_ofNat_Int, Nat.reduceAdd, Nat.reduceSub, Nat.reduceLT, Nat.reduceLeDiff, Nat.reduceEqDiff, Int.reduceLT, Int.reduceLE, Int.reduceEq, Int.reduceNeg, Int.reduceToNat, Int.reducePow, Int.reduceAdd, Int.reduceSub, List.length_cons, List.length_nil, Option.bind_some, ↓Dn.sxd, Dn.sxp, Dn.leaveW, Dn.turnW, Dn.outR, Dn.bName, Dn.bTup, Dn.bCons, Dn.bNil, Dn.wipeD, Dn.ite_ap, w_row0, w_ixT (at_ahead h0 hk)]
              cases hq : (s.getD (k - 1) (none, none)).1 with
              | none =>
                simp only [↓reduceIte, decide_eq_true_eq, decide_true, decide_false, Bool.not_true, Bool.not_false, Bool.false_eq_true, true_and, and_true, eq_self, Bool.true_eq_false, reduceCtorEq, Bool.true_and, Bool.false_and, Bool.and_true, Bool.and_false, Option.isSome_some, Option.isSome_none, Option.isNone_some, Option.isNone_none, Int.cast_ofNat_Int, Nat.reduceAdd, Nat.reduceSub, Nat.reduceLT, Nat.reduceLeDiff, Nat.reduceEqDiff, Int.reduceLT, Int.reduceLE, Int.reduceEq, Int.reduceNeg, Int.reduceToNat, Int.reducePow, Int.reduceAdd, Int.reduceSub, List.length_cons, List.length_nil, Option.bind_some, ↓Dn.sxd, Dn.sxp, Dn.leaveW, Dn.turnW, Dn.outR, Dn.bName, Dn.bTup, Dn.bCons, Dn.bNil, Dn.wipeD, Dn.ite_ap, w_row0]
                simp only [behind, h0, hq, ↓reduceIte, decide_eq_true_eq, decide_true, decide_false, Bool.not_true, Bool.not_false, Bool.false_eq_true, true_and, and_true, eq_self, Bool.true_eq_false, reduceCtorEq, Bool.true_and, Bool.false_and, Bool.and_true, Bool.and_false, Option.isSome_some, Option.isSome_none, Option.isNone_some, Option.isNone_none, Int.cast_ofNat_Int, Nat.reduceAdd, Nat.reduceSub, Nat.reduceLT, Nat.reduceLeDiff, Nat.reduceEqDiff, Int.reduceLT, Int.reduceLE, Int.reduceEq, Int.reduceNeg, Int.reduceToNat, Int.reducePow, Int.reduceAdd, Int.reduceSub, List.length_cons, List.length_nil, Option.bind_some, ↓Dn.sxd, Dn.sxp, Dn.leaveW, Dn.turnW, Dn.outR, Dn.bName, Dn.bTup, Dn.bCons, Dn.bNil, Dn.wipeD, Dn.ite_ap] at e3
                simp only [e3, errD, Option.map, optN]
              | some j =>
                simp only [↓reduceIte, decide_eq_true_eq, decide_true, decide_false, Bool.not_true, Bool.not_false, Bool.false_eq_true, true_and, and_true, eq_self, Bool.true_eq_false, reduceCtorEq, Bool.true_and, Bool.false_and, Bool.and_true, Bool.and_false, Option.isSome_some, Option.isSome_none, Option.isNone_some, Option.isNone_none, Int.cast_ofNat_Int, Nat.reduceAdd, Nat.reduceSub, Nat.reduceLT, Nat.reduceLeDiff, Nat.reduceEqDiff, Int.reduceLT, Int.reduceLE, Int.reduceEq, Int.reduceNeg, Int.reduceToNat, Int.reducePow, Int.reduceAdd, Int.reduceSub, List.length_cons, List.length_nil, Option.bind_some, ↓Dn.sxd, Dn.sxp, Dn.leaveW, Dn.turnW, Dn.outR, Dn.bName, Dn.bTup, Dn.bCons, Dn.bNil, Dn.wipeD, Dn.ite_ap, w_row0, optI_some]
                by_cases hji : i < j
                · simp only [↓reduceIte, decide_eq_true_eq, decide_true, decide_false, Bool.not_true, Bool.not_false, Bool.false_eq_true, true_and, and_true, eq_self, Bool.true_eq_false, reduceCtorEq, Bool.true_and, Bool.false_and, Bool.and_true, Bool.and_false, Option.isSome_some, Option.isSome_none, Option.isNone_some, Option.isNone_none, Int.cast_ofNat_Int, Nat.reduceAdd, Nat.reduceSub, Nat.reduceLT, Nat.reduceLeDiff, Nat.reduceEqDiff, Int.reduceLT, Int.reduceLE, Int.reduceEq, Int.reduceNeg, Int.reduceToNat, Int.reducePow, Int.reduceAdd, Int.reduceSub, List.length_cons, List.length_nil, Option.bind_some, ↓Dn.sxd, Dn.sxp, Dn.leaveW, Dn.turnW, Dn.outR, Dn.bName, Dn.bTup, Dn.bCons, Dn.bNil, Dn.wipeD, Dn.ite_ap, hji]
                  simp only [behind, h0, hq, (show ¬ j ≤ i by omega), ↓reduceIte, decide_eq_true_eq, decide_true, decide_false, Bool.not_true, Bool.not_false, Bool.false_eq_true, true_and, and_true, eq_self, Bool.true_eq_false, reduceCtorEq, Bool.true_and, Bool.false_and, Bool.and_true, Bool.and_false, Option.isSome_some, Option.isSome_none, Option.isNone_some, Option.isNone_none, Int.cast_ofNat_Int, Nat.reduceAdd, Nat.reduceSub, Nat.reduceLT, Nat.reduceLeDiff, Nat.reduceEqDiff, Int.reduceLT, Int.reduceLE, Int.reduceEq, Int.reduceNeg, Int.reduceToNat, Int.reducePow, Int.reduceAdd, Int.reduceSub, List.length_cons, List.length_nil, Option.bind_some, ↓Dn.sxd, Dn.sxp, Dn.leaveW, Dn.turnW, Dn.outR, Dn.bName, Dn.bTup, Dn.bCons, Dn.bNil, Dn.wipeD, Dn.ite_ap] at e3
                  simp only [e3, errD, Option.map, optN]
                · simp only [↓reduceIte, decide_eq_true_eq, decide_true, decide_false, Bool.not_true, Bool.not_false, Bool.false_eq_true, true_and, and_true, eq_self, Bool.true_eq_false, reduceCtorEq, Bool.true_and, Bool.false_and, Bool.and_true, Bool.and_false, Option.isSome_some, Option.isSome_none, Option.isNone_some, Option.isNone_none, Int.cast_ofNat_Int, Nat.reduceAdd, Nat.reduceSub, Nat.reduceLT, Nat.reduceLeDiff, Nat.reduceEqDiff, Int.reduceLT, Int.reduceLE, Int.reduceEq, Int.reduceNeg, Int.reduceToNat, Int.reducePow, Int.reduceAdd, Int.reduceSub, List.length_cons, List.length_nil, Option.bind_some, ↓Dn.sxd, Dn.sxp, Dn.leaveW, Dn.turnW, Dn.outR, Dn.bName, Dn.bTup, Dn.bCons, Dn.bNil, Dn.wipeD, Dn.ite_ap, hji]
                  simp only [behind, h0, hq, (show j ≤ i by omega), ↓reduceIte, decide_eq_true_eq, decide_true, decide_false, Bool.not_true, Bool.not_false, Bool.false_eq_true, true_and, and_true, eq_self, Bool.true_eq_false, reduceCtorEq, Bool.true_and, Bool.false_and, Bool.and_true, Bool.and_false, Option.isSome_some, Option.isSome_none, Option.isNone_some, Option.isNone_none, Int.cast_ofNat_Int, Nat.reduceAdd, Nat.reduceSub, Nat.reduceLT, Nat.reduceLeDiff, Nat.reduceEqDiff, Int.reduceLT, Int.reduceLE, Int.reduceEq, Int.reduceNeg, Int.reduceToNat, Int.reducePow, Int.reduceAdd, Int.reduceSub, List.length_cons, List.length_nil, Option.bind_some, ↓Dn.sxd, Dn.sxp, Dn.leaveW, Dn.turnW, Dn.outR, Dn.bName, Dn.bTup, Dn.bCons, Dn.bNil, Dn.wipeD, Dn.ite_ap] at e3
                  exact ⟨rfl, k + 1, rs, _, _, _, _, rfl, e2', rfl, e3⟩
          · simp only [(show ¬ (0 : Int) < (k : Int) by omega), ↓reduceIte, decide_eq_true_eq, decide_true, decide_false, Bool.not_true, Bool.not_false, Bool.false_eq_true, true_and, and_true, eq_self, Bool.true_eq_false, reduceCtorEq, Bool.true_and, Bool.false_and, Bool.and_true, Bool.and_false, Option.isSome_some, Option.isSome_none, Option.isNone_some, Option.isNone_none, Int.cast_ofNat_Int, Nat.reduceAdd, Nat.reduceSub, Nat.reduceLT, Nat.reduceLeDiff, Nat.reduceEqDiff, Int.reduceLT, Int.reduceLE, Int.reduceEq, Int.reduceNeg, Int.reduceToNat, Int.reducePow, Int.reduceAdd, Int.reduceSub, List.length_cons, List.length_nil, Option.bind_some, ↓Dn.sxd, Dn.sxp, Dn.leaveW, Dn.turnW, Dn.outR, Dn.bName, Dn.bTup, Dn.bCons, Dn.bNil, Dn.wipeD, Dn.ite_ap]
            simp only [h0, ↓reduceIte, decide_eq_true_eq, decide_true, decide_false, Bool.not_true, Bool.not_false, Bool.false_eq_true, true_and, and_true, eq_self, Bool.true_eq_false, reduceCtorEq, Bool.true_and, Bool.false_and, Bool.and_true, Bool.and_false, Option.isSome_some, Option.isSome_none, Option.isNone_some, Option.isNone_none, Int.cast_ofNat_Int, Nat.reduceAdd, Nat.reduceSub, Nat.reduceLT, Nat.reduceLeDiff, Nat.reduceEqDiff, Int.reduceLT, Int.reduceLE, Int.reduceEq, Int.reduceNeg, Int.reduceToNat, Int.reducePow, Int.reduceAdd, Int.reduceSub, List.length_cons, List.length_nil, Option.bind_some, ↓Dn.sxd, Dn.sxp, Dn.leaveW, Dn.turnW, Dn.outR, Dn.bName, Dn.bTup, Dn.bCons, Dn.bNil, Dn.wipeD, Dn.ite_ap, false_and] at e3
            exact ⟨rfl, k + 1, rs, _, _, _, _, rfl, e2', rfl, e3⟩
    · rintro env cs' ⟨rfl, k, rs, a, b, c, d, e1, e2, rfl, e3⟩
      cases rs with
      | cons r rs => cases e1
      | nil =>
        simp only [↓reduceIte, decide_eq_true_eq, decide_true, decide_false, Bool.not_true, Bool.not_false, Bool.false_eq_true, true_and, and_true, eq_self, Bool.true_eq_false, reduceCtorEq, Bool.true_and, Bool.false_and, Bool.and_true, Bool.and_false, Option.isSome_some, Option.isSome_none, Option.isNone_some, Option.isNone_none, Int.cast_ofNat_Int, Nat.reduceAdd, Nat.reduceSub, Nat.reduceLT, Nat.reduceLeDiff, Nat.reduceEqDiff, Int.reduceLT, Int.reduceLE, Int.reduceEq, Int.reduceNeg, Int.reduceToNat, Int.reducePow, Int.reduceAdd, Int.reduceSub, List.length_cons, List.length_nil, Option.bind_some, ↓Dn.sxd, Dn.sxp, Dn.leaveW, Dn.turnW, Dn.outR, Dn.bName, Dn.bTup, Dn.bCons, Dn.bNil, Dn.wipeD, Dn.ite_ap]
        rw [e3]
        simp only [errFrom, Option.map, errD]
end
/-! ### a word that writes a number -/
def figs (w : Str) : Str := if cutS w none (some 1) = "-" then cutS w (some 1) none else w
abbrev digS : Str := "0123456789"
def bads (f : Str) : List Nat := f.cps.toList.filter fun c => !decide (c ∈ digS.cps.toList)
def headS (f : Str) : Str := ⟨#[f.cps.toList.headD 0]⟩
def numIn (w : Str) (m : Nat) : Option Int :=
  if (figs w).length = 0 ∨ m < (figs w).length ∨ bads (figs w) ≠ [] then none
  else if headS (figs w) = "0" ∧ w ≠ "0" then none else PySem.intText? w
theorem dig_iff {c : Nat} : c ∈ digS.cps.toList ↔ 48 ≤ c ∧ c ≤ 57 := by
  have e : digS.cps.toList = [48, 49, 50, 51, 52, 53, 54, 55, 56, 57] := by decide +kernel
  rw [e]
  constructor
  · intro h
    simp at h
    omega
  · intro h
    simp
    omega
theorem bads_nil {f : Str} (h : bads f = []) : NumText.AllDigits f.cps.toList := fun c hc => by
  unfold bads at h
  rw [List.filter_eq_nil_iff] at h
  have := h c hc
  simp only [Bool.not_eq_true', decide_eq_false_iff_not, Decidable.not_not] at this
  exact dig_iff.mp this
theorem val_lt : ∀ (l : List Nat) (a : Nat), NumText.AllDigits l → l.foldl (fun acc c => acc * 10 + (c - 48)) a < (a + 1) * 10 ^ l.length
  | [], a, _ => by simp
  | c :: l, a, h => by
    have ih := val_lt l (a * 10 + (c - 48)) h.tail
    have hc := h.head
    rw [List.foldl_cons, List.length_cons]
    refine Nat.lt_of_lt_of_le ih ?_
    rw [Nat.pow_succ, Nat.mul_comm (10 ^ l.length) 10, ← Nat.mul_assoc]
    exact Nat.mul_le_mul_right _ (by omega)
theorem len_list (x : Str) : x.length = x.cps.toList.length := Array.length_toList.symm
theorem cut_tail (w : Str) : (cutS w (some 1) none).cps.toList = w.cps.toList.drop 1 := by
  have h1 : HT.sIx w.length 0 (some 1) = min 1 w.length := HT.sIx_nat _ _ 1
  unfold cutS
  rw [h1, HT.sIx_none, len_list]
  show ((w.cps.toList.drop _).take _) = _
  rw [List.take_of_length_le (by rw [List.length_drop]; omega)]
  cases w.cps.toList with
  | nil => rfl
  | cons c l => simp
theorem cut_head (w : Str) : (cutS w none (some 1)).cps.toList = w.cps.toList.take 1 := by
  have h1 : HT.sIx w.length w.length (some 1) = min 1 w.length := HT.sIx_nat _ _ 1
  unfold cutS
  rw [h1, HT.sIx_none, len_list]
  show ((w.cps.toList.drop _).take _) = _
  cases w.cps.toList with
  | nil => rfl
  | cons c l => simp
/-- what int() reads of such a word -/
theorem num_int {w : Str} {m : Nat} (h : ¬ ((figs w).length = 0 ∨ m < (figs w).length ∨ bads (figs w) ≠ [])) (hm : m ≤ 600) : ∃ n, PySem.intText? w = some n ∧ w.length ≤ 640 ∧ n.natAbs < 10 ^ m := by
  have h1 : (figs w).length ≠ 0 := fun e => h (.inl e)
  have h2 : (figs w).length ≤ m := Nat.le_of_not_lt fun e => h (.inr (.inl e))
  have h3 : bads (figs w) = [] := Decidable.byContradiction fun e => h (.inr (.inr e))
  have hd := bads_nil h3
  have hne : (figs w).cps.toList ≠ [] := fun e => h1 (by rw [len_list, e]; rfl)
  have hv := val_lt _ 0 hd
  rw [Nat.zero_add, Nat.one_mul] at hv
  have hv : NumText.digitsVal (figs w).cps.toList < 10 ^ m := Nat.lt_of_lt_of_le hv (Nat.pow_le_pow_right (by decide) (by rw [← len_list]; exact h2))
  by_cases hc : cutS w none (some 1) = "-"
  · have hf : figs w = cutS w (some 1) none := if_pos hc
    have ht : w.cps.toList.take 1 = [45] := by rw [← cut_head, hc]; decide +kernel
    have hw : w.cps.toList = 45 :: (figs w).cps.toList := by
      rw [hf, cut_tail]
      cases e : w.cps.toList with
      | nil => rw [e] at ht; cases ht
      | cons c l => rw [e] at ht; simp at ht; simp [ht]
    have hl : w.length = (figs w).length + 1 := by rw [len_list, hw, List.length_cons, ← len_list]
    exact ⟨_, PySem.intText_neg hw hd hne (by omega), by omega, by rw [Int.natAbs_neg, Int.natAbs_natCast]; exact hv⟩
  · have hf : figs w = w := if_neg hc
    rw [hf] at hd hne hv h2
    exact ⟨_, PySem.intText_digits hd hne (by omega), by omega, by rw [Int.natAbs_natCast]; exact hv⟩
theorem numIn_bound {w : Str} {m : Nat} {n : Int} (hm : m ≤ 600) (h : numIn w m = some n) : n.natAbs < 10 ^ m := by
  unfold numIn at h
  split at h
  · cases h
  · rename_i hb
    split at h
    · cases h
    · obtain ⟨k, e, -, hk⟩ := num_int hb hm
      rw [e] at h
      cases h
      exact hk
section
variable {Q : D → CS → Prop} {E : XM} {cs : CS}
theorem ones_flat (l : List Nat) : (l.map fun _ => D.int 1).all flatI = true := by
  rw [List.all_eq_true]
  intro d hd
  obtain ⟨_, _, rfl⟩ := List.mem_map.mp hd
  rfl
theorem ones_empty (l : List Nat) : (l.map fun _ => D.int 1).isEmpty = decide (l = []) := by cases l <;> rfl
theorem bads_wp {b : Bnd} {t : DEnv → M Bool} {el : DEnv → M D} {env : DEnv} {f : Str} {Q : List D → CS → Prop} (h : ∀ c : Nat, ∃ env1, b (.str ⟨#[c]⟩) env = some env1 ∧ (∀ (Q : Bool → CS → Prop) E, wpM (t env1) Q E cs = Q (!decide (c ∈ digS.cps.toList)) cs) ∧ (∀ (Q : D → CS → Prop) E, wpM (el env1) Q E cs = Q (.int 1) cs)) :
    wpM (compL b t el env (chars f)) Q E cs = Q ((bads f).map fun _ => .int 1) cs :=
  compL_pure _ _ _ _ (fun c _ => by obtain ⟨e1, h1, h2, h3⟩ := h c; exact ⟨e1, h1, h2, fun _ => h3⟩) Q E
theorem bads_few {f : Str} (h : f.length ≤ 16777216) : few ((bads f).map fun _ => D.int 1) = true := few_le (by
  rw [List.length_map]
  unfold bads
  exact Nat.le_trans (List.length_filter_le _ _) (by rw [← len_list]; exact h))
theorem figs_asc {w : Str} (h : Asc w) : Asc (figs w) := by
  unfold figs
  split
  · exact h.cut _ _
  · exact h
theorem figs_len (w : Str) : (figs w).length ≤ w.length := by
  unfold figs
  split
  · exact cut_len _ _ _
  · exact Nat.le_refl _
theorem len0 {f : Str} : f.length = 0 ↔ f = "" := by
  constructor
  · intro h
    refine Str.ext' ?_
    have : f.cps = #[] := Array.eq_empty_of_size_eq_zero h
    rw [this]
    decide +kernel
  · rintro rfl
    decide +kernel
theorem w_head {f : Str} (h : f.length ≠ 0) (hl : f.length ≤ 16777216) : wpM (ixD (.str f) (.int 0)) Q E cs = Q (.str (headS f)) cs := by
  have e : atI f.cps.toList 0 = some (f.cps.toList.headD 0) := atI_nat (j := 0) (by
    rw [len_list] at h
    cases q : f.cps.toList with
    | nil => rw [q] at h; exact absurd rfl h
    | cons _ _ => rfl)
  show wpM (if f.length ≤ sizeLine then (match atI f.cps.toList 0 with | some c => pure (.str ⟨#[c]⟩) | none => bad) else bad) Q E cs = _
  rw [if_pos (by rw [sizeLine_eq]; exact hl), e]
  rfl
theorem headS_asc {f : Str} (h : Asc f) : Asc (headS f) := fun c hc => by
  have hc : c = f.cps.toList.headD 0 := by simpa [headS] using hc
  rw [hc]
  cases q : f.cps.toList with
  | nil => decide
  | cons d l => exact h d (by rw [q]; simp)
theorem okT {x : Str} (h : Asc x) : PyData.strOk x = true := h.ok
theorem number_in_wp {w : Str} {m : Nat} (ha : Asc w) (hl : w.length ≤ 16777216) (hm : m ≤ 600) : wpM (φ_number_in [.str w, .int m]) Q E cs = Q (optI (numIn w m)) cs := by
  have sz : w.length ≤ sizeLine := by rw [sizeLine_eq]; exact hl
  have o1 : PyData.strOk w = true := ha.ok
  have o2 : PyData.strOk "-" = true := by decide +kernel
  have o3 : PyData.strOk (cutS w none (some 1)) = true := (ha.cut _ _).ok
  have o4 : PyData.strOk "0" = true := by decide +kernel
  by_cases hc : cutS w none (some 1) = "-"
  · have hf : figs w = cutS w (some 1) none := if_pos hc
    have fa : Asc (cutS w (some 1) none) := ha.cut _ _
    have fl : (cutS w (some 1) none).length ≤ 16777216 := Nat.le_trans (cut_len _ _ _) hl
    have fz : (cutS w (some 1) none).length ≤ sizeLine := by rw [sizeLine_eq]; exact fl
    have hi := @num_int w m
    unfold numIn
    rw [hf] at hi ⊢
    have o5 : PyData.strOk (headS (cutS w (some 1) none)) = true := (headS_asc fa).ok
    by_cases h1 : (cutS w (some 1) none).length = 0
    · simp only [φ_number_in, d_number_in, ↓reduceIte, decide_eq_true_eq, decide_true, decide_false, Bool.not_true, Bool.not_false, Bool.false_eq_true, true_and, and_true, eq_self, Bool.true_eq_false, reduceCtorEq, Bool.true_and, Bool.false_and, Bool.and_true, Bool.and_false, Option.isSome_some, Option.isSome_none, Option.isNone_some, Option.isNone_none, Int.cast_ofNat_Int, Nat.reduceAdd, Nat.reduceSub, Nat.reduceLT, Nat.reduceLeDiff, Nat.reduceEqDiff, Int.reduceLT, Int.reduceLE, Int.reduceEq, Int.reduceNeg, Int.reduceToNat, Int.reducePow, Int.reduceAdd, Int.reduceSub, List.length_cons, List.length_nil, Option.bind_some, ↓Dn.sxd, Dn.sxp, Dn.leaveW, Dn.turnW, Dn.outR, Dn.bName, Dn.bTup, Dn.bCons, Dn.bNil, Dn.wipeD, Dn.ite_ap, sz, o1, o2, o3, hc, fz, h1, (show ¬ (1 : Int) ≤ ((0 : Nat) : Int) by decide), true_or, optI, Nat.zero_le]
    · by_cases h2 : m < (cutS w (some 1) none).length
      · simp only [φ_number_in, d_number_in, ↓reduceIte, decide_eq_true_eq, decide_true, decide_false, Bool.not_true, Bool.not_false, Bool.false_eq_true, true_and, and_true, eq_self, Bool.true_eq_false, reduceCtorEq, Bool.true_and, Bool.false_and, Bool.and_true, Bool.and_false, Option.isSome_some, Option.isSome_none, Option.isNone_some, Option.isNone_none, Int.cast_ofNat_Int, Nat.reduceAdd, Nat.reduceSub, Nat.reduceLT, Nat.reduceLeDiff, Nat.reduceEqDiff, Int.reduceLT, Int.reduceLE, Int.reduceEq, Int.reduceNeg, Int.reduceToNat, Int.reducePow, Int.reduceAdd, Int.reduceSub, List.length_cons, List.length_nil, Option.bind_some, ↓Dn.sxd, Dn.sxp, Dn.leaveW, Dn.turnW, Dn.outR, Dn.bName, Dn.bTup, Dn.bCons, Dn.bNil, Dn.wipeD, Dn.ite_ap, sz, o1, o2, o3, hc, fz, h1, h2, (show (1 : Int) ≤ ((cutS w (some 1) none).length : Int) by omega), (show ¬ ((cutS w (some 1) none).length : Int) ≤ (m : Int) by omega), true_or, or_true, optI]
      · simp only [φ_number_in, d_number_in, ↓reduceIte, decide_eq_true_eq, decide_true, decide_false, Bool.not_true, Bool.not_false, Bool.false_eq_true, true_and, and_true, eq_self, Bool.true_eq_false, reduceCtorEq, Bool.true_and, Bool.false_and, Bool.and_true, Bool.and_false, Option.isSome_some, Option.isSome_none, Option.isNone_some, Option.isNone_none, Int.cast_ofNat_Int, Nat.reduceAdd, Nat.reduceSub, Nat.reduceLT, Nat.reduceLeDiff, Nat.reduceEqDiff, Int.reduceLT, Int.reduceLE, Int.reduceEq, Int.reduceNeg, Int.reduceToNat, Int.reducePow, Int.reduceAdd, Int.reduceSub, List.length_cons, List.length_nil, Option.bind_some, ↓Dn.sxd, Dn.sxp, Dn.leaveW, Dn.turnW, Dn.outR, Dn.bName, Dn.bTup, Dn.bCons, Dn.bNil, Dn.wipeD, Dn.ite_ap, sz, o1, o2, o3, hc, fz, (show (1 : Int) ≤ ((cutS w (some 1) none).length : Int) by omega), (show ((cutS w (some 1) none).length : Int) ≤ (m : Int) by omega)]
        rw [bads_wp fun c => ⟨_, rfl, fun Q E => by simp only [↓reduceIte, decide_eq_true_eq, decide_true, decide_false, Bool.not_true, Bool.not_false, Bool.false_eq_true, true_and, and_true, eq_self, Bool.true_eq_false, reduceCtorEq, Bool.true_and, Bool.false_and, Bool.and_true, Bool.and_false, Option.isSome_some, Option.isSome_none, Option.isNone_some, Option.isNone_none, Int.cast_ofNat_Int, Nat.reduceAdd, Nat.reduceSub, Nat.reduceLT, Nat.reduceLeDiff, Nat.reduceEqDiff, Int.reduceLT, Int.reduceLE, Int.reduceEq, Int.reduceNeg, Int.reduceToNat, Int.reducePow, Int.reduceAdd, Int.reduceSub, List.length_cons, List.length_nil, Option.bind_some, ↓Dn.sxd, Dn.sxp, Dn.leaveW, Dn.turnW, Dn.outR, Dn.bName, Dn.bTup, Dn.bCons, Dn.bNil, Dn.wipeD, Dn.ite_ap], fun Q E => by simp only [↓reduceIte, decide_eq_true_eq, decide_true, decide_false, Bool.not_true, Bool.not_false, Bool.false_eq_true, true_and, and_true, eq_self, Bool.true_eq_false, reduceCtorEq, Bool.true_and, Bool.false_and, Bool.and_true, Bool.and_false, Option.isSome_some, Option.isSome_none, Option.isNone_some, Option.isNone_none, Int.cast_ofNat_Int, Nat.reduceAdd, Nat.reduceSub, Nat.reduceLT, Nat.reduceLeDiff, Nat.reduceEqDiff, Int.reduceLT, Int.reduceLE, Int.reduceEq, Int.reduceNeg, Int.reduceToNat, Int.reducePow, Int.reduceAdd, Int.reduceSub, List.length_cons, List.length_nil, Option.bind_some, ↓Dn.sxd, Dn.sxp, Dn.leaveW, Dn.turnW, Dn.outR, Dn.bName, Dn.bTup, Dn.bCons, Dn.bNil, Dn.wipeD, Dn.ite_ap]⟩]
        simp only [↓reduceIte, decide_eq_true_eq, decide_true, decide_false, Bool.not_true, Bool.not_false, Bool.false_eq_true, true_and, and_true, eq_self, Bool.true_eq_false, reduceCtorEq, Bool.true_and, Bool.false_and, Bool.and_true, Bool.and_false, Option.isSome_some, Option.isSome_none, Option.isNone_some, Option.isNone_none, Int.cast_ofNat_Int, Nat.reduceAdd, Nat.reduceSub, Nat.reduceLT, Nat.reduceLeDiff, Nat.reduceEqDiff, Int.reduceLT, Int.reduceLE, Int.reduceEq, Int.reduceNeg, Int.reduceToNat, Int.reducePow, Int.reduceAdd, Int.reduceSub, List.length_cons, List.length_nil, Option.bind_some, ↓Dn.sxd, Dn.sxp, Dn.leaveW, Dn.turnW, Dn.outR, Dn.bName, Dn.bTup, Dn.bCons, Dn.bNil, Dn.wipeD, Dn.ite_ap, bads_few fl]
        rw [w_eqL0 (ones_flat _), ones_empty]
        by_cases h3 : bads (cutS w (some 1) none) = []
        · obtain ⟨n, hn1, hn2, hn3⟩ := hi (by simp only [h1, h2, h3, ne_eq, not_true_eq_false, or_self, not_false_eq_true]) hm
          simp only [h1, h2, h3, ↓reduceIte, decide_eq_true_eq, decide_true, decide_false, Bool.not_true, Bool.not_false, Bool.false_eq_true, true_and, and_true, eq_self, Bool.true_eq_false, reduceCtorEq, Bool.true_and, Bool.false_and, Bool.and_true, Bool.and_false, Option.isSome_some, Option.isSome_none, Option.isNone_some, Option.isNone_none, Int.cast_ofNat_Int, Nat.reduceAdd, Nat.reduceSub, Nat.reduceLT, Nat.reduceLeDiff, Nat.reduceEqDiff, Int.reduceLT, Int.reduceLE, Int.reduceEq, Int.reduceNeg, Int.reduceToNat, Int.reducePow, Int.reduceAdd, Int.reduceSub, List.length_cons, List.length_nil, Option.bind_some, ↓Dn.sxd, Dn.sxp, Dn.leaveW, Dn.turnW, Dn.outR, Dn.bName, Dn.bTup, Dn.bCons, Dn.bNil, Dn.wipeD, Dn.ite_ap, w_head h1 fl, o1, o4, o5, ne_eq, not_true_eq_false, or_self]
          by_cases h4 : headS (cutS w (some 1) none) = "0"
          · by_cases h5 : w = "0"
            · simp only [h4, eq_true h5, ↓reduceIte, decide_eq_true_eq, decide_true, decide_false, Bool.not_true, Bool.not_false, Bool.false_eq_true, true_and, and_true, eq_self, Bool.true_eq_false, reduceCtorEq, Bool.true_and, Bool.false_and, Bool.and_true, Bool.and_false, Option.isSome_some, Option.isSome_none, Option.isNone_some, Option.isNone_none, Int.cast_ofNat_Int, Nat.reduceAdd, Nat.reduceSub, Nat.reduceLT, Nat.reduceLeDiff, Nat.reduceEqDiff, Int.reduceLT, Int.reduceLE, Int.reduceEq, Int.reduceNeg, Int.reduceToNat, Int.reducePow, Int.reduceAdd, Int.reduceSub, List.length_cons, List.length_nil, Option.bind_some, ↓Dn.sxd, Dn.sxp, Dn.leaveW, Dn.turnW, Dn.outR, Dn.bName, Dn.bTup, Dn.bCons, Dn.bNil, Dn.wipeD, Dn.ite_ap, not_true_eq_false, and_false]
              rw [w_intS hn1 hn2, hn1]
              rfl
            · simp only [h4, h5, ↓reduceIte, decide_eq_true_eq, decide_true, decide_false, Bool.not_true, Bool.not_false, Bool.false_eq_true, true_and, and_true, eq_self, Bool.true_eq_false, reduceCtorEq, Bool.true_and, Bool.false_and, Bool.and_true, Bool.and_false, Option.isSome_some, Option.isSome_none, Option.isNone_some, Option.isNone_none, Int.cast_ofNat_Int, Nat.reduceAdd, Nat.reduceSub, Nat.reduceLT, Nat.reduceLeDiff, Nat.reduceEqDiff, Int.reduceLT, Int.reduceLE, Int.reduceEq, Int.reduceNeg, Int.reduceToNat, Int.reducePow, Int.reduceAdd, Int.reduceSub, List.length_cons, List.length_nil, Option.bind_some, ↓Dn.sxd, Dn.sxp, Dn.leaveW, Dn.turnW, Dn.outR, Dn.bName, Dn.bTup, Dn.bCons, Dn.bNil, Dn.wipeD, Dn.ite_ap, not_false_eq_true, optI]
          · simp only [h4, ↓reduceIte, decide_eq_true_eq, decide_true, decide_false, Bool.not_true, Bool.not_false, Bool.false_eq_true, true_and, and_true, eq_self, Bool.true_eq_false, reduceCtorEq, Bool.true_and, Bool.false_and, Bool.and_true, Bool.and_false, Option.isSome_some, Option.isSome_none, Option.isNone_some, Option.isNone_none, Int.cast_ofNat_Int, Nat.reduceAdd, Nat.reduceSub, Nat.reduceLT, Nat.reduceLeDiff, Nat.reduceEqDiff, Int.reduceLT, Int.reduceLE, Int.reduceEq, Int.reduceNeg, Int.reduceToNat, Int.reducePow, Int.reduceAdd, Int.reduceSub, List.length_cons, List.length_nil, Option.bind_some, ↓Dn.sxd, Dn.sxp, Dn.leaveW, Dn.turnW, Dn.outR, Dn.bName, Dn.bTup, Dn.bCons, Dn.bNil, Dn.wipeD, Dn.ite_ap, false_and]
            rw [w_intS hn1 hn2, hn1]
            rfl
        · simp only [h1, h2, h3, ↓reduceIte, decide_eq_true_eq, decide_true, decide_false, Bool.not_true, Bool.not_false, Bool.false_eq_true, true_and, and_true, eq_self, Bool.true_eq_false, reduceCtorEq, Bool.true_and, Bool.false_and, Bool.and_true, Bool.and_false, Option.isSome_some, Option.isSome_none, Option.isNone_some, Option.isNone_none, Int.cast_ofNat_Int, Nat.reduceAdd, Nat.reduceSub, Nat.reduceLT, Nat.reduceLeDiff, Nat.reduceEqDiff, Int.reduceLT, Int.reduceLE, Int.reduceEq, Int.reduceNeg, Int.reduceToNat, Int.reducePow, Int.reduceAdd, Int.reduceSub, List.length_cons, List.length_nil, Option.bind_some, ↓Dn.sxd, Dn.sxp, Dn.leaveW, Dn.turnW, Dn.outR, Dn.bName, Dn.bTup, Dn.bCons, Dn.bNil, Dn.wipeD, Dn.ite_ap, ne_eq, not_false_eq_true, or_true, optI]
  · have hf : figs w = w := if_neg hc
    have fa : Asc w := ha
    have fl : w.length ≤ 16777216 := hl
    have fz : w.length ≤ sizeLine := sz
    have hi := @num_int w m
    unfold numIn
    rw [hf] at hi ⊢
    have o5 : PyData.strOk (headS (w)) = true := (headS_asc fa).ok
    by_cases h1 : (w).length = 0
    · simp only [φ_number_in, d_number_in, ↓reduceIte, decide_eq_true_eq, decide_true, decide_false, Bool.not_true, Bool.not_false, Bool.false_eq_true, true_and, and_true, eq_self, Bool.true_eq_false, reduceCtorEq, Bool.true_and, Bool.false_and, Bool.and_true, Bool.and_false, Option.isSome_some, Option.isSome_none, Option.isNone_some, Option.isNone_none, Int.cast_ofNat_Int, Nat.reduceAdd, Nat.reduceSub, Nat.reduceLT, Nat.reduceLeDiff, Nat.reduceEqDiff, Int.reduceLT, Int.reduceLE, Int.reduceEq, Int.reduceNeg, Int.reduceToNat, Int.reducePow, Int.reduceAdd, Int.reduceSub, List.length_cons, List.length_nil, Option.bind_some, ↓Dn.sxd, Dn.sxp, Dn.leaveW, Dn.turnW, Dn.outR, Dn.bName, Dn.bTup, Dn.bCons, Dn.bNil, Dn.wipeD, Dn.ite_ap, sz, o1, o2, o3, hc, fz, h1, (show ¬ (1 : Int) ≤ ((0 : Nat) : Int) by decide), true_or, optI, Nat.zero_le]
    · by_cases h2 : m < (w).length
      · simp only [φ_number_in, d_number_in, ↓reduceIte, decide_eq_true_eq, decide_true, decide_false, Bool.not_true, Bool.not_false, Bool.false_eq_true, true_and, and_true, eq_self, Bool.true_eq_false, reduceCtorEq, Bool.true_and, Bool.false_and, Bool.and_true, Bool.and_false, Option.isSome_some, Option.isSome_none, Option.isNone_some, Option.isNone_none, Int.cast_ofNat_Int, Nat.reduceAdd, Nat.reduceSub, Nat.reduceLT, Nat.reduceLeDiff, Nat.reduceEqDiff, Int.reduceLT, Int.reduceLE, Int.reduceEq, Int.reduceNeg, Int.reduceToNat, Int.reducePow, Int.reduceAdd, Int.reduceSub, List.length_cons, List.length_nil, Option.bind_some, ↓Dn.sxd, Dn.sxp, Dn.leaveW, Dn.turnW, Dn.outR, Dn.bName, Dn.bTup, Dn.bCons, Dn.bNil, Dn.wipeD, Dn.ite_ap, sz, o1, o2, o3, hc, fz, h1, h2, (show (1 : Int) ≤ ((w).length : Int) by omega), (show ¬ ((w).length : Int) ≤ (m : Int) by omega), true_or, or_true, optI]
      · simp only [φ_number_in, d_number_in, ↓reduceIte, decide_eq_true_eq, decide_true, decide_false, Bool.not_true, Bool.not_false, Bool.false_eq_true, true_and, and_true, eq_self, Bool.true_eq_false, reduceCtorEq, Bool.true_and, Bool.false_and, Bool.and_true, Bool.and_false, Option.isSome_some, Option.isSome_none, Option.isNone_some, Option.isNone_none, Int.cast_ofNat_Int, Nat.reduceAdd, Nat.reduceSub, Nat.reduceLT, Nat.reduceLeDiff, Nat.reduceEqDiff, Int.reduceLT, Int.reduceLE, Int.reduceEq, Int.reduceNeg, Int.reduceToNat, Int.reducePow, Int.reduceAdd, Int.reduceSub, List.length_cons, List.length_nil, Option.bind_some, ↓Dn.sxd, Dn.sxp, Dn.leaveW, Dn.turnW, Dn.outR, Dn.bName, Dn.bTup, Dn.bCons, Dn.bNil, Dn.wipeD, Dn.ite_ap, sz, o1, o2, o3, hc, fz, (show (1 : Int) ≤ ((w).length : Int) by omega), (show ((w).length : Int) ≤ (m : Int) by omega)]
        rw [bads_wp fun c => ⟨_, rfl, fun Q E => by simp only [↓reduceIte, decide_eq_true_eq, decide_true, decide_false, Bool.not_true, Bool.not_false, Bool.false_eq_true, true_and, and_true, eq_self, Bool.true_eq_false, reduceCtorEq, Bool.true_and, Bool.false_and, Bool.and_true, Bool.and_false, Option.isSome_some, Option.isSome_none, Option.isNone_some, Option.isNone_none, Int.cast_ofNat_Int, Nat.reduceAdd, Nat.reduceSub, Nat.reduceLT, Nat.reduceLeDiff, Nat.reduceEqDiff, Int.reduceLT, Int.reduceLE, Int.reduceEq, Int.reduceNeg, Int.reduceToNat, Int.reducePow, Int.reduceAdd, Int.reduceSub, List.length_cons, List.length_nil, Option.bind_some, ↓Dn.sxd, Dn.sxp, Dn.leaveW, Dn.turnW, Dn.outR, Dn.bName, Dn.bTup, Dn.bCons, Dn.bNil, Dn.wipeD, Dn.ite_ap], fun Q E => by simp only [↓reduceIte, decide_eq_true_eq, decide_true, decide_false, Bool.not_true, Bool.not_false, Bool.false_eq_true, true_and, and_true, eq_self, Bool.true_eq_false, reduceCtorEq, Bool.true_and, Bool.false_and, Bool.and_true, Bool.and_false, Option.isSome_some, Option.isSome_none, Option.isNone_some, Option.isNone_none, Int.cast_ofNat_Int, Nat.reduceAdd, Nat.reduceSub, Nat.reduceLT, Nat.reduceLeDiff, Nat.reduceEqDiff, Int.reduceLT, Int.reduceLE, Int.reduceEq, Int.reduceNeg, Int.reduceToNat, Int.reducePow, Int.reduceAdd, Int.reduceSub, List.length_cons, List.length_nil, Option.bind_some, ↓Dn.sxd, Dn.sxp, Dn.leaveW, Dn.turnW, Dn.outR, Dn.bName, Dn.bTup, Dn.bCons, Dn.bNil, Dn.wipeD, Dn.ite_ap]⟩]
        simp only [↓reduceIte, decide_eq_true_eq, decide_true, decide_false, Bool.not_true, Bool.not_false, Bool.false_eq_true, true_and, and_true, eq_self, Bool.true_eq_false, reduceCtorEq, Bool.true_and, Bool.false_and, Bool.and_true, Bool.and_false, Option.isSome_some, Option.isSome_none, Option.isNone_some, Option.isNone_none, Int.cast_ofNat_Int, Nat.reduceAdd, Nat.reduceSub, Nat.reduceLT, Nat.reduceLeDiff, Nat.reduceEqDiff, Int.reduceLT, Int.reduceLE, Int.reduceEq, Int.reduceNeg, Int.reduceToNat, Int.reducePow, Int.reduceAdd, Int.reduceSub, List.length_cons, List.length_nil, Option.bind_some, ↓Dn.sxd, Dn.sxp, Dn.leaveW, Dn.turnW, Dn.outR, Dn.bName, Dn.bTup, Dn.bCons, Dn.bNil, Dn.wipeD, Dn.ite_ap, bads_few fl]
        rw [w_eqL0 (ones_flat _), ones_empty]
        by_cases h3 : bads (w) = []
        · obtain ⟨n, hn1, hn2, hn3⟩ := hi (by simp only [h1, h2, h3, ne_eq, not_true_eq_false, or_self, not_false_eq_true]) hm
          simp only [h1, h2, h3, ↓reduceIte, decide_eq_true_eq, decide_true, decide_false, Bool.not_true, Bool.not_false, Bool.false_eq_true, true_and, and_true, eq_self, Bool.true_eq_false, reduceCtorEq, Bool.true_and, Bool.false_and, Bool.and_true, Bool.and_false, Option.isSome_some, Option.isSome_none, Option.isNone_some, Option.isNone_none, Int.cast_ofNat_Int, Nat.reduceAdd, Nat.reduceSub, Nat.reduceLT, Nat.reduceLeDiff, Nat.reduceEqDiff, Int.reduceLT, Int.reduceLE, Int.reduceEq, Int.reduceNeg, Int.reduceToNat, Int.reducePow, Int.reduceAdd, Int.reduceSub, List.length_cons, List.length_nil, Option.bind_some, ↓Dn.sxd, Dn.sxp, Dn.leaveW, Dn.turnW, Dn.outR, Dn.bName, Dn.bTup, Dn.bCons, Dn.bNil, Dn.wipeD, Dn.ite_ap, w_head h1 fl, o1, o4, o5, ne_eq, not_true_eq_false, or_self]
          by_cases h4 : headS (w) = "0"
          · by_cases h5 : w = "0"
            · simp only [h4, eq_true h5, ↓reduceIte, decide_eq_true_eq, decide_true, decide_false, Bool.not_true, Bool.not_false, Bool.false_eq_true, true_and, and_true, eq_self, Bool.true_eq_false, reduceCtorEq, Bool.true_and, Bool.false_and, Bool.and_true, Bool.and_false, Option.isSome_some, Option.isSome_none, Option.isNone_some, Option.isNone_none, Int.cast_ofNat_Int, Nat.reduceAdd, Nat.reduceSub, Nat.reduceLT, Nat.reduceLeDiff, Nat.reduceEqDiff, Int.reduceLT, Int.reduceLE, Int.reduceEq, Int.reduceNeg, Int.reduceToNat, Int.reducePow, Int.reduceAdd, Int.reduceSub, List.length_cons, List.length_nil, Option.bind_some, ↓Dn.sxd, Dn.sxp, Dn.leaveW, Dn.turnW, Dn.outR, Dn.bName, Dn.bTup, Dn.bCons, Dn.bNil, Dn.wipeD, Dn.ite_ap, not_true_eq_false, and_false]
              rw [w_intS hn1 hn2, hn1]
              rfl
            · simp only [h4, h5, ↓reduceIte, decide_eq_true_eq, decide_true, decide_false, Bool.not_true, Bool.not_false, Bool.false_eq_true, true_and, and_true, eq_self, Bool.true_eq_false, reduceCtorEq, Bool.true_and, Bool.false_and, Bool.and_true, Bool.and_false, Option.isSome_some, Option.isSome_none, Option.isNone_some, Option.isNone_none, Int.cast_ofNat_Int, Nat.reduceAdd, Nat.reduceSub, Nat.reduceLT, Nat.reduceLeDiff, Nat.reduceEqDiff, Int.reduceLT, Int.reduceLE, Int.reduceEq, Int.reduceNeg, Int.reduceToNat, Int.reducePow, Int.reduceAdd, Int.reduceSub, List.length_cons, List.length_nil, Option.bind_some, ↓Dn.sxd, Dn.sxp, Dn.leaveW, Dn.turnW, Dn.outR, Dn.bName, Dn.bTup, Dn.bCons, Dn.bNil, Dn.wipeD, Dn.ite_ap, not_false_eq_true, optI]
          · simp only [h4, ↓reduceIte, decide_eq_true_eq, decide_true, decide_false, Bool.not_true, Bool.not_false, Bool.false_eq_true, true_and, and_true, eq_self, Bool.true_eq_false, reduceCtorEq, Bool.true_and, Bool.false_and, Bool.and_true, Bool.and_false, Option.isSome_some, Option.isSome_none, Option.isNone_some, Option.isNone_none, Int.cast_ofNat_Int, Nat.reduceAdd, Nat.reduceSub, Nat.reduceLT, Nat.reduceLeDiff, Nat.reduceEqDiff, Int.reduceLT, Int.reduceLE, Int.reduceEq, Int.reduceNeg, Int.reduceToNat, Int.reducePow, Int.reduceAdd, Int.reduceSub, List.length_cons, List.length_nil, Option.bind_some, ↓Dn.sxd, Dn.sxp, Dn.leaveW, Dn.turnW, Dn.outR, Dn.bName, Dn.bTup, Dn.bCons, Dn.bNil, Dn.wipeD, Dn.ite_ap, false_and]
            rw [w_intS hn1 hn2, hn1]
            rfl
        · simp only [h1, h2, h3, ↓reduceIte, decide_eq_true_eq, decide_true, decide_false, Bool.not_true, Bool.not_false, Bool.false_eq_true, true_and, and_true, eq_self, Bool.true_eq_false, reduceCtorEq, Bool.true_and, Bool.false_and, Bool.and_true, Bool.and_false, Option.isSome_some, Option.isSome_none, Option.isNone_some, Option.isNone_none, Int.cast_ofNat_Int, Nat.reduceAdd, Nat.reduceSub, Nat.reduceLT, Nat.reduceLeDiff, Nat.reduceEqDiff, Int.reduceLT, Int.reduceLE, Int.reduceEq, Int.reduceNeg, Int.reduceToNat, Int.reducePow, Int.reduceAdd, Int.reduceSub, List.length_cons, List.length_nil, Option.bind_some, ↓Dn.sxd, Dn.sxp, Dn.leaveW, Dn.turnW, Dn.outR, Dn.bName, Dn.bTup, Dn.bCons, Dn.bNil, Dn.wipeD, Dn.ite_ap, ne_eq, not_false_eq_true, or_true, optI]
theorem lnumber_in_wp {w : Str} {m : Nat} (ha : Asc w) (hl : w.length ≤ 16777216) (hm : m ≤ 600) : wpM (φ__law_number_in [.str w, .int m]) Q E cs = Q (optI (numIn w m)) cs := by
  have sz : w.length ≤ sizeLine := by rw [sizeLine_eq]; exact hl
  have o1 : PyData.strOk w = true := ha.ok
  have o2 : PyData.strOk "-" = true := by decide +kernel
  have o3 : PyData.strOk (cutS w none (some 1)) = true := (ha.cut _ _).ok
  have o4 : PyData.strOk "0" = true := by decide +kernel
  have o7 : PyData.strOk "" = true := by decide +kernel
  by_cases hc : cutS w none (some 1) = "-"
  · have hf : figs w = cutS w (some 1) none := if_pos hc
    have fa : Asc (cutS w (some 1) none) := ha.cut _ _
    have fl : (cutS w (some 1) none).length ≤ 16777216 := Nat.le_trans (cut_len _ _ _) hl
    have fz : (cutS w (some 1) none).length ≤ sizeLine := by rw [sizeLine_eq]; exact fl
    have hi := @num_int w m
    unfold numIn
    rw [hf] at hi ⊢
    have o5 : PyData.strOk (headS (cutS w (some 1) none)) = true := (headS_asc fa).ok
    have o6 : PyData.strOk (cutS w (some 1) none) = true := fa.ok
    by_cases h1 : (cutS w (some 1) none).length = 0
    · have h1' : (cutS w (some 1) none) = "" := len0.mp h1
      simp only [φ__law_number_in, d__law_number_in, ↓reduceIte, decide_eq_true_eq, decide_true, decide_false, Bool.not_true, Bool.not_false, Bool.false_eq_true, true_and, and_true, eq_self, Bool.true_eq_false, reduceCtorEq, Bool.true_and, Bool.false_and, Bool.and_true, Bool.and_false, Option.isSome_some, Option.isSome_none, Option.isNone_some, Option.isNone_none, Int.cast_ofNat_Int, Nat.reduceAdd, Nat.reduceSub, Nat.reduceLT, Nat.reduceLeDiff, Nat.reduceEqDiff, Int.reduceLT, Int.reduceLE, Int.reduceEq, Int.reduceNeg, Int.reduceToNat, Int.reducePow, Int.reduceAdd, Int.reduceSub, List.length_cons, List.length_nil, Option.bind_some, ↓Dn.sxd, Dn.sxp, Dn.leaveW, Dn.turnW, Dn.outR, Dn.bName, Dn.bTup, Dn.bCons, Dn.bNil, Dn.wipeD, Dn.ite_ap, sz, o1, o2, o3, o6, o7, hc, fz, h1, eq_true h1', true_or, optI, Nat.zero_le]
    · have h1' : ¬ (cutS w (some 1) none) = "" := fun e => h1 (len0.mpr e)
      by_cases h2 : m < (cutS w (some 1) none).length
      · simp only [φ__law_number_in, d__law_number_in, ↓reduceIte, decide_eq_true_eq, decide_true, decide_false, Bool.not_true, Bool.not_false, Bool.false_eq_true, true_and, and_true, eq_self, Bool.true_eq_false, reduceCtorEq, Bool.true_and, Bool.false_and, Bool.and_true, Bool.and_false, Option.isSome_some, Option.isSome_none, Option.isNone_some, Option.isNone_none, Int.cast_ofNat_Int, Nat.reduceAdd, Nat.reduceSub, Nat.reduceLT, Nat.reduceLeDiff, Nat.reduceEqDiff, Int.reduceLT, Int.reduceLE, Int.reduceEq, Int.reduceNeg, Int.reduceToNat, Int.reducePow, Int.reduceAdd, Int.reduceSub, List.length_cons, List.length_nil, Option.bind_some, ↓Dn.sxd, Dn.sxp, Dn.leaveW, Dn.turnW, Dn.outR, Dn.bName, Dn.bTup, Dn.bCons, Dn.bNil, Dn.wipeD, Dn.ite_ap, sz, o1, o2, o3, o6, o7, hc, fz, h1, h2, eq_false h1', (show ((m : Int)) < ((cutS w (some 1) none).length : Int) by omega), true_or, or_true, optI]
      · simp only [φ__law_number_in, d__law_number_in, ↓reduceIte, decide_eq_true_eq, decide_true, decide_false, Bool.not_true, Bool.not_false, Bool.false_eq_true, true_and, and_true, eq_self, Bool.true_eq_false, reduceCtorEq, Bool.true_and, Bool.false_and, Bool.and_true, Bool.and_false, Option.isSome_some, Option.isSome_none, Option.isNone_some, Option.isNone_none, Int.cast_ofNat_Int, Nat.reduceAdd, Nat.reduceSub, Nat.reduceLT, Nat.reduceLeDiff, Nat.reduceEqDiff, Int.reduceLT, Int.reduceLE, Int.reduceEq, Int.reduceNeg, Int.reduceToNat, Int.reducePow, Int.reduceAdd, Int.reduceSub, List.length_cons, List.length_nil, Option.bind_some, ↓Dn.sxd, Dn.sxp, Dn.leaveW, Dn.turnW, Dn.outR, Dn.bName, Dn.bTup, Dn.bCons, Dn.bNil, Dn.wipeD, Dn.ite_ap, sz, o1, o2, o3, o6, o7, hc, fz, eq_false h1', (show ¬ ((m : Int)) < ((cutS w (some 1) none).length : Int) by omega)]
        rw [bads_wp fun c => ⟨_, rfl, fun Q E => by simp only [↓reduceIte, decide_eq_true_eq, decide_true, decide_false, Bool.not_true, Bool.not_false, Bool.false_eq_true, true_and, and_true, eq_self, Bool.true_eq_false, reduceCtorEq, Bool.true_and, Bool.false_and, Bool.and_true, Bool.and_false, Option.isSome_some, Option.isSome_none, Option.isNone_some, Option.isNone_none, Int.cast_ofNat_Int, Nat.reduceAdd, Nat.reduceSub, Nat.reduceLT, Nat.reduceLeDiff, Nat.reduceEqDiff, Int.reduceLT, Int.reduceLE, Int.reduceEq, Int.reduceNeg, Int.reduceToNat, Int.reducePow, Int.reduceAdd, Int.reduceSub, List.length_cons, List.length_nil, Option.bind_some, ↓Dn.sxd, Dn.sxp, Dn.leaveW, Dn.turnW, Dn.outR, Dn.bName, Dn.bTup, Dn.bCons, Dn.bNil, Dn.wipeD, Dn.ite_ap], fun Q E => by simp only [↓reduceIte, decide_eq_true_eq, decide_true, decide_false, Bool.not_true, Bool.not_false, Bool.false_eq_true, true_and, and_true, eq_self, Bool.true_eq_false, reduceCtorEq, Bool.true_and, Bool.false_and, Bool.and_true, Bool.and_false, Option.isSome_some, Option.isSome_none, Option.isNone_some, Option.isNone_none, Int.cast_ofNat_Int, Nat.reduceAdd, Nat.reduceSub, Nat.reduceLT, Nat.reduceLeDiff, Nat.reduceEqDiff, Int.reduceLT, Int.reduceLE, Int.reduceEq, Int.reduceNeg, Int.reduceToNat, Int.reducePow, Int.reduceAdd, Int.reduceSub, List.length_cons, List.length_nil, Option.bind_some, ↓Dn.sxd, Dn.sxp, Dn.leaveW, Dn.turnW, Dn.outR, Dn.bName, Dn.bTup, Dn.bCons, Dn.bNil, Dn.wipeD, Dn.ite_ap]⟩]
        simp only [↓reduceIte, decide_eq_true_eq, decide_true, decide_false, Bool.not_true, Bool.not_false, Bool.false_eq_true, true_and, and_true, eq_self, Bool.true_eq_false, reduceCtorEq, Bool.true_and, Bool.false_and, Bool.and_true, Bool.and_false, Option.isSome_some, Option.isSome_none, Option.isNone_some, Option.isNone_none, Int.cast_ofNat_Int, Nat.reduceAdd, Nat.reduceSub, Nat.reduceLT, Nat.reduceLeDiff, Nat.reduceEqDiff, Int.reduceLT, Int.reduceLE, Int.reduceEq, Int.reduceNeg, Int.reduceToNat, Int.reducePow, Int.reduceAdd, Int.reduceSub, List.length_cons, List.length_nil, Option.bind_some, ↓Dn.sxd, Dn.sxp, Dn.leaveW, Dn.turnW, Dn.outR, Dn.bName, Dn.bTup, Dn.bCons, Dn.bNil, Dn.wipeD, Dn.ite_ap, bads_few fl]
        rw [w_eqL0 (ones_flat _), ones_empty]
        by_cases h3 : bads (cutS w (some 1) none) = []
        · obtain ⟨n, hn1, hn2, hn3⟩ := hi (by simp only [h1, h2, h3, ne_eq, not_true_eq_false, or_self, not_false_eq_true]) hm
          simp only [h1, h2, h3, ↓reduceIte, decide_eq_true_eq, decide_true, decide_false, Bool.not_true, Bool.not_false, Bool.false_eq_true, true_and, and_true, eq_self, Bool.true_eq_false, reduceCtorEq, Bool.true_and, Bool.false_and, Bool.and_true, Bool.and_false, Option.isSome_some, Option.isSome_none, Option.isNone_some, Option.isNone_none, Int.cast_ofNat_Int, Nat.reduceAdd, Nat.reduceSub, Nat.reduceLT, Nat.reduceLeDiff, Nat.reduceEqDiff, Int.reduceLT, Int.reduceLE, Int.reduceEq, Int.reduceNeg, Int.reduceToNat, Int.reducePow, Int.reduceAdd, Int.reduceSub, List.length_cons, List.length_nil, Option.bind_some, ↓Dn.sxd, Dn.sxp, Dn.leaveW, Dn.turnW, Dn.outR, Dn.bName, Dn.bTup, Dn.bCons, Dn.bNil, Dn.wipeD, Dn.ite_ap, w_head h1 fl, o1, o4, o5, ne_eq, not_true_eq_false, or_self]
          by_cases h4 : headS (cutS w (some 1) none) = "0"
          · by_cases h5 : w = "0"
            · simp only [h4, eq_true h5, ↓reduceIte, decide_eq_true_eq, decide_true, decide_false, Bool.not_true, Bool.not_false, Bool.false_eq_true, true_and, and_true, eq_self, Bool.true_eq_false, reduceCtorEq, Bool.true_and, Bool.false_and, Bool.and_true, Bool.and_false, Option.isSome_some, Option.isSome_none, Option.isNone_some, Option.isNone_none, Int.cast_ofNat_Int, Nat.reduceAdd, Nat.reduceSub, Nat.reduceLT, Nat.reduceLeDiff, Nat.reduceEqDiff, Int.reduceLT, Int.reduceLE, Int.reduceEq, Int.reduceNeg, Int.reduceToNat, Int.reducePow, Int.reduceAdd, Int.reduceSub, List.length_cons, List.length_nil, Option.bind_some, ↓Dn.sxd, Dn.sxp, Dn.leaveW, Dn.turnW, Dn.outR, Dn.bName, Dn.bTup, Dn.bCons, Dn.bNil, Dn.wipeD, Dn.ite_ap, not_true_eq_false, and_false]
              rw [w_intS hn1 hn2, hn1]
              rfl
            · simp only [h4, h5, ↓reduceIte, decide_eq_true_eq, decide_true, decide_false, Bool.not_true, Bool.not_false, Bool.false_eq_true, true_and, and_true, eq_self, Bool.true_eq_false, reduceCtorEq, Bool.true_and, Bool.false_and, Bool.and_true, Bool.and_false, Option.isSome_some, Option.isSome_none, Option.isNone_some, Option.isNone_none, Int.cast_ofNat_Int, Nat.reduceAdd, Nat.reduceSub, Nat.reduceLT, Nat.reduceLeDiff, Nat.reduceEqDiff, Int.reduceLT, Int.reduceLE, Int.reduceEq, Int.reduceNeg, Int.reduceToNat, Int.reducePow, Int.reduceAdd, Int.reduceSub, List.length_cons, List.length_nil, Option.bind_some, ↓Dn.sxd, Dn.sxp, Dn.leaveW, Dn.turnW, Dn.outR, Dn.bName, Dn.bTup, Dn.bCons, Dn.bNil, Dn.wipeD, Dn.ite_ap, not_false_eq_true, optI]
          · simp only [h4, ↓reduceIte, decide_eq_true_eq, decide_true, decide_false, Bool.not_true, Bool.not_false, Bool.false_eq_true, true_and, and_true, eq_self, Bool.true_eq_false, reduceCtorEq, Bool.true_and, Bool.false_and, Bool.and_true, Bool.and_false, Option.isSome_some, Option.isSome_none, Option.isNone_some, Option.isNone_none, Int.cast_ofNat_Int, Nat.reduceAdd, Nat.reduceSub, Nat.reduceLT, Nat.reduceLeDiff, Nat.reduceEqDiff, Int.reduceLT, Int.reduceLE, Int.reduceEq, Int.reduceNeg, Int.reduceToNat, Int.reducePow, Int.reduceAdd, Int.reduceSub, List.length_cons, List.length_nil, Option.bind_some, ↓Dn.sxd, Dn.sxp, Dn.leaveW, Dn.turnW, Dn.outR, Dn.bName, Dn.bTup, Dn.bCons, Dn.bNil, Dn.wipeD, Dn.ite_ap, false_and]
            rw [w_intS hn1 hn2, hn1]
            rfl
        · simp only [h1, h2, h3, ↓reduceIte, decide_eq_true_eq, decide_true, decide_false, Bool.not_true, Bool.not_false, Bool.false_eq_true, true_and, and_true, eq_self, Bool.true_eq_false, reduceCtorEq, Bool.true_and, Bool.false_and, Bool.and_true, Bool.and_false, Option.isSome_some, Option.isSome_none, Option.isNone_some, Option.isNone_none, Int.cast_ofNat_Int, Nat.reduceAdd, Nat.reduceSub, Nat.reduceLT, Nat.reduceLeDiff, Nat.reduceEqDiff, Int.reduceLT, Int.reduceLE, Int.reduceEq, Int.reduceNeg, Int.reduceToNat, Int.reducePow, Int.reduceAdd, Int.reduceSub, List.length_cons, List.length_nil, Option.bind_some, ↓Dn.sxd, Dn.sxp, Dn.leaveW, Dn.turnW, Dn.outR, Dn.bName, Dn.bTup, Dn.bCons, Dn.bNil, Dn.wipeD, Dn.ite_ap, ne_eq, not_false_eq_true, or_true, optI]
  · have hf : figs w = w := if_neg hc
    have fa : Asc w := ha
    have fl : w.length ≤ 16777216 := hl
    have fz : w.length ≤ sizeLine := sz
    have hi := @num_int w m
    unfold numIn
    rw [hf] at hi ⊢
    have o5 : PyData.strOk (headS (w)) = true := (headS_asc fa).ok
    have o6 : PyData.strOk (w) = true := fa.ok
    by_cases h1 : (w).length = 0
    · have h1' : (w) = "" := len0.mp h1
      simp only [φ__law_number_in, d__law_number_in, ↓reduceIte, decide_eq_true_eq, decide_true, decide_false, Bool.not_true, Bool.not_false, Bool.false_eq_true, true_and, and_true, eq_self, Bool.true_eq_false, reduceCtorEq, Bool.true_and, Bool.false_and, Bool.and_true, Bool.and_false, Option.isSome_some, Option.isSome_none, Option.isNone_some, Option.isNone_none, Int.cast_ofNat_Int, Nat.reduceAdd, Nat.reduceSub, Nat.reduceLT, Nat.reduceLeDiff, Nat.reduceEqDiff, Int.reduceLT, Int.reduceLE, Int.reduceEq, Int.reduceNeg, Int.reduceToNat, Int.reducePow, Int.reduceAdd, Int.reduceSub, List.length_cons, List.length_nil, Option.bind_some, ↓Dn.sxd, Dn.sxp, Dn.leaveW, Dn.turnW, Dn.outR, Dn.bName, Dn.bTup, Dn.bCons, Dn.bNil, Dn.wipeD, Dn.ite_ap, sz, o1, o2, o3, o6, o7, hc, fz, h1, eq_true h1', true_or, optI, Nat.zero_le]
    · have h1' : ¬ (w) = "" := fun e => h1 (len0.mpr e)
      by_cases h2 : m < (w).length
      · simp only [φ__law_number_in, d__law_number_in, ↓reduceIte, decide_eq_true_eq, decide_true, decide_false, Bool.not_true, Bool.not_false, Bool.false_eq_true, true_and, and_true, eq_self, Bool.true_eq_false, reduceCtorEq, Bool.true_and, Bool.false_and, Bool.and_true, Bool.and_false, Option.isSome_some, Option.isSome_none, Option.isNone_some, Option.isNone_none, Int.cast_ofNat_Int, Nat.reduceAdd, Nat.reduceSub, Nat.reduceLT, Nat.reduceLeDiff, Nat.reduceEqDiff, Int.reduceLT, Int.reduceLE, Int.reduceEq, Int.reduceNeg, Int.reduceToNat, Int.reducePow, Int.reduceAdd, Int.reduceSub, List.length_cons, List.length_nil, Option.bind_some, ↓Dn.sxd, Dn.sxp, Dn.leaveW, Dn.turnW, Dn.outR, Dn.bName, Dn.bTup, Dn.bCons, Dn.bNil, Dn.wipeD, Dn.ite_ap, sz, o1, o2, o3, o6, o7, hc, fz, h1, h2, eq_false h1', (show ((m : Int)) < ((w).length : Int) by omega), true_or, or_true, optI]
      · simp only [φ__law_number_in, d__law_number_in, ↓reduceIte, decide_eq_true_eq, decide_true, decide_false, Bool.not_true, Bool.not_false, Bool.false_eq_true, true_and, and_true, eq_self, Bool.true_eq_false, reduceCtorEq, Bool.true_and, Bool.false_and, Bool.and_true, Bool.and_false, Option.isSome_some, Option.isSome_none, Option.isNone_some, Option.isNone_none, Int.cast_ofNat_Int, Nat.reduceAdd, Nat.reduceSub, Nat.reduceLT, Nat.reduceLeDiff, Nat.reduceEqDiff, Int.reduceLT, Int.reduceLE, Int.reduceEq, Int.reduceNeg, Int.reduceToNat, Int.reducePow, Int.reduceAdd, Int.reduceSub, List.length_cons, List.length_nil, Option.bind_some, ↓Dn.sxd, Dn.sxp, Dn.leaveW, Dn.turnW, Dn.outR, Dn.bName, Dn.bTup, Dn.bCons, Dn.bNil, Dn.wipeD, Dn.ite_ap, sz, o1, o2, o3, o6, o7, hc, fz, eq_false h1', (show ¬ ((m : Int)) < ((w).length : Int) by omega)]
        rw [bads_wp fun c => ⟨_, rfl, fun Q E => by simp only [↓reduceIte, decide_eq_true_eq, decide_true, decide_false, Bool.not_true, Bool.not_false, Bool.false_eq_true, true_and, and_true, eq_self, Bool.true_eq_false, reduceCtorEq, Bool.true_and, Bool.false_and, Bool.and_true, Bool.and_false, Option.isSome_some, Option.isSome_none, Option.isNone_some, Option.isNone_none, Int.cast_ofNat_Int, Nat.reduceAdd, Nat.reduceSub, Nat.reduceLT, Nat.reduceLeDiff, Nat.reduceEqDiff, Int.reduceLT, Int.reduceLE, Int.reduceEq, Int.reduceNeg, Int.reduceToNat, Int.reducePow, Int.reduceAdd, Int.reduceSub, List.length_cons, List.length_nil, Option.bind_some, ↓Dn.sxd, Dn.sxp, Dn.leaveW, Dn.turnW, Dn.outR, Dn.bName, Dn.bTup, Dn.bCons, Dn.bNil, Dn.wipeD, Dn.ite_ap], fun Q E => by simp only [↓reduceIte, decide_eq_true_eq, decide_true, decide_false, Bool.not_true, Bool.not_false, Bool.false_eq_true, true_and, and_true, eq_self, Bool.true_eq_false, reduceCtorEq, Bool.true_and, Bool.false_and, Bool.and_true, Bool.and_false, Option.isSome_some, Option.isSome_none, Option.isNone_some, Option.isNone_none, Int.cast_ofNat_Int, Nat.reduceAdd, Nat.reduceSub, Nat.reduceLT, Nat.reduceLeDiff, Nat.reduceEqDiff, Int.reduceLT, Int.reduceLE, Int.reduceEq, Int.reduceNeg, Int.reduceToNat, Int.reducePow, Int.reduceAdd, Int.reduceSub, List.length_cons, List.length_nil, Option.bind_some, ↓Dn.sxd, Dn.sxp, Dn.leaveW, Dn.turnW, Dn.outR, Dn.bName, Dn.bTup, Dn.bCons, Dn.bNil, Dn.wipeD, Dn.ite_ap]⟩]
        simp only [↓reduceIte, decide_eq_true_eq, decide_true, decide_false, Bool.not_true, Bool.not_false, Bool.false_eq_true, true_and, and_true, eq_self, Bool.true_eq_false, reduceCtorEq, Bool.true_and, Bool.false_and, Bool.and_true, Bool.and_false, Option.isSome_some, Option.isSome_none, Option.isNone_some, Option.isNone_none, Int.cast_ofNat_Int, Nat.reduceAdd, Nat.reduceSub, Nat.reduceLT, Nat.reduceLeDiff, Nat.reduceEqDiff, Int.reduceLT, Int.reduceLE, Int.reduceEq, Int.reduceNeg, Int.reduceToNat, Int.reducePow, Int.reduceAdd, Int.reduceSub, List.length_cons, List.length_nil, Option.bind_some, ↓Dn.sxd, Dn.sxp, Dn.leaveW, Dn.turnW, Dn.outR, Dn.bName, Dn.bTup, Dn.bCons, Dn.bNil, Dn.wipeD, Dn.ite_ap, bads_few fl]
        rw [w_eqL0 (ones_flat _), ones_empty]
        by_cases h3 : bads (w) = []
        · obtain ⟨n, hn1, hn2, hn3⟩ := hi (by simp only [h1, h2, h3, ne_eq, not_true_eq_false, or_self, not_false_eq_true]) hm
          simp only [h1, h2, h3, ↓reduceIte, decide_eq_true_eq, decide_true, decide_false, Bool.not_true, Bool.not_false, Bool.false_eq_true, true_and, and_true, eq_self, Bool.true_eq_false, reduceCtorEq, Bool.true_and, Bool.false_and, Bool.and_true, Bool.and_false, Option.isSome_some, Option.isSome_none, Option.isNone_some, Option.isNone_none, Int.cast_ofNat_Int, Nat.reduceAdd, Nat.reduceSub, Nat.reduceLT, Nat.reduceLeDiff, Nat.reduceEqDiff, Int.reduceLT, Int.reduceLE, Int.reduceEq, Int.reduceNeg, Int.reduceToNat, Int.reducePow, Int.reduceAdd, Int.reduceSub, List.length_cons, List.length_nil, Option.bind_some, ↓Dn.sxd, Dn.sxp, Dn.leaveW, Dn.turnW, Dn.outR, Dn.bName, Dn.bTup, Dn.bCons, Dn.bNil, Dn.wipeD, Dn.ite_ap, w_head h1 fl, o1, o4, o5, ne_eq, not_true_eq_false, or_self]
          by_cases h4 : headS (w) = "0"
          · by_cases h5 : w = "0"
            · simp only [h4, eq_true h5, ↓reduceIte, decide_eq_true_eq, decide_true, decide_false, Bool.not_true, Bool.not_false, Bool.false_eq_true, true_and, and_true, eq_self, Bool.true_eq_false, reduceCtorEq, Bool.true_and, Bool.false_and, Bool.and_true, Bool.and_false, Option.isSome_some, Option.isSome_none, Option.isNone_some, Option.isNone_none, Int.cast_ofNat_Int, Nat.reduceAdd, Nat.reduceSub, Nat.reduceLT, Nat.reduceLeDiff, Nat.reduceEqDiff, Int.reduceLT, Int.reduceLE, Int.reduceEq, Int.reduceNeg, Int.reduceToNat, Int.reducePow, Int.reduceAdd, Int.reduceSub, List.length_cons, List.length_nil, Option.bind_some, ↓Dn.sxd, Dn.sxp, Dn.leaveW, Dn.turnW, Dn.outR, Dn.bName, Dn.bTup, Dn.bCons, Dn.bNil, Dn.wipeD, Dn.ite_ap, not_true_eq_false, and_false]
              rw [w_intS hn1 hn2, hn1]
              rfl
            · simp only [h4, h5, ↓reduceIte, decide_eq_true_eq, decide_true, decide_false, Bool.not_true, Bool.not_false, Bool.false_eq_true, true_and, and_true, eq_self, Bool.true_eq_false, reduceCtorEq, Bool.true_and, Bool.false_and, Bool.and_true, Bool.and_false, Option.isSome_some, Option.isSome_none, Option.isNone_some, Option.isNone_none, Int.cast_ofNat_Int, Nat.reduceAdd, Nat.reduceSub, Nat.reduceLT, Nat.reduceLeDiff, Nat.reduceEqDiff, Int.reduceLT, Int.reduceLE, Int.reduceEq, Int.reduceNeg, Int.reduceToNat, Int.reducePow, Int.reduceAdd, Int.reduceSub, List.length_cons, List.length_nil, Option.bind_some, ↓Dn.sxd, Dn.sxp, Dn.leaveW, Dn.turnW, Dn.outR, Dn.bName, Dn.bTup, Dn.bCons, Dn.bNil, Dn.wipeD, Dn.ite_ap, not_false_eq_true, optI]
          · simp only [h4, ↓reduceIte, decide_eq_true_eq, decide_true, decide_false, Bool.not_true, Bool.not_false, Bool.false_eq_true, true_and, and_true, eq_self, Bool.true_eq_false, reduceCtorEq, Bool.true_and, Bool.false_and, Bool.and_true, Bool.and_false, Option.isSome_some, Option.isSome_none, Option.isNone_some, Option.isNone_none, Int.cast_ofNat_Int, Nat.reduceAdd, Nat.reduceSub, Nat.reduceLT, Nat.reduceLeDiff, Nat.reduceEqDiff, Int.reduceLT, Int.reduceLE, Int.reduceEq, Int.reduceNeg, Int.reduceToNat, Int.reducePow, Int.reduceAdd, Int.reduceSub, List.length_cons, List.length_nil, Option.bind_some, ↓Dn.sxd, Dn.sxp, Dn.leaveW, Dn.turnW, Dn.outR, Dn.bName, Dn.bTup, Dn.bCons, Dn.bNil, Dn.wipeD, Dn.ite_ap, false_and]
            rw [w_intS hn1 hn2, hn1]
            rfl
        · simp only [h1, h2, h3, ↓reduceIte, decide_eq_true_eq, decide_true, decide_false, Bool.not_true, Bool.not_false, Bool.false_eq_true, true_and, and_true, eq_self, Bool.true_eq_false, reduceCtorEq, Bool.true_and, Bool.false_and, Bool.and_true, Bool.and_false, Option.isSome_some, Option.isSome_none, Option.isNone_some, Option.isNone_none, Int.cast_ofNat_Int, Nat.reduceAdd, Nat.reduceSub, Nat.reduceLT, Nat.reduceLeDiff, Nat.reduceEqDiff, Int.reduceLT, Int.reduceLE, Int.reduceEq, Int.reduceNeg, Int.reduceToNat, Int.reducePow, Int.reduceAdd, Int.reduceSub, List.length_cons, List.length_nil, Option.bind_some, ↓Dn.sxd, Dn.sxp, Dn.leaveW, Dn.turnW, Dn.outR, Dn.bName, Dn.bTup, Dn.bCons, Dn.bNil, Dn.wipeD, Dn.ite_ap, ne_eq, not_false_eq_true, or_true, optI]
/-! ### a word that writes a row -/
def partIn (w o : Str) : Option (Option Int) := if w = o then some none else (numIn w 51).map some
def rowIn (w : Str) : Option Row := match Txt.split w ":" with
  | [a, b] => (match partIn a "?", partIn b "-" with
    | some x, some y => some (x, y)
    | _, _ => none)
  | _ => none
theorem num51 {w : Str} (ha : Asc w) (hl : w.length ≤ 16777216) : wpM (φ_number_in [.str w, .int 51]) Q E cs = Q (optI (numIn w 51)) cs := number_in_wp (m := 51) ha hl (by decide)
theorem lnum51 {w : Str} (ha : Asc w) (hl : w.length ≤ 16777216) : wpM (φ__law_number_in [.str w, .int 51]) Q E cs = Q (optI (numIn w 51)) cs := lnumber_in_wp (m := 51) ha hl (by decide)
theorem is_part_wp {w o : Str} (ha : Asc w) (hl : w.length ≤ 16777216) (ho : Asc o) : wpM (φ_is_part [.str w, .str o]) Q E cs = Q (.bl (partIn w o).isSome) cs := by
  unfold partIn
  simp only [φ_is_part, d_is_part, ↓reduceIte, decide_eq_true_eq, decide_true, decide_false, Bool.not_true, Bool.not_false, Bool.false_eq_true, true_and, and_true, eq_self, Bool.true_eq_false, reduceCtorEq, Bool.true_and, Bool.false_and, Bool.and_true, Bool.and_false, Option.isSome_some, Option.isSome_none, Option.isNone_some, Option.isNone_none, Int.cast_ofNat_Int, Nat.reduceAdd, Nat.reduceSub, Nat.reduceLT, Nat.reduceLeDiff, Nat.reduceEqDiff, Int.reduceLT, Int.reduceLE, Int.reduceEq, Int.reduceNeg, Int.reduceToNat, Int.reducePow, Int.reduceAdd, Int.reduceSub, List.length_cons, List.length_nil, Option.bind_some, ↓Dn.sxd, Dn.sxp, Dn.leaveW, Dn.turnW, Dn.outR, Dn.bName, Dn.bTup, Dn.bCons, Dn.bNil, Dn.wipeD, Dn.ite_ap, num51 ha hl, ha.ok, ho.ok]
  by_cases h : w = o
  · simp only [eq_true h, ↓reduceIte, decide_eq_true_eq, decide_true, decide_false, Bool.not_true, Bool.not_false, Bool.false_eq_true, true_and, and_true, eq_self, Bool.true_eq_false, reduceCtorEq, Bool.true_and, Bool.false_and, Bool.and_true, Bool.and_false, Option.isSome_some, Option.isSome_none, Option.isNone_some, Option.isNone_none, Int.cast_ofNat_Int, Nat.reduceAdd, Nat.reduceSub, Nat.reduceLT, Nat.reduceLeDiff, Nat.reduceEqDiff, Int.reduceLT, Int.reduceLE, Int.reduceEq, Int.reduceNeg, Int.reduceToNat, Int.reducePow, Int.reduceAdd, Int.reduceSub, List.length_cons, List.length_nil, Option.bind_some, ↓Dn.sxd, Dn.sxp, Dn.leaveW, Dn.turnW, Dn.outR, Dn.bName, Dn.bTup, Dn.bCons, Dn.bNil, Dn.wipeD, Dn.ite_ap]
  · simp only [h, ↓reduceIte, decide_eq_true_eq, decide_true, decide_false, Bool.not_true, Bool.not_false, Bool.false_eq_true, true_and, and_true, eq_self, Bool.true_eq_false, reduceCtorEq, Bool.true_and, Bool.false_and, Bool.and_true, Bool.and_false, Option.isSome_some, Option.isSome_none, Option.isNone_some, Option.isNone_none, Int.cast_ofNat_Int, Nat.reduceAdd, Nat.reduceSub, Nat.reduceLT, Nat.reduceLeDiff, Nat.reduceEqDiff, Int.reduceLT, Int.reduceLE, Int.reduceEq, Int.reduceNeg, Int.reduceToNat, Int.reducePow, Int.reduceAdd, Int.reduceSub, List.length_cons, List.length_nil, Option.bind_some, ↓Dn.sxd, Dn.sxp, Dn.leaveW, Dn.turnW, Dn.outR, Dn.bName, Dn.bTup, Dn.bCons, Dn.bNil, Dn.wipeD, Dn.ite_ap, num51 ha hl]
    cases numIn w 51 <;> simp only [↓reduceIte, decide_eq_true_eq, decide_true, decide_false, Bool.not_true, Bool.not_false, Bool.false_eq_true, true_and, and_true, eq_self, Bool.true_eq_false, reduceCtorEq, Bool.true_and, Bool.false_and, Bool.and_true, Bool.and_false, Option.isSome_some, Option.isSome_none, Option.isNone_some, Option.isNone_none, Int.cast_ofNat_Int, Nat.reduceAdd, Nat.reduceSub, Nat.reduceLT, Nat.reduceLeDiff, Nat.reduceEqDiff, Int.reduceLT, Int.reduceLE, Int.reduceEq, Int.reduceNeg, Int.reduceToNat, Int.reducePow, Int.reduceAdd, Int.reduceSub, List.length_cons, List.length_nil, Option.bind_some, ↓Dn.sxd, Dn.sxp, Dn.leaveW, Dn.turnW, Dn.outR, Dn.bName, Dn.bTup, Dn.bCons, Dn.bNil, Dn.wipeD, Dn.ite_ap, Option.map]
theorem part_of_wp {w o : Str} (ha : Asc w) (hl : w.length ≤ 16777216) (ho : Asc o) : wpM (φ_part_of [.str w, .str o]) Q E cs = Q (optI ((partIn w o).getD none)) cs := by
  unfold partIn
  simp only [φ_part_of, d_part_of, ↓reduceIte, decide_eq_true_eq, decide_true, decide_false, Bool.not_true, Bool.not_false, Bool.false_eq_true, true_and, and_true, eq_self, Bool.true_eq_false, reduceCtorEq, Bool.true_and, Bool.false_and, Bool.and_true, Bool.and_false, Option.isSome_some, Option.isSome_none, Option.isNone_some, Option.isNone_none, Int.cast_ofNat_Int, Nat.reduceAdd, Nat.reduceSub, Nat.reduceLT, Nat.reduceLeDiff, Nat.reduceEqDiff, Int.reduceLT, Int.reduceLE, Int.reduceEq, Int.reduceNeg, Int.reduceToNat, Int.reducePow, Int.reduceAdd, Int.reduceSub, List.length_cons, List.length_nil, Option.bind_some, ↓Dn.sxd, Dn.sxp, Dn.leaveW, Dn.turnW, Dn.outR, Dn.bName, Dn.bTup, Dn.bCons, Dn.bNil, Dn.wipeD, Dn.ite_ap, num51 ha hl, ha.ok, ho.ok]
  by_cases h : w = o
  · simp only [eq_true h, ↓reduceIte, decide_eq_true_eq, decide_true, decide_false, Bool.not_true, Bool.not_false, Bool.false_eq_true, true_and, and_true, eq_self, Bool.true_eq_false, reduceCtorEq, Bool.true_and, Bool.false_and, Bool.and_true, Bool.and_false, Option.isSome_some, Option.isSome_none, Option.isNone_some, Option.isNone_none, Int.cast_ofNat_Int, Nat.reduceAdd, Nat.reduceSub, Nat.reduceLT, Nat.reduceLeDiff, Nat.reduceEqDiff, Int.reduceLT, Int.reduceLE, Int.reduceEq, Int.reduceNeg, Int.reduceToNat, Int.reducePow, Int.reduceAdd, Int.reduceSub, List.length_cons, List.length_nil, Option.bind_some, ↓Dn.sxd, Dn.sxp, Dn.leaveW, Dn.turnW, Dn.outR, Dn.bName, Dn.bTup, Dn.bCons, Dn.bNil, Dn.wipeD, Dn.ite_ap, Option.getD, optI]
  · simp only [h, ↓reduceIte, decide_eq_true_eq, decide_true, decide_false, Bool.not_true, Bool.not_false, Bool.false_eq_true, true_and, and_true, eq_self, Bool.true_eq_false, reduceCtorEq, Bool.true_and, Bool.false_and, Bool.and_true, Bool.and_false, Option.isSome_some, Option.isSome_none, Option.isNone_some, Option.isNone_none, Int.cast_ofNat_Int, Nat.reduceAdd, Nat.reduceSub, Nat.reduceLT, Nat.reduceLeDiff, Nat.reduceEqDiff, Int.reduceLT, Int.reduceLE, Int.reduceEq, Int.reduceNeg, Int.reduceToNat, Int.reducePow, Int.reduceAdd, Int.reduceSub, List.length_cons, List.length_nil, Option.bind_some, ↓Dn.sxd, Dn.sxp, Dn.leaveW, Dn.turnW, Dn.outR, Dn.bName, Dn.bTup, Dn.bCons, Dn.bNil, Dn.wipeD, Dn.ite_ap, num51 ha hl]
    cases numIn w 51 <;> simp only [↓reduceIte, decide_eq_true_eq, decide_true, decide_false, Bool.not_true, Bool.not_false, Bool.false_eq_true, true_and, and_true, eq_self, Bool.true_eq_false, reduceCtorEq, Bool.true_and, Bool.false_and, Bool.and_true, Bool.and_false, Option.isSome_some, Option.isSome_none, Option.isNone_some, Option.isNone_none, Int.cast_ofNat_Int, Nat.reduceAdd, Nat.reduceSub, Nat.reduceLT, Nat.reduceLeDiff, Nat.reduceEqDiff, Int.reduceLT, Int.reduceLE, Int.reduceEq, Int.reduceNeg, Int.reduceToNat, Int.reducePow, Int.reduceAdd, Int.reduceSub, List.length_cons, List.length_nil, Option.bind_some, ↓Dn.sxd, Dn.sxp, Dn.leaveW, Dn.turnW, Dn.outR, Dn.bName, Dn.bTup, Dn.bCons, Dn.bNil, Dn.wipeD, Dn.ite_ap, Option.map, Option.getD, optI]
def partD : Option (Option Int) → D
  | none => .lst []
  | some o => .lst [optI o]
theorem lpart_wp {w o : Str} (ha : Asc w) (hl : w.length ≤ 16777216) (ho : Asc o) : wpM (φ__law_part_in [.str w, .str o]) Q E cs = Q (partD (partIn w o)) cs := by
  unfold partIn
  simp only [φ__law_part_in, d__law_part_in, ↓reduceIte, decide_eq_true_eq, decide_true, decide_false, Bool.not_true, Bool.not_false, Bool.false_eq_true, true_and, and_true, eq_self, Bool.true_eq_false, reduceCtorEq, Bool.true_and, Bool.false_and, Bool.and_true, Bool.and_false, Option.isSome_some, Option.isSome_none, Option.isNone_some, Option.isNone_none, Int.cast_ofNat_Int, Nat.reduceAdd, Nat.reduceSub, Nat.reduceLT, Nat.reduceLeDiff, Nat.reduceEqDiff, Int.reduceLT, Int.reduceLE, Int.reduceEq, Int.reduceNeg, Int.reduceToNat, Int.reducePow, Int.reduceAdd, Int.reduceSub, List.length_cons, List.length_nil, Option.bind_some, ↓Dn.sxd, Dn.sxp, Dn.leaveW, Dn.turnW, Dn.outR, Dn.bName, Dn.bTup, Dn.bCons, Dn.bNil, Dn.wipeD, Dn.ite_ap, lnum51 ha hl, ha.ok, ho.ok]
  by_cases h : w = o
  · simp only [eq_true h, ↓reduceIte, decide_eq_true_eq, decide_true, decide_false, Bool.not_true, Bool.not_false, Bool.false_eq_true, true_and, and_true, eq_self, Bool.true_eq_false, reduceCtorEq, Bool.true_and, Bool.false_and, Bool.and_true, Bool.and_false, Option.isSome_some, Option.isSome_none, Option.isNone_some, Option.isNone_none, Int.cast_ofNat_Int, Nat.reduceAdd, Nat.reduceSub, Nat.reduceLT, Nat.reduceLeDiff, Nat.reduceEqDiff, Int.reduceLT, Int.reduceLE, Int.reduceEq, Int.reduceNeg, Int.reduceToNat, Int.reducePow, Int.reduceAdd, Int.reduceSub, List.length_cons, List.length_nil, Option.bind_some, ↓Dn.sxd, Dn.sxp, Dn.leaveW, Dn.turnW, Dn.outR, Dn.bName, Dn.bTup, Dn.bCons, Dn.bNil, Dn.wipeD, Dn.ite_ap, partD, optI]
  · simp only [h, ↓reduceIte, decide_eq_true_eq, decide_true, decide_false, Bool.not_true, Bool.not_false, Bool.false_eq_true, true_and, and_true, eq_self, Bool.true_eq_false, reduceCtorEq, Bool.true_and, Bool.false_and, Bool.and_true, Bool.and_false, Option.isSome_some, Option.isSome_none, Option.isNone_some, Option.isNone_none, Int.cast_ofNat_Int, Nat.reduceAdd, Nat.reduceSub, Nat.reduceLT, Nat.reduceLeDiff, Nat.reduceEqDiff, Int.reduceLT, Int.reduceLE, Int.reduceEq, Int.reduceNeg, Int.reduceToNat, Int.reducePow, Int.reduceAdd, Int.reduceSub, List.length_cons, List.length_nil, Option.bind_some, ↓Dn.sxd, Dn.sxp, Dn.leaveW, Dn.turnW, Dn.outR, Dn.bName, Dn.bTup, Dn.bCons, Dn.bNil, Dn.wipeD, Dn.ite_ap, lnum51 ha hl]
    cases numIn w 51 <;> simp only [↓reduceIte, decide_eq_true_eq, decide_true, decide_false, Bool.not_true, Bool.not_false, Bool.false_eq_true, true_and, and_true, eq_self, Bool.true_eq_false, reduceCtorEq, Bool.true_and, Bool.false_and, Bool.and_true, Bool.and_false, Option.isSome_some, Option.isSome_none, Option.isNone_some, Option.isNone_none, Int.cast_ofNat_Int, Nat.reduceAdd, Nat.reduceSub, Nat.reduceLT, Nat.reduceLeDiff, Nat.reduceEqDiff, Int.reduceLT, Int.reduceLE, Int.reduceEq, Int.reduceNeg, Int.reduceToNat, Int.reducePow, Int.reduceAdd, Int.reduceSub, List.length_cons, List.length_nil, Option.bind_some, ↓Dn.sxd, Dn.sxp, Dn.leaveW, Dn.turnW, Dn.outR, Dn.bName, Dn.bTup, Dn.bCons, Dn.bNil, Dn.wipeD, Dn.ite_ap, Option.map, partD]
theorem colon_one : ((":" : Str).length == 0) = false := by decide +kernel
theorem asc_q : Asc "?" := by decide +kernel
theorem asc_d : Asc "-" := by decide +kernel
def optR : Option Row → D
  | none => .non
  | some r => rowD r
theorem parts_ok {w a y : Str} (ha : Asc w) (hl : w.length ≤ 16777214) (h : a ∈ Txt.split w y) : Asc a ∧ a.length ≤ 16777216 := ⟨ha.split _ a h, by have := part_short h; omega⟩
theorem row_in_wp {w : Str} (ha : Asc w) (hl : w.length ≤ 16777214) : wpM (φ_row_in [.str w]) Q E cs = Q (optR (rowIn w)) cs := by
  have sz : w.length + 2 ≤ sizeLine := by rw [sizeLine_eq]; omega
  simp only [φ_row_in, d_row_in, ↓reduceIte, decide_eq_true_eq, decide_true, decide_false, Bool.not_true, Bool.not_false, Bool.false_eq_true, true_and, and_true, eq_self, Bool.true_eq_false, reduceCtorEq, Bool.true_and, Bool.false_and, Bool.and_true, Bool.and_false, Option.isSome_some, Option.isSome_none, Option.isNone_some, Option.isNone_none, Int.cast_ofNat_Int, Nat.reduceAdd, Nat.reduceSub, Nat.reduceLT, Nat.reduceLeDiff, Nat.reduceEqDiff, Int.reduceLT, Int.reduceLE, Int.reduceEq, Int.reduceNeg, Int.reduceToNat, Int.reducePow, Int.reduceAdd, Int.reduceSub, List.length_cons, List.length_nil, Option.bind_some, ↓Dn.sxd, Dn.sxp, Dn.leaveW, Dn.turnW, Dn.outR, Dn.bName, Dn.bTup, Dn.bCons, Dn.bNil, Dn.wipeD, Dn.ite_ap, sz, colon_one, List.length_map]
  unfold rowIn
  have po := fun a => @parts_ok w a ":" ha hl
  revert po
  match hs : Txt.split w ":" with
  | [] => intro _; simp only [↓reduceIte, decide_eq_true_eq, decide_true, decide_false, Bool.not_true, Bool.not_false, Bool.false_eq_true, true_and, and_true, eq_self, Bool.true_eq_false, reduceCtorEq, Bool.true_and, Bool.false_and, Bool.and_true, Bool.and_false, Option.isSome_some, Option.isSome_none, Option.isNone_some, Option.isNone_none, Int.cast_ofNat_Int, Nat.reduceAdd, Nat.reduceSub, Nat.reduceLT, Nat.reduceLeDiff, Nat.reduceEqDiff, Int.reduceLT, Int.reduceLE, Int.reduceEq, Int.reduceNeg, Int.reduceToNat, Int.reducePow, Int.reduceAdd, Int.reduceSub, List.length_cons, List.length_nil, Option.bind_some, ↓Dn.sxd, Dn.sxp, Dn.leaveW, Dn.turnW, Dn.outR, Dn.bName, Dn.bTup, Dn.bCons, Dn.bNil, Dn.wipeD, Dn.ite_ap, optR]
  | [a] => intro _; simp only [↓reduceIte, decide_eq_true_eq, decide_true, decide_false, Bool.not_true, Bool.not_false, Bool.false_eq_true, true_and, and_true, eq_self, Bool.true_eq_false, reduceCtorEq, Bool.true_and, Bool.false_and, Bool.and_true, Bool.and_false, Option.isSome_some, Option.isSome_none, Option.isNone_some, Option.isNone_none, Int.cast_ofNat_Int, Nat.reduceAdd, Nat.reduceSub, Nat.reduceLT, Nat.reduceLeDiff, Nat.reduceEqDiff, Int.reduceLT, Int.reduceLE, Int.reduceEq, Int.reduceNeg, Int.reduceToNat, Int.reducePow, Int.reduceAdd, Int.reduceSub, List.length_cons, List.length_nil, Option.bind_some, ↓Dn.sxd, Dn.sxp, Dn.leaveW, Dn.turnW, Dn.outR, Dn.bName, Dn.bTup, Dn.bCons, Dn.bNil, Dn.wipeD, Dn.ite_ap, optR]
  | a :: b :: c :: r =>
    intro _
    have h2 : ¬ ((r.length + 1 + 1 + 1 : Nat) : Int) = 2 := by omega
    simp only [↓reduceIte, decide_eq_true_eq, decide_true, decide_false, Bool.not_true, Bool.not_false, Bool.false_eq_true, true_and, and_true, eq_self, Bool.true_eq_false, reduceCtorEq, Bool.true_and, Bool.false_and, Bool.and_true, Bool.and_false, Option.isSome_some, Option.isSome_none, Option.isNone_some, Option.isNone_none, Int.cast_ofNat_Int, Nat.reduceAdd, Nat.reduceSub, Nat.reduceLT, Nat.reduceLeDiff, Nat.reduceEqDiff, Int.reduceLT, Int.reduceLE, Int.reduceEq, Int.reduceNeg, Int.reduceToNat, Int.reducePow, Int.reduceAdd, Int.reduceSub, List.length_cons, List.length_nil, Option.bind_some, ↓Dn.sxd, Dn.sxp, Dn.leaveW, Dn.turnW, Dn.outR, Dn.bName, Dn.bTup, Dn.bCons, Dn.bNil, Dn.wipeD, Dn.ite_ap, h2, optR]
  | [a, b] =>
    intro po
    obtain ⟨a1, a2⟩ := po a (by simp)
    obtain ⟨b1, b2⟩ := po b (by simp)
    simp only [↓reduceIte, decide_eq_true_eq, decide_true, decide_false, Bool.not_true, Bool.not_false, Bool.false_eq_true, true_and, and_true, eq_self, Bool.true_eq_false, reduceCtorEq, Bool.true_and, Bool.false_and, Bool.and_true, Bool.and_false, Option.isSome_some, Option.isSome_none, Option.isNone_some, Option.isNone_none, Int.cast_ofNat_Int, Nat.reduceAdd, Nat.reduceSub, Nat.reduceLT, Nat.reduceLeDiff, Nat.reduceEqDiff, Int.reduceLT, Int.reduceLE, Int.reduceEq, Int.reduceNeg, Int.reduceToNat, Int.reducePow, Int.reduceAdd, Int.reduceSub, List.length_cons, List.length_nil, Option.bind_some, ↓Dn.sxd, Dn.sxp, Dn.leaveW, Dn.turnW, Dn.outR, Dn.bName, Dn.bTup, Dn.bCons, Dn.bNil, Dn.wipeD, Dn.ite_ap, List.map, is_part_wp a1 a2 asc_q, is_part_wp b1 b2 asc_d, part_of_wp a1 a2 asc_q, part_of_wp b1 b2 asc_d]
    cases partIn a "?" with
    | none => simp only [↓reduceIte, decide_eq_true_eq, decide_true, decide_false, Bool.not_true, Bool.not_false, Bool.false_eq_true, true_and, and_true, eq_self, Bool.true_eq_false, reduceCtorEq, Bool.true_and, Bool.false_and, Bool.and_true, Bool.and_false, Option.isSome_some, Option.isSome_none, Option.isNone_some, Option.isNone_none, Int.cast_ofNat_Int, Nat.reduceAdd, Nat.reduceSub, Nat.reduceLT, Nat.reduceLeDiff, Nat.reduceEqDiff, Int.reduceLT, Int.reduceLE, Int.reduceEq, Int.reduceNeg, Int.reduceToNat, Int.reducePow, Int.reduceAdd, Int.reduceSub, List.length_cons, List.length_nil, Option.bind_some, ↓Dn.sxd, Dn.sxp, Dn.leaveW, Dn.turnW, Dn.outR, Dn.bName, Dn.bTup, Dn.bCons, Dn.bNil, Dn.wipeD, Dn.ite_ap, optR]
    | some x =>
      simp only [↓reduceIte, decide_eq_true_eq, decide_true, decide_false, Bool.not_true, Bool.not_false, Bool.false_eq_true, true_and, and_true, eq_self, Bool.true_eq_false, reduceCtorEq, Bool.true_and, Bool.false_and, Bool.and_true, Bool.and_false, Option.isSome_some, Option.isSome_none, Option.isNone_some, Option.isNone_none, Int.cast_ofNat_Int, Nat.reduceAdd, Nat.reduceSub, Nat.reduceLT, Nat.reduceLeDiff, Nat.reduceEqDiff, Int.reduceLT, Int.reduceLE, Int.reduceEq, Int.reduceNeg, Int.reduceToNat, Int.reducePow, Int.reduceAdd, Int.reduceSub, List.length_cons, List.length_nil, Option.bind_some, ↓Dn.sxd, Dn.sxp, Dn.leaveW, Dn.turnW, Dn.outR, Dn.bName, Dn.bTup, Dn.bCons, Dn.bNil, Dn.wipeD, Dn.ite_ap, is_part_wp b1 b2 asc_d]
      cases partIn b "-" with
      | none => simp only [↓reduceIte, decide_eq_true_eq, decide_true, decide_false, Bool.not_true, Bool.not_false, Bool.false_eq_true, true_and, and_true, eq_self, Bool.true_eq_false, reduceCtorEq, Bool.true_and, Bool.false_and, Bool.and_true, Bool.and_false, Option.isSome_some, Option.isSome_none, Option.isNone_some, Option.isNone_none, Int.cast_ofNat_Int, Nat.reduceAdd, Nat.reduceSub, Nat.reduceLT, Nat.reduceLeDiff, Nat.reduceEqDiff, Int.reduceLT, Int.reduceLE, Int.reduceEq, Int.reduceNeg, Int.reduceToNat, Int.reducePow, Int.reduceAdd, Int.reduceSub, List.length_cons, List.length_nil, Option.bind_some, ↓Dn.sxd, Dn.sxp, Dn.leaveW, Dn.turnW, Dn.outR, Dn.bName, Dn.bTup, Dn.bCons, Dn.bNil, Dn.wipeD, Dn.ite_ap, optR]
      | some y => simp only [↓reduceIte, decide_eq_true_eq, decide_true, decide_false, Bool.not_true, Bool.not_false, Bool.false_eq_true, true_and, and_true, eq_self, Bool.true_eq_false, reduceCtorEq, Bool.true_and, Bool.false_and, Bool.and_true, Bool.and_false, Option.isSome_some, Option.isSome_none, Option.isNone_some, Option.isNone_none, Int.cast_ofNat_Int, Nat.reduceAdd, Nat.reduceSub, Nat.reduceLT, Nat.reduceLeDiff, Nat.reduceEqDiff, Int.reduceLT, Int.reduceLE, Int.reduceEq, Int.reduceNeg, Int.reduceToNat, Int.reducePow, Int.reduceAdd, Int.reduceSub, List.length_cons, List.length_nil, Option.bind_some, ↓Dn.sxd, Dn.sxp, Dn.leaveW, Dn.turnW, Dn.outR, Dn.bName, Dn.bTup, Dn.bCons, Dn.bNil, Dn.wipeD, Dn.ite_ap, optR, is_part_wp b1 b2 asc_d, part_of_wp a1 a2 asc_q, part_of_wp b1 b2 asc_d, Option.getD, rowD]
end
end K67

end
set_option maxHeartbeats 4000000
section
namespace K67
open PySem PySem.Spec PyProof.Rows L2 Dn

/-! ### a text that is read -/
def words (v : Str) : List Str := (Txt.split v " ").filter fun w => !decide (w = "")
def rdFrom : Nat → List Str → Nat ⊕ List Row
  | _, [] => .inr []
  | k, w :: ws => match rowIn w with
    | none => .inl k
    | some r => (match rdFrom (k + 1) ws with
      | .inl n => .inl n
      | .inr rs => .inr (r :: rs))
def goOn (A : List Row) : Nat ⊕ List Row → Nat ⊕ List Row
  | .inl n => .inl n
  | .inr rs => .inr (A ++ rs)
def TextE (d : D) : Exn := ⟨"BadText", ["number"], [d]⟩
def SheetE (a w : D) : Exn := ⟨"BadSheet", ["word", "number"], [w, a]⟩
section
variable {Q : D → CS → Prop} {E : XM} {cs : CS}
theorem blank_one : ((" " : Str).length == 0) = false := by decide +kernel
theorem asc_e : Asc "" := by decide +kernel
theorem words_few (v : Str) (hl : v.length ≤ 1000000) : ((words v).map D.str).length ≤ 1000002 := by
  have h1 := split_le v " "
  have h2 : (words v).length ≤ (Txt.split v " ").length := List.length_filter_le _ _
  rw [List.length_map]
  omega
theorem words_of_wp {v : Str} (ha : Asc v) (hl : v.length ≤ 1000000) : wpM (φ_words_of [.str v]) Q E cs = Q (.lst ((words v).map .str)) cs := by
  have sz : v.length + 2 ≤ sizeLine := by rw [sizeLine_eq]; omega
  simp only [φ_words_of, d_words_of, ↓reduceIte, decide_eq_true_eq, decide_true, decide_false, Bool.not_true, Bool.not_false, Bool.false_eq_true, true_and, and_true, eq_self, Bool.true_eq_false, reduceCtorEq, Bool.true_and, Bool.false_and, Bool.and_true, Bool.and_false, Option.isSome_some, Option.isSome_none, Option.isNone_some, Option.isNone_none, Int.cast_ofNat_Int, Nat.reduceAdd, Nat.reduceSub, Nat.reduceLT, Nat.reduceLeDiff, Nat.reduceEqDiff, Int.reduceLT, Int.reduceLE, Int.reduceEq, Int.reduceNeg, Int.reduceToNat, Int.reducePow, Int.reduceAdd, Int.reduceSub, List.length_cons, List.length_nil, Option.bind_some, ↓Dn.sxd, Dn.sxp, Dn.leaveW, Dn.turnW, Dn.outR, Dn.bName, Dn.bTup, Dn.bCons, Dn.bNil, Dn.wipeD, Dn.ite_ap, sz, blank_one]
  rw [compL_pure D.str (fun w => !decide (w = "")) D.str _ fun w hw => ⟨_, rfl, fun Q E => by simp only [↓reduceIte, decide_eq_true_eq, decide_true, decide_false, Bool.not_true, Bool.not_false, Bool.false_eq_true, true_and, and_true, eq_self, Bool.true_eq_false, reduceCtorEq, Bool.true_and, Bool.false_and, Bool.and_true, Bool.and_false, Option.isSome_some, Option.isSome_none, Option.isNone_some, Option.isNone_none, Int.cast_ofNat_Int, Nat.reduceAdd, Nat.reduceSub, Nat.reduceLT, Nat.reduceLeDiff, Nat.reduceEqDiff, Int.reduceLT, Int.reduceLE, Int.reduceEq, Int.reduceNeg, Int.reduceToNat, Int.reducePow, Int.reduceAdd, Int.reduceSub, List.length_cons, List.length_nil, Option.bind_some, ↓Dn.sxd, Dn.sxp, Dn.leaveW, Dn.turnW, Dn.outR, Dn.bName, Dn.bTup, Dn.bCons, Dn.bNil, Dn.wipeD, Dn.ite_ap, (ha.split _ w hw).ok, asc_e.ok], fun _ Q E => by simp only [↓reduceIte, decide_eq_true_eq, decide_true, decide_false, Bool.not_true, Bool.not_false, Bool.false_eq_true, true_and, and_true, eq_self, Bool.true_eq_false, reduceCtorEq, Bool.true_and, Bool.false_and, Bool.and_true, Bool.and_false, Option.isSome_some, Option.isSome_none, Option.isNone_some, Option.isNone_none, Int.cast_ofNat_Int, Nat.reduceAdd, Nat.reduceSub, Nat.reduceLT, Nat.reduceLeDiff, Nat.reduceEqDiff, Int.reduceLT, Int.reduceLE, Int.reduceEq, Int.reduceNeg, Int.reduceToNat, Int.reducePow, Int.reduceAdd, Int.reduceSub, List.length_cons, List.length_nil, Option.bind_some, ↓Dn.sxd, Dn.sxp, Dn.leaveW, Dn.turnW, Dn.outR, Dn.bName, Dn.bTup, Dn.bCons, Dn.bNil, Dn.wipeD, Dn.ite_ap]⟩]
  simp only [↓reduceIte, decide_eq_true_eq, decide_true, decide_false, Bool.not_true, Bool.not_false, Bool.false_eq_true, true_and, and_true, eq_self, Bool.true_eq_false, reduceCtorEq, Bool.true_and, Bool.false_and, Bool.and_true, Bool.and_false, Option.isSome_some, Option.isSome_none, Option.isNone_some, Option.isNone_none, Int.cast_ofNat_Int, Nat.reduceAdd, Nat.reduceSub, Nat.reduceLT, Nat.reduceLeDiff, Nat.reduceEqDiff, Int.reduceLT, Int.reduceLE, Int.reduceEq, Int.reduceNeg, Int.reduceToNat, Int.reducePow, Int.reduceAdd, Int.reduceSub, List.length_cons, List.length_nil, Option.bind_some, ↓Dn.sxd, Dn.sxp, Dn.leaveW, Dn.turnW, Dn.outR, Dn.bName, Dn.bTup, Dn.bCons, Dn.bNil, Dn.wipeD, Dn.ite_ap]
  rw [show few (List.map D.str ((Txt.split v " ").filter fun w => !decide (w = ""))) = true from few_le (Nat.le_trans (words_few v hl) (by decide))]
  simp only [↓reduceIte, decide_eq_true_eq, decide_true, decide_false, Bool.not_true, Bool.not_false, Bool.false_eq_true, true_and, and_true, eq_self, Bool.true_eq_false, reduceCtorEq, Bool.true_and, Bool.false_and, Bool.and_true, Bool.and_false, Option.isSome_some, Option.isSome_none, Option.isNone_some, Option.isNone_none, Int.cast_ofNat_Int, Nat.reduceAdd, Nat.reduceSub, Nat.reduceLT, Nat.reduceLeDiff, Nat.reduceEqDiff, Int.reduceLT, Int.reduceLE, Int.reduceEq, Int.reduceNeg, Int.reduceToNat, Int.reducePow, Int.reduceAdd, Int.reduceSub, List.length_cons, List.length_nil, Option.bind_some, ↓Dn.sxd, Dn.sxp, Dn.leaveW, Dn.turnW, Dn.outR, Dn.bName, Dn.bTup, Dn.bCons, Dn.bNil, Dn.wipeD, Dn.ite_ap]
  rfl
theorem ltext_words_wp {v : Str} (ha : Asc v) (hl : v.length ≤ 1000000) : wpM (φ__law_text_words [.str v]) Q E cs = Q (.lst ((words v).map .str)) cs := by
  have sz : v.length + 2 ≤ sizeLine := by rw [sizeLine_eq]; omega
  simp only [φ__law_text_words, d__law_text_words, ↓reduceIte, decide_eq_true_eq, decide_true, decide_false, Bool.not_true, Bool.not_false, Bool.false_eq_true, true_and, and_true, eq_self, Bool.true_eq_false, reduceCtorEq, Bool.true_and, Bool.false_and, Bool.and_true, Bool.and_false, Option.isSome_some, Option.isSome_none, Option.isNone_some, Option.isNone_none, Int.cast_ofNat_Int, Nat.reduceAdd, Nat.reduceSub, Nat.reduceLT, Nat.reduceLeDiff, Nat.reduceEqDiff, Int.reduceLT, Int.reduceLE, Int.reduceEq, Int.reduceNeg, Int.reduceToNat, Int.reducePow, Int.reduceAdd, Int.reduceSub, List.length_cons, List.length_nil, Option.bind_some, ↓Dn.sxd, Dn.sxp, Dn.leaveW, Dn.turnW, Dn.outR, Dn.bName, Dn.bTup, Dn.bCons, Dn.bNil, Dn.wipeD, Dn.ite_ap, sz, blank_one]
  rw [compL_pure D.str (fun w => !decide (w = "")) D.str _ fun w hw => ⟨_, rfl, fun Q E => by simp only [↓reduceIte, decide_eq_true_eq, decide_true, decide_false, Bool.not_true, Bool.not_false, Bool.false_eq_true, true_and, and_true, eq_self, Bool.true_eq_false, reduceCtorEq, Bool.true_and, Bool.false_and, Bool.and_true, Bool.and_false, Option.isSome_some, Option.isSome_none, Option.isNone_some, Option.isNone_none, Int.cast_ofNat_Int, Nat.reduceAdd, Nat.reduceSub, Nat.reduceLT, Nat.reduceLeDiff, Nat.reduceEqDiff, Int.reduceLT, Int.reduceLE, Int.reduceEq, Int.reduceNeg, Int.reduceToNat, Int.reducePow, Int.reduceAdd, Int.reduceSub, List.length_cons, List.length_nil, Option.bind_some, ↓Dn.sxd, Dn.sxp, Dn.leaveW, Dn.turnW, Dn.outR, Dn.bName, Dn.bTup, Dn.bCons, Dn.bNil, Dn.wipeD, Dn.ite_ap, (ha.split _ w hw).ok, asc_e.ok], fun _ Q E => by simp only [↓reduceIte, decide_eq_true_eq, decide_true, decide_false, Bool.not_true, Bool.not_false, Bool.false_eq_true, true_and, and_true, eq_self, Bool.true_eq_false, reduceCtorEq, Bool.true_and, Bool.false_and, Bool.and_true, Bool.and_false, Option.isSome_some, Option.isSome_none, Option.isNone_some, Option.isNone_none, Int.cast_ofNat_Int, Nat.reduceAdd, Nat.reduceSub, Nat.reduceLT, Nat.reduceLeDiff, Nat.reduceEqDiff, Int.reduceLT, Int.reduceLE, Int.reduceEq, Int.reduceNeg, Int.reduceToNat, Int.reducePow, Int.reduceAdd, Int.reduceSub, List.length_cons, List.length_nil, Option.bind_some, ↓Dn.sxd, Dn.sxp, Dn.leaveW, Dn.turnW, Dn.outR, Dn.bName, Dn.bTup, Dn.bCons, Dn.bNil, Dn.wipeD, Dn.ite_ap]⟩]
  simp only [↓reduceIte, decide_eq_true_eq, decide_true, decide_false, Bool.not_true, Bool.not_false, Bool.false_eq_true, true_and, and_true, eq_self, Bool.true_eq_false, reduceCtorEq, Bool.true_and, Bool.false_and, Bool.and_true, Bool.and_false, Option.isSome_some, Option.isSome_none, Option.isNone_some, Option.isNone_none, Int.cast_ofNat_Int, Nat.reduceAdd, Nat.reduceSub, Nat.reduceLT, Nat.reduceLeDiff, Nat.reduceEqDiff, Int.reduceLT, Int.reduceLE, Int.reduceEq, Int.reduceNeg, Int.reduceToNat, Int.reducePow, Int.reduceAdd, Int.reduceSub, List.length_cons, List.length_nil, Option.bind_some, ↓Dn.sxd, Dn.sxp, Dn.leaveW, Dn.turnW, Dn.outR, Dn.bName, Dn.bTup, Dn.bCons, Dn.bNil, Dn.wipeD, Dn.ite_ap]
  rw [show few (List.map D.str ((Txt.split v " ").filter fun w => !decide (w = ""))) = true from few_le (Nat.le_trans (words_few v hl) (by decide))]
  simp only [↓reduceIte, decide_eq_true_eq, decide_true, decide_false, Bool.not_true, Bool.not_false, Bool.false_eq_true, true_and, and_true, eq_self, Bool.true_eq_false, reduceCtorEq, Bool.true_and, Bool.false_and, Bool.and_true, Bool.and_false, Option.isSome_some, Option.isSome_none, Option.isNone_some, Option.isNone_none, Int.cast_ofNat_Int, Nat.reduceAdd, Nat.reduceSub, Nat.reduceLT, Nat.reduceLeDiff, Nat.reduceEqDiff, Int.reduceLT, Int.reduceLE, Int.reduceEq, Int.reduceNeg, Int.reduceToNat, Int.reducePow, Int.reduceAdd, Int.reduceSub, List.length_cons, List.length_nil, Option.bind_some, ↓Dn.sxd, Dn.sxp, Dn.leaveW, Dn.turnW, Dn.outR, Dn.bName, Dn.bTup, Dn.bCons, Dn.bNil, Dn.wipeD, Dn.ite_ap]
  rfl
/-- what is no text -/
def isText : D → Bool
  | .str _ => true
  | _ => false
def kindOk : D → Bool
  | .rol _ => false
  | .cell _ => false
  | .raw _ => false
  | _ => true
theorem words_of_no {d : D} (h : isText d = false) (k : kindOk d = true) : wpM (φ_words_of [d]) Q E cs = E (TextE .non) cs := by
  cases d with
  | str x => cases h
  | rol _ => cases k
  | cell _ => cases k
  | raw _ => cases k
  | _ => simp only [φ_words_of, d_words_of, ↓reduceIte, decide_eq_true_eq, decide_true, decide_false, Bool.not_true, Bool.not_false, Bool.false_eq_true, true_and, and_true, eq_self, Bool.true_eq_false, reduceCtorEq, Bool.true_and, Bool.false_and, Bool.and_true, Bool.and_false, Option.isSome_some, Option.isSome_none, Option.isNone_some, Option.isNone_none, Int.cast_ofNat_Int, Nat.reduceAdd, Nat.reduceSub, Nat.reduceLT, Nat.reduceLeDiff, Nat.reduceEqDiff, Int.reduceLT, Int.reduceLE, Int.reduceEq, Int.reduceNeg, Int.reduceToNat, Int.reducePow, Int.reduceAdd, Int.reduceSub, List.length_cons, List.length_nil, Option.bind_some, ↓Dn.sxd, Dn.sxp, Dn.leaveW, Dn.turnW, Dn.outR, Dn.bName, Dn.bTup, Dn.bCons, Dn.bNil, Dn.wipeD, Dn.ite_ap]; rfl
theorem read_no {d : D} (h : isText d = false) (k : kindOk d = true) : wpM (φ_read_sheet [d]) Q E cs = E (TextE .non) cs := by
  simp only [φ_read_sheet, d_read_sheet, ↓reduceIte, decide_eq_true_eq, decide_true, decide_false, Bool.not_true, Bool.not_false, Bool.false_eq_true, true_and, and_true, eq_self, Bool.true_eq_false, reduceCtorEq, Bool.true_and, Bool.false_and, Bool.and_true, Bool.and_false, Option.isSome_some, Option.isSome_none, Option.isNone_some, Option.isNone_none, Int.cast_ofNat_Int, Nat.reduceAdd, Nat.reduceSub, Nat.reduceLT, Nat.reduceLeDiff, Nat.reduceEqDiff, Int.reduceLT, Int.reduceLE, Int.reduceEq, Int.reduceNeg, Int.reduceToNat, Int.reducePow, Int.reduceAdd, Int.reduceSub, List.length_cons, List.length_nil, Option.bind_some, ↓Dn.sxd, Dn.sxp, Dn.leaveW, Dn.turnW, Dn.outR, Dn.bName, Dn.bTup, Dn.bCons, Dn.bNil, Dn.wipeD, Dn.ite_ap, words_of_no h k]
def readO (v : Str) (Q : D → CS → Prop) (E : XM) (cs : CS) : Prop := match rdFrom 0 (words v) with
  | .inl n => E (TextE (.int n)) cs
  | .inr rs => (match sheetErr rs with
    | none => Q (sheetD rs) cs
    | some p => E (SheetE (optN p.1) (.str p.2)) cs)
def IRd (v : Str) (xs : List D) (env : DEnv) (cs cs0 : CS) : Prop := cs = cs0 ∧ ∃ (k : Nat) (ws : List Str) (A : List Row) (a b c d : Option Slot), xs = enumL k (ws.map .str) ∧ (∀ w ∈ ws, Asc w ∧ w.length ≤ 1000000) ∧ A.length = k ∧ k + ws.length ≤ 1000002 ∧
  env = [some (.sh (.str v)), some (.own (A.map rowD)), a, b, c, d] ∧ rdFrom 0 (words v) = goOn A (rdFrom k ws)
theorem words_mem {v w : Str} (ha : Asc v) (hl : v.length ≤ 1000000) (h : w ∈ words v) : Asc w ∧ w.length ≤ 1000000 := by
  have h := (List.mem_filter.mp h).1
  exact ⟨ha.split _ w h, Nat.le_trans (part_short h) hl⟩
theorem goOn_nil (r : Nat ⊕ List Row) : r = goOn [] r := by cases r <;> rfl
theorem rdFrom_cons {k : Nat} {w : Str} {ws : List Str} : rdFrom k (w :: ws) = match rowIn w with
    | none => .inl k
    | some r => goOn [r] (rdFrom (k + 1) ws) := by
  rw [rdFrom]
  cases rowIn w with
  | none => rfl
  | some r => simp only; cases rdFrom (k + 1) ws <;> rfl
theorem goOn_goOn (A B : List Row) (r : Nat ⊕ List Row) : goOn A (goOn B r) = goOn (A ++ B) r := by
  cases r
  · rfl
  · show Sum.inr _ = Sum.inr _
    rw [List.append_assoc]
theorem read_wp {v : Str} (ha : Asc v) (hl : v.length ≤ 1000000) (h : readO v Q E cs) : wpM (φ_read_sheet [.str v]) Q E cs := by
  simp only [φ_read_sheet, d_read_sheet, ↓reduceIte, decide_eq_true_eq, decide_true, decide_false, Bool.not_true, Bool.not_false, Bool.false_eq_true, true_and, and_true, eq_self, Bool.true_eq_false, reduceCtorEq, Bool.true_and, Bool.false_and, Bool.and_true, Bool.and_false, Option.isSome_some, Option.isSome_none, Option.isNone_some, Option.isNone_none, Int.cast_ofNat_Int, Nat.reduceAdd, Nat.reduceSub, Nat.reduceLT, Nat.reduceLeDiff, Nat.reduceEqDiff, Int.reduceLT, Int.reduceLE, Int.reduceEq, Int.reduceNeg, Int.reduceToNat, Int.reducePow, Int.reduceAdd, Int.reduceSub, List.length_cons, List.length_nil, Option.bind_some, ↓Dn.sxd, Dn.sxp, Dn.leaveW, Dn.turnW, Dn.outR, Dn.bName, Dn.bTup, Dn.bCons, Dn.bNil, Dn.wipeD, Dn.ite_ap, words_of_wp ha hl]
  refine wpS_loop (fun xs env cs' => IRd v xs env cs' cs) ?_ ?_ _ _ _ ⟨rfl, 0, words v, [], _, _, _, _, rfl, fun w hw => words_mem ha hl hw, rfl, by have := words_few v hl; rw [List.length_map] at this; omega, rfl, goOn_nil _⟩
  · rintro x xs env cs' ⟨rfl, k, ws, A, a, b, c, d, e1, hw, hA, hk, rfl, e3⟩
    cases ws with
    | nil => cases e1
    | cons w ws =>
      rw [List.map_cons, enumL_cons] at e1
      cases e1
      refine ⟨_, rfl, ?_⟩
      obtain ⟨w1, w2⟩ := hw w (by simp)
      simp only [↓reduceIte, decide_eq_true_eq, decide_true, decide_false, Bool.not_true, Bool.not_false, Bool.false_eq_true, true_and, and_true, eq_self, Bool.true_eq_false, reduceCtorEq, Bool.true_and, Bool.false_and, Bool.and_true, Bool.and_false, Option.isSome_some, Option.isSome_none, Option.isNone_some, Option.isNone_none, Int.cast_ofNat_Int, Nat.reduceAdd, Nat.reduceSub, Nat.reduceLT, Nat.reduceLeDiff, Nat.reduceEqDiff, Int.reduceLT, Int.reduceLE, Int.reduceEq, Int.reduceNeg, Int.reduceToNat, Int.reducePow, Int.reduceAdd, Int.reduceSub, List.length_cons, List.length_nil, Option.bind_some, ↓Dn.sxd, Dn.sxp, Dn.leaveW, Dn.turnW, Dn.outR, Dn.bName, Dn.bTup, Dn.bCons, Dn.bNil, Dn.wipeD, Dn.ite_ap, row_in_wp w1 (by omega : w.length ≤ 16777214)]
      rw [rdFrom_cons] at e3
      cases hr : rowIn w with
      | none =>
        rw [hr] at e3
        simp only [↓reduceIte, decide_eq_true_eq, decide_true, decide_false, Bool.not_true, Bool.not_false, Bool.false_eq_true, true_and, and_true, eq_self, Bool.true_eq_false, reduceCtorEq, Bool.true_and, Bool.false_and, Bool.and_true, Bool.and_false, Option.isSome_some, Option.isSome_none, Option.isNone_some, Option.isNone_none, Int.cast_ofNat_Int, Nat.reduceAdd, Nat.reduceSub, Nat.reduceLT, Nat.reduceLeDiff, Nat.reduceEqDiff, Int.reduceLT, Int.reduceLE, Int.reduceEq, Int.reduceNeg, Int.reduceToNat, Int.reducePow, Int.reduceAdd, Int.reduceSub, List.length_cons, List.length_nil, Option.bind_some, ↓Dn.sxd, Dn.sxp, Dn.leaveW, Dn.turnW, Dn.outR, Dn.bName, Dn.bTup, Dn.bCons, Dn.bNil, Dn.wipeD, Dn.ite_ap, optR]
        unfold readO at h
        rw [e3] at h
        exact h
      | some r =>
        rw [hr] at e3
        simp only [↓reduceIte, decide_eq_true_eq, decide_true, decide_false, Bool.not_true, Bool.not_false, Bool.false_eq_true, true_and, and_true, eq_self, Bool.true_eq_false, reduceCtorEq, Bool.true_and, Bool.false_and, Bool.and_true, Bool.and_false, Option.isSome_some, Option.isSome_none, Option.isNone_some, Option.isNone_none, Int.cast_ofNat_Int, Nat.reduceAdd, Nat.reduceSub, Nat.reduceLT, Nat.reduceLeDiff, Nat.reduceEqDiff, Int.reduceLT, Int.reduceLE, Int.reduceEq, Int.reduceNeg, Int.reduceToNat, Int.reducePow, Int.reduceAdd, Int.reduceSub, List.length_cons, List.length_nil, Option.bind_some, ↓Dn.sxd, Dn.sxp, Dn.leaveW, Dn.turnW, Dn.outR, Dn.bName, Dn.bTup, Dn.bCons, Dn.bNil, Dn.wipeD, Dn.ite_ap, optR, rowD, List.length_map]
        have hA2 : A.length < sizeLine := by rw [sizeLine_eq, hA]; rw [List.length_cons] at hk; omega
        simp only [hA2, ↓reduceIte, decide_eq_true_eq, decide_true, decide_false, Bool.not_true, Bool.not_false, Bool.false_eq_true, true_and, and_true, eq_self, Bool.true_eq_false, reduceCtorEq, Bool.true_and, Bool.false_and, Bool.and_true, Bool.and_false, Option.isSome_some, Option.isSome_none, Option.isNone_some, Option.isNone_none, Int.cast_ofNat_Int, Nat.reduceAdd, Nat.reduceSub, Nat.reduceLT, Nat.reduceLeDiff, Nat.reduceEqDiff, Int.reduceLT, Int.reduceLE, Int.reduceEq, Int.reduceNeg, Int.reduceToNat, Int.reducePow, Int.reduceAdd, Int.reduceSub, List.length_cons, List.length_nil, Option.bind_some, ↓Dn.sxd, Dn.sxp, Dn.leaveW, Dn.turnW, Dn.outR, Dn.bName, Dn.bTup, Dn.bCons, Dn.bNil, Dn.wipeD, Dn.ite_ap]
        rw [show A.map rowD ++ [D.tup [optI r.1, optI r.2]] = (A ++ [r]).map rowD by rw [List.map_append]; rfl]
        exact ⟨rfl, k + 1, ws, A ++ [r], _, _, _, _, rfl, fun w hw' => hw w (List.mem_cons_of_mem _ hw'), by rw [List.length_append, hA]; rfl, by rw [List.length_cons] at hk; omega, rfl, e3.trans (goOn_goOn _ _ _)⟩
  · rintro env cs' ⟨rfl, k, ws, A, a, b, c, d, e1, hw, hA, hk, rfl, e3⟩
    cases ws with
    | cons w ws => cases e1
    | nil =>
      have e3 : rdFrom 0 (words v) = .inr A := by rw [e3]; show Sum.inr (A ++ []) = _; rw [List.append_nil]
      have hf : few (A.map rowD) = true := few_le (by rw [List.length_map, hA]; omega)
      have hs : ∀ (Q : D → CS → Prop) (E : XM) cs, wpM (φ_sheet_error [.tup (A.map rowD)]) Q E cs = Q (errD (sheetErr A)) cs := fun Q E cs => sheet_error_wp
      simp only [↓reduceIte, decide_eq_true_eq, decide_true, decide_false, Bool.not_true, Bool.not_false, Bool.false_eq_true, true_and, and_true, eq_self, Bool.true_eq_false, reduceCtorEq, Bool.true_and, Bool.false_and, Bool.and_true, Bool.and_false, Option.isSome_some, Option.isSome_none, Option.isNone_some, Option.isNone_none, Int.cast_ofNat_Int, Nat.reduceAdd, Nat.reduceSub, Nat.reduceLT, Nat.reduceLeDiff, Nat.reduceEqDiff, Int.reduceLT, Int.reduceLE, Int.reduceEq, Int.reduceNeg, Int.reduceToNat, Int.reducePow, Int.reduceAdd, Int.reduceSub, List.length_cons, List.length_nil, Option.bind_some, ↓Dn.sxd, Dn.sxp, Dn.leaveW, Dn.turnW, Dn.outR, Dn.bName, Dn.bTup, Dn.bCons, Dn.bNil, Dn.wipeD, Dn.ite_ap, hf, hs]
      unfold readO at h
      rw [e3] at h
      simp only at h
      cases hq : sheetErr A with
      | none =>
        rw [hq] at h
        simp only [↓reduceIte, decide_eq_true_eq, decide_true, decide_false, Bool.not_true, Bool.not_false, Bool.false_eq_true, true_and, and_true, eq_self, Bool.true_eq_false, reduceCtorEq, Bool.true_and, Bool.false_and, Bool.and_true, Bool.and_false, Option.isSome_some, Option.isSome_none, Option.isNone_some, Option.isNone_none, Int.cast_ofNat_Int, Nat.reduceAdd, Nat.reduceSub, Nat.reduceLT, Nat.reduceLeDiff, Nat.reduceEqDiff, Int.reduceLT, Int.reduceLE, Int.reduceEq, Int.reduceNeg, Int.reduceToNat, Int.reducePow, Int.reduceAdd, Int.reduceSub, List.length_cons, List.length_nil, Option.bind_some, ↓Dn.sxd, Dn.sxp, Dn.leaveW, Dn.turnW, Dn.outR, Dn.bName, Dn.bTup, Dn.bCons, Dn.bNil, Dn.wipeD, Dn.ite_ap, errD, hf]
        exact h
      | some p =>
        rw [hq] at h
        simp only [↓reduceIte, decide_eq_true_eq, decide_true, decide_false, Bool.not_true, Bool.not_false, Bool.false_eq_true, true_and, and_true, eq_self, Bool.true_eq_false, reduceCtorEq, Bool.true_and, Bool.false_and, Bool.and_true, Bool.and_false, Option.isSome_some, Option.isSome_none, Option.isNone_some, Option.isNone_none, Int.cast_ofNat_Int, Nat.reduceAdd, Nat.reduceSub, Nat.reduceLT, Nat.reduceLeDiff, Nat.reduceEqDiff, Int.reduceLT, Int.reduceLE, Int.reduceEq, Int.reduceNeg, Int.reduceToNat, Int.reducePow, Int.reduceAdd, Int.reduceSub, List.length_cons, List.length_nil, Option.bind_some, ↓Dn.sxd, Dn.sxp, Dn.leaveW, Dn.turnW, Dn.outR, Dn.bName, Dn.bTup, Dn.bCons, Dn.bNil, Dn.wipeD, Dn.ite_ap, errD]
        exact h
end
end K67

end
set_option maxHeartbeats 4000000
section
namespace K67
open PySem PySem.Spec PyProof.Rows L2 Dn

/-! ### the law's own reading -/
section
variable {Q : D → CS → Prop} {E : XM} {cs : CS}
theorem w_eqPart {o : Option (Option Int)} : wpM (eqD false (partD o) (.lst [])) Q E cs = Q (.bl o.isNone) cs := by
  cases o with
  | none => exact w_eqL0 rfl
  | some x => cases x <;> exact w_eqL0 rfl
theorem w_eqPart0 : wpM (eqD false (.lst []) (.lst [])) Q E cs = Q (.bl true) cs := w_eqL0 rfl
theorem w_part0 {o : Option Int} : wpM (ixD (partD (some o)) (.int 0)) Q E cs = Q (optI o) cs := rfl
def resD (v : Str) : D := match rdFrom 0 (words v) with
  | .inl n => .lst [.str "text", .int n]
  | .inr rs => (match sheetErr rs with
    | none => .lst [.str "ok", sheetD rs]
    | some p => .lst [.str "sheet", optN p.1, .str p.2])
def ILRd (v : Str) (xs : List D) (env : DEnv) (cs cs0 : CS) : Prop := cs = cs0 ∧ ∃ (k : Nat) (ws : List Str) (A : List Row) (a b c d e f : Option Slot), xs = enumL k (ws.map .str) ∧ (∀ w ∈ ws, Asc w ∧ w.length ≤ 1000000) ∧ A.length = k ∧ k + ws.length ≤ 1000002 ∧
  env = [some (.sh (.str v)), some (.own (A.map rowD)), a, b, c, d, e, f] ∧ rdFrom 0 (words v) = goOn A (rdFrom k ws)
theorem split_snoc (w y : Str) : ∃ (ps : List Str) (z : Str), Txt.split w y = ps ++ [z] := by
  have h := split_pos w y
  have hne : Txt.split w y ≠ [] := fun e => by rw [e] at h; simp at h
  exact ⟨_, _, (List.dropLast_concat_getLast hne).symm⟩
theorem w_last {ps : List Str} {z : Str} : wpM (ixD (.lst ((ps ++ [z]).map .str)) (.int (-1))) Q E cs = Q (.str z) cs := w_ixL (by rw [List.map_append]; exact atI_last _ _)
theorem lread_wp {v : Str} (ha : Asc v) (hl : v.length ≤ 1000000) : wpM (φ__law_read_sheet [.str v]) Q E cs = Q (resD v) cs := by
  refine wpM_of ?_
  simp only [φ__law_read_sheet, d__law_read_sheet, ↓reduceIte, decide_eq_true_eq, decide_true, decide_false, Bool.not_true, Bool.not_false, Bool.false_eq_true, true_and, and_true, eq_self, Bool.true_eq_false, reduceCtorEq, Bool.true_and, Bool.false_and, Bool.and_true, Bool.and_false, Option.isSome_some, Option.isSome_none, Option.isNone_some, Option.isNone_none, Int.cast_ofNat_Int, Nat.reduceAdd, Nat.reduceSub, Nat.reduceLT, Nat.reduceLeDiff, Nat.reduceEqDiff, Int.reduceLT, Int.reduceLE, Int.reduceEq, Int.reduceNeg, Int.reduceToNat, Int.reducePow, Int.reduceAdd, Int.reduceSub, List.length_cons, List.length_nil, Option.bind_some, ↓Dn.sxd, Dn.sxp, Dn.leaveW, Dn.turnW, Dn.outR, Dn.bName, Dn.bTup, Dn.bCons, Dn.bNil, Dn.wipeD, Dn.ite_ap, ltext_words_wp ha hl]
  refine wpS_loop (fun xs env cs' => ILRd v xs env cs' cs) ?_ ?_ _ _ _ ⟨rfl, 0, words v, [], _, _, _, _, _, _, rfl, fun w hw => words_mem ha hl hw, rfl, by have := words_few v hl; rw [List.length_map] at this; omega, rfl, goOn_nil _⟩
  · rintro x xs env cs' ⟨rfl, k, ws, A, a, b, c, d, e, f, e1, hw, hA, hk, rfl, e3⟩
    cases ws with
    | nil => cases e1
    | cons w ws =>
      rw [List.map_cons, enumL_cons] at e1
      cases e1
      refine ⟨_, rfl, ?_⟩
      obtain ⟨w1, w2⟩ := hw w (by simp)
      have sz : w.length + 2 ≤ sizeLine := by rw [sizeLine_eq]; omega
      have hl' : w.length ≤ 16777214 := by omega
      rw [rdFrom_cons] at e3
      have hA2 : A.length < sizeLine := by rw [sizeLine_eq, hA]; rw [List.length_cons] at hk; omega
      have no : ∀ (h : rowIn w = none), resD v = .lst [.str "text", .int k] := fun h => by
        rw [h] at e3
        unfold resD
        rw [e3]
        rfl
      have po := fun a => @parts_ok w a ":" w1 hl'
      obtain ⟨ps, z, hz⟩ := split_snoc w ":"
      obtain ⟨z1, z2⟩ := po z (by rw [hz]; simp)
      simp only [↓reduceIte, decide_eq_true_eq, decide_true, decide_false, Bool.not_true, Bool.not_false, Bool.false_eq_true, true_and, and_true, eq_self, Bool.true_eq_false, reduceCtorEq, Bool.true_and, Bool.false_and, Bool.and_true, Bool.and_false, Option.isSome_some, Option.isSome_none, Option.isNone_some, Option.isNone_none, Int.cast_ofNat_Int, Nat.reduceAdd, Nat.reduceSub, Nat.reduceLT, Nat.reduceLeDiff, Nat.reduceEqDiff, Int.reduceLT, Int.reduceLE, Int.reduceEq, Int.reduceNeg, Int.reduceToNat, Int.reducePow, Int.reduceAdd, Int.reduceSub, List.length_cons, List.length_nil, Option.bind_some, ↓Dn.sxd, Dn.sxp, Dn.leaveW, Dn.turnW, Dn.outR, Dn.bName, Dn.bTup, Dn.bCons, Dn.bNil, Dn.wipeD, Dn.ite_ap, sz, colon_one, List.length_map]
      by_cases h2 : (Txt.split w ":").length = 2
      · obtain ⟨p, hp⟩ : ∃ p, ps = [p] := by
          rw [hz, List.length_append] at h2
          match ps, h2 with
          | [p], _ => exact ⟨p, rfl⟩
        subst hp
        obtain ⟨p1, p2⟩ := po p (by rw [hz]; simp)
        have hr : rowIn w = match partIn p "?", partIn z "-" with | some x, some y => some (x, y) | _, _ => none := by
          unfold rowIn
          rw [hz]
          rfl
        have hm : (Txt.split w ":").map D.str = [.str p, .str z] := by rw [hz]; rfl
        have hi : ∀ (Q : D → CS → Prop) (E : XM) cs, wpM (ixD (.lst [.str p, .str z]) (.int (-1))) Q E cs = Q (.str z) cs := fun Q E cs => w_ixL rfl
        simp only [↓reduceIte, decide_eq_true_eq, decide_true, decide_false, Bool.not_true, Bool.not_false, Bool.false_eq_true, true_and, and_true, eq_self, Bool.true_eq_false, reduceCtorEq, Bool.true_and, Bool.false_and, Bool.and_true, Bool.and_false, Option.isSome_some, Option.isSome_none, Option.isNone_some, Option.isNone_none, Int.cast_ofNat_Int, Nat.reduceAdd, Nat.reduceSub, Nat.reduceLT, Nat.reduceLeDiff, Nat.reduceEqDiff, Int.reduceLT, Int.reduceLE, Int.reduceEq, Int.reduceNeg, Int.reduceToNat, Int.reducePow, Int.reduceAdd, Int.reduceSub, List.length_cons, List.length_nil, Option.bind_some, ↓Dn.sxd, Dn.sxp, Dn.leaveW, Dn.turnW, Dn.outR, Dn.bName, Dn.bTup, Dn.bCons, Dn.bNil, Dn.wipeD, Dn.ite_ap, h2, hm, hi, lpart_wp p1 p2 asc_q, lpart_wp z1 z2 asc_d, w_eqPart]
        cases q1 : partIn p "?" with
        | none =>
          simp only [↓reduceIte, decide_eq_true_eq, decide_true, decide_false, Bool.not_true, Bool.not_false, Bool.false_eq_true, true_and, and_true, eq_self, Bool.true_eq_false, reduceCtorEq, Bool.true_and, Bool.false_and, Bool.and_true, Bool.and_false, Option.isSome_some, Option.isSome_none, Option.isNone_some, Option.isNone_none, Int.cast_ofNat_Int, Nat.reduceAdd, Nat.reduceSub, Nat.reduceLT, Nat.reduceLeDiff, Nat.reduceEqDiff, Int.reduceLT, Int.reduceLE, Int.reduceEq, Int.reduceNeg, Int.reduceToNat, Int.reducePow, Int.reduceAdd, Int.reduceSub, List.length_cons, List.length_nil, Option.bind_some, ↓Dn.sxd, Dn.sxp, Dn.leaveW, Dn.turnW, Dn.outR, Dn.bName, Dn.bTup, Dn.bCons, Dn.bNil, Dn.wipeD, Dn.ite_ap]
          rw [no (by rw [hr, q1])]
        | some x =>
          simp only [↓reduceIte, decide_eq_true_eq, decide_true, decide_false, Bool.not_true, Bool.not_false, Bool.false_eq_true, true_and, and_true, eq_self, Bool.true_eq_false, reduceCtorEq, Bool.true_and, Bool.false_and, Bool.and_true, Bool.and_false, Option.isSome_some, Option.isSome_none, Option.isNone_some, Option.isNone_none, Int.cast_ofNat_Int, Nat.reduceAdd, Nat.reduceSub, Nat.reduceLT, Nat.reduceLeDiff, Nat.reduceEqDiff, Int.reduceLT, Int.reduceLE, Int.reduceEq, Int.reduceNeg, Int.reduceToNat, Int.reducePow, Int.reduceAdd, Int.reduceSub, List.length_cons, List.length_nil, Option.bind_some, ↓Dn.sxd, Dn.sxp, Dn.leaveW, Dn.turnW, Dn.outR, Dn.bName, Dn.bTup, Dn.bCons, Dn.bNil, Dn.wipeD, Dn.ite_ap, w_eqPart]
          cases q2 : partIn z "-" with
          | none =>
            simp only [↓reduceIte, decide_eq_true_eq, decide_true, decide_false, Bool.not_true, Bool.not_false, Bool.false_eq_true, true_and, and_true, eq_self, Bool.true_eq_false, reduceCtorEq, Bool.true_and, Bool.false_and, Bool.and_true, Bool.and_false, Option.isSome_some, Option.isSome_none, Option.isNone_some, Option.isNone_none, Int.cast_ofNat_Int, Nat.reduceAdd, Nat.reduceSub, Nat.reduceLT, Nat.reduceLeDiff, Nat.reduceEqDiff, Int.reduceLT, Int.reduceLE, Int.reduceEq, Int.reduceNeg, Int.reduceToNat, Int.reducePow, Int.reduceAdd, Int.reduceSub, List.length_cons, List.length_nil, Option.bind_some, ↓Dn.sxd, Dn.sxp, Dn.leaveW, Dn.turnW, Dn.outR, Dn.bName, Dn.bTup, Dn.bCons, Dn.bNil, Dn.wipeD, Dn.ite_ap]
            rw [no (by rw [hr, q1, q2])]
          | some y =>
            rw [hr, q1, q2] at e3
            simp only [↓reduceIte, decide_eq_true_eq, decide_true, decide_false, Bool.not_true, Bool.not_false, Bool.false_eq_true, true_and, and_true, eq_self, Bool.true_eq_false, reduceCtorEq, Bool.true_and, Bool.false_and, Bool.and_true, Bool.and_false, Option.isSome_some, Option.isSome_none, Option.isNone_some, Option.isNone_none, Int.cast_ofNat_Int, Nat.reduceAdd, Nat.reduceSub, Nat.reduceLT, Nat.reduceLeDiff, Nat.reduceEqDiff, Int.reduceLT, Int.reduceLE, Int.reduceEq, Int.reduceNeg, Int.reduceToNat, Int.reducePow, Int.reduceAdd, Int.reduceSub, List.length_cons, List.length_nil, Option.bind_some, ↓Dn.sxd, Dn.sxp, Dn.leaveW, Dn.turnW, Dn.outR, Dn.bName, Dn.bTup, Dn.bCons, Dn.bNil, Dn.wipeD, Dn.ite_ap, w_part0, hA2, List.length_map]
            rw [show A.map rowD ++ [D.tup [optI x, optI y]] = (A ++ [(x, y)]).map rowD by rw [List.map_append]; rfl]
            exact ⟨rfl, k + 1, ws, A ++ [(x, y)], _, _, _, _, _, _, rfl, fun w hw' => hw w (List.mem_cons_of_mem _ hw'), by rw [List.length_append, hA]; rfl, by rw [List.length_cons] at hk; omega, rfl, e3.trans (goOn_goOn _ _ _)⟩
      · have hr : rowIn w = none := by
          unfold rowIn
          split
          · rename_i a b hs
            rw [hs] at h2
            exact absurd rfl h2
          · rfl
        rw [hz] at h2
        have h2' : ¬ (((ps ++ [z]).length : Nat) : Int) = 2 := by omega
        simp only [↓reduceIte, decide_eq_true_eq, decide_true, decide_false, Bool.not_true, Bool.not_false, Bool.false_eq_true, true_and, and_true, eq_self, Bool.true_eq_false, reduceCtorEq, Bool.true_and, Bool.false_and, Bool.and_true, Bool.and_false, Option.isSome_some, Option.isSome_none, Option.isNone_some, Option.isNone_none, Int.cast_ofNat_Int, Nat.reduceAdd, Nat.reduceSub, Nat.reduceLT, Nat.reduceLeDiff, Nat.reduceEqDiff, Int.reduceLT, Int.reduceLE, Int.reduceEq, Int.reduceNeg, Int.reduceToNat, Int.reducePow, Int.reduceAdd, Int.reduceSub, List.length_cons, List.length_nil, Option.bind_some, ↓Dn.sxd, Dn.sxp, Dn.leaveW, Dn.turnW, Dn.outR, Dn.bName, Dn.bTup, Dn.bCons, Dn.bNil, Dn.wipeD, Dn.ite_ap, hz, h2', w_last, lpart_wp z1 z2 asc_d, w_eqPart0]
        rw [no hr]
  · rintro env cs' ⟨rfl, k, ws, A, a, b, c, d, e, f, e1, hw, hA, hk, rfl, e3⟩
    cases ws with
    | cons w ws => cases e1
    | nil =>
      have e3 : rdFrom 0 (words v) = .inr A := by rw [e3]; show Sum.inr (A ++ []) = _; rw [List.append_nil]
      have hf : few (A.map rowD) = true := few_le (by rw [List.length_map, hA]; omega)
      have hs : ∀ (Q : D → CS → Prop) (E : XM) cs, wpM (φ__law_sheet_error [.tup (A.map rowD)]) Q E cs = Q (errD (sheetErr A)) cs := fun Q E cs => lsheet_error_wp
      simp only [↓reduceIte, decide_eq_true_eq, decide_true, decide_false, Bool.not_true, Bool.not_false, Bool.false_eq_true, true_and, and_true, eq_self, Bool.true_eq_false, reduceCtorEq, Bool.true_and, Bool.false_and, Bool.and_true, Bool.and_false, Option.isSome_some, Option.isSome_none, Option.isNone_some, Option.isNone_none, Int.cast_ofNat_Int, Nat.reduceAdd, Nat.reduceSub, Nat.reduceLT, Nat.reduceLeDiff, Nat.reduceEqDiff, Int.reduceLT, Int.reduceLE, Int.reduceEq, Int.reduceNeg, Int.reduceToNat, Int.reducePow, Int.reduceAdd, Int.reduceSub, List.length_cons, List.length_nil, Option.bind_some, ↓Dn.sxd, Dn.sxp, Dn.leaveW, Dn.turnW, Dn.outR, Dn.bName, Dn.bTup, Dn.bCons, Dn.bNil, Dn.wipeD, Dn.ite_ap, hf, hs]
      unfold resD
      rw [e3]
      simp only
      cases hq : sheetErr A with
      | none =>
        simp only [↓reduceIte, decide_eq_true_eq, decide_true, decide_false, Bool.not_true, Bool.not_false, Bool.false_eq_true, true_and, and_true, eq_self, Bool.true_eq_false, reduceCtorEq, Bool.true_and, Bool.false_and, Bool.and_true, Bool.and_false, Option.isSome_some, Option.isSome_none, Option.isNone_some, Option.isNone_none, Int.cast_ofNat_Int, Nat.reduceAdd, Nat.reduceSub, Nat.reduceLT, Nat.reduceLeDiff, Nat.reduceEqDiff, Int.reduceLT, Int.reduceLE, Int.reduceEq, Int.reduceNeg, Int.reduceToNat, Int.reducePow, Int.reduceAdd, Int.reduceSub, List.length_cons, List.length_nil, Option.bind_some, ↓Dn.sxd, Dn.sxp, Dn.leaveW, Dn.turnW, Dn.outR, Dn.bName, Dn.bTup, Dn.bCons, Dn.bNil, Dn.wipeD, Dn.ite_ap, errD, hf]
        rfl
      | some p => simp only [↓reduceIte, decide_eq_true_eq, decide_true, decide_false, Bool.not_true, Bool.not_false, Bool.false_eq_true, true_and, and_true, eq_self, Bool.true_eq_false, reduceCtorEq, Bool.true_and, Bool.false_and, Bool.and_true, Bool.and_false, Option.isSome_some, Option.isSome_none, Option.isNone_some, Option.isNone_none, Int.cast_ofNat_Int, Nat.reduceAdd, Nat.reduceSub, Nat.reduceLT, Nat.reduceLeDiff, Nat.reduceEqDiff, Int.reduceLT, Int.reduceLE, Int.reduceEq, Int.reduceNeg, Int.reduceToNat, Int.reducePow, Int.reduceAdd, Int.reduceSub, List.length_cons, List.length_nil, Option.bind_some, ↓Dn.sxd, Dn.sxp, Dn.leaveW, Dn.turnW, Dn.outR, Dn.bName, Dn.bTup, Dn.bCons, Dn.bNil, Dn.wipeD, Dn.ite_ap, errD]
/-! ### what read_sheet ends with -/
theorem wpM_ofE {α : Type} {m : M α} {e0 : Exn} {Q : α → CS → Prop} {E : XM} {cs : CS} (h : wpM m (fun _ _ => False) (fun e c => e = e0 ∧ c = cs) cs) : wpM m Q E cs = E e0 cs := by
  unfold wpM at h ⊢
  cases q : m cs with
  | ok a c => rw [q] at h; exact h.elim
  | bad => rw [q] at h; exact h.elim
  | err e c => rw [q] at h; obtain ⟨rfl, rfl⟩ := h; rfl
theorem read_eq {v : Str} (ha : Asc v) (hl : v.length ≤ 1000000) : wpM (φ_read_sheet [.str v]) Q E cs = readO v Q E cs := by
  have key : ∀ (Q : D → CS → Prop) (E : XM), readO v Q E cs → wpM (φ_read_sheet [.str v]) Q E cs := fun Q E => read_wp ha hl
  unfold readO at key ⊢
  cases q : rdFrom 0 (words v) with
  | inl n => rw [q] at key; exact wpM_ofE (key _ _ ⟨rfl, rfl⟩)
  | inr rs =>
    rw [q] at key
    simp only at key ⊢
    cases q2 : sheetErr rs with
    | none => rw [q2] at key; exact wpM_of (key _ _ ⟨rfl, rfl⟩)
    | some p => rw [q2] at key; exact wpM_ofE (key _ _ ⟨rfl, rfl⟩)
theorem lkT : List.lookup ("BadText" : Str) [("BadSheet", true), ("BadText", true)] = some true := by decide +kernel
theorem lkS : List.lookup ("BadSheet" : Str) [("BadSheet", true), ("BadText", true)] = some true := by decide +kernel
theorem lkT1 : List.lookup ("BadText" : Str) [("BadSheet", false), ("BadText", true)] = some true := by decide +kernel
theorem lkS1 : List.lookup ("BadSheet" : Str) [("BadSheet", false), ("BadText", true)] = some false := by decide +kernel
theorem lkS2 : List.lookup ("BadSheet" : Str) [("BadSheet", true), ("BadText", false)] = some true := by decide +kernel
theorem w_isEx {d : Option Slot} {c : Str} {ns : List Str} {ds : List D} {tab : List (Str × Bool)} {b : Bool} (h : tab.lookup c = some b) : wpM (isExD 1 tab [d, some (.exc ⟨c, ns, ds⟩)]) Q E cs = Q (.bl b) cs := by
  have : isExD 1 tab [d, some (.exc ⟨c, ns, ds⟩)] = pure (.bl b) := by
    show (match tab.lookup c with | some b => pure (.bl b) | none => bad : M D) = _
    rw [h]
  rw [this, wpM_pure]
theorem w_xf {d : Option Slot} {c : Str} {ns : List Str} {ds : List D} {tab : List Str} {n : Str} {x : D} (h : c ∈ tab) (h2 : (ns.zip ds).lookup n = some x) : wpM (xfT 1 n tab [d, some (.exc ⟨c, ns, ds⟩)]) Q E cs = Q x cs := by
  have : xfT 1 n tab [d, some (.exc ⟨c, ns, ds⟩)] = pure x := by
    show (match (if c ∈ tab then (ns.zip ds).lookup n else none) with | some d => pure d | none => bad : M D) = _
    rw [if_pos h, h2]
  rw [this, wpM_pure]
theorem mT : ("BadText" : Str) ∈ [("BadSheet" : Str), "BadText"] := by simp
theorem mS : ("BadSheet" : Str) ∈ [("BadSheet" : Str), "BadText"] := by simp
theorem mS1 : ("BadSheet" : Str) ∈ [("BadSheet" : Str)] := by simp
theorem drop2 {d : D} : dropX [some (.sh d), none] = [some (.sh d), none] := rfl
theorem ns1 (a : D) : ([("number" : Str)].zip [a]).lookup ("number" : Str) = some a := by
  simp only [List.zip_cons_cons, List.lookup, beq_self_eq_true]
theorem ns2 (w a : D) : ([("word" : Str), "number"].zip [w, a]).lookup ("number" : Str) = some a := by
  have h : (("number" : Str) == "word") = false := by decide +kernel
  simp only [List.zip_cons_cons, List.lookup, beq_self_eq_true, h]
theorem ns3 (w a : D) : ([("word" : Str), "number"].zip [w, a]).lookup ("word" : Str) = some w := by
  simp only [List.zip_cons_cons, List.lookup, beq_self_eq_true]
theorem xf1 {d : Option Slot} {a : D} : wpM (xfT 1 "number" ["BadSheet", "BadText"] [d, some (.exc ⟨"BadText", ["number"], [a]⟩)]) Q E cs = Q a cs := w_xf mT (ns1 _)
theorem xf2 {d : Option Slot} {w a : D} : wpM (xfT 1 "number" ["BadSheet", "BadText"] [d, some (.exc ⟨"BadSheet", ["word", "number"], [w, a]⟩)]) Q E cs = Q a cs := w_xf mS (ns2 _ _)
theorem xf3 {d : Option Slot} {w a : D} : wpM (xfT 1 "word" ["BadSheet"] [d, some (.exc ⟨"BadSheet", ["word", "number"], [w, a]⟩)]) Q E cs = Q w cs := w_xf mS1 (ns3 _ _)
theorem law_read_no {d : D} (h : isText d = false) (k : kindOk d = true) : wpM (φ__law_read [d]) Q E cs = Q (.lst [.str "text", .non]) cs := by
  simp only [φ__law_read, d__law_read, ↓reduceIte, decide_eq_true_eq, decide_true, decide_false, Bool.not_true, Bool.not_false, Bool.false_eq_true, true_and, and_true, eq_self, Bool.true_eq_false, reduceCtorEq, Bool.true_and, Bool.false_and, Bool.and_true, Bool.and_false, Option.isSome_some, Option.isSome_none, Option.isNone_some, Option.isNone_none, Int.cast_ofNat_Int, Nat.reduceAdd, Nat.reduceSub, Nat.reduceLT, Nat.reduceLeDiff, Nat.reduceEqDiff, Int.reduceLT, Int.reduceLE, Int.reduceEq, Int.reduceNeg, Int.reduceToNat, Int.reducePow, Int.reduceAdd, Int.reduceSub, List.length_cons, List.length_nil, Option.bind_some, ↓Dn.sxd, Dn.sxp, Dn.leaveW, Dn.turnW, Dn.outR, Dn.bName, Dn.bTup, Dn.bCons, Dn.bNil, Dn.wipeD, Dn.ite_ap, read_no h k, TextE, lkT, drop2, w_isEx lkT1, xf1]
theorem law_read_wp {v : Str} (ha : Asc v) (hl : v.length ≤ 1000000) : wpM (φ__law_read [.str v]) Q E cs = Q (resD v) cs := by
  unfold resD
  cases q : rdFrom 0 (words v) with
  | inl n =>
    have hr : ∀ (Q : D → CS → Prop) (E : XM) cs, wpM (φ_read_sheet [.str v]) Q E cs = E (TextE (.int n)) cs := fun Q E cs => by rw [read_eq ha hl]; unfold readO; rw [q]
    simp only [φ__law_read, d__law_read, ↓reduceIte, decide_eq_true_eq, decide_true, decide_false, Bool.not_true, Bool.not_false, Bool.false_eq_true, true_and, and_true, eq_self, Bool.true_eq_false, reduceCtorEq, Bool.true_and, Bool.false_and, Bool.and_true, Bool.and_false, Option.isSome_some, Option.isSome_none, Option.isNone_some, Option.isNone_none, Int.cast_ofNat_Int, Nat.reduceAdd, Nat.reduceSub, Nat.reduceLT, Nat.reduceLeDiff, Nat.reduceEqDiff, Int.reduceLT, Int.reduceLE, Int.reduceEq, Int.reduceNeg, Int.reduceToNat, Int.reducePow, Int.reduceAdd, Int.reduceSub, List.length_cons, List.length_nil, Option.bind_some, ↓Dn.sxd, Dn.sxp, Dn.leaveW, Dn.turnW, Dn.outR, Dn.bName, Dn.bTup, Dn.bCons, Dn.bNil, Dn.wipeD, Dn.ite_ap, hr, TextE, lkT, drop2, w_isEx lkT1, xf1]
  | inr rs =>
    simp only
    cases q2 : sheetErr rs with
    | none =>
      have hr : ∀ (Q : D → CS → Prop) (E : XM) cs, wpM (φ_read_sheet [.str v]) Q E cs = Q (sheetD rs) cs := fun Q E cs => by rw [read_eq ha hl]; unfold readO; rw [q]; simp only [q2]
      simp only [φ__law_read, d__law_read, ↓reduceIte, decide_eq_true_eq, decide_true, decide_false, Bool.not_true, Bool.not_false, Bool.false_eq_true, true_and, and_true, eq_self, Bool.true_eq_false, reduceCtorEq, Bool.true_and, Bool.false_and, Bool.and_true, Bool.and_false, Option.isSome_some, Option.isSome_none, Option.isNone_some, Option.isNone_none, Int.cast_ofNat_Int, Nat.reduceAdd, Nat.reduceSub, Nat.reduceLT, Nat.reduceLeDiff, Nat.reduceEqDiff, Int.reduceLT, Int.reduceLE, Int.reduceEq, Int.reduceNeg, Int.reduceToNat, Int.reducePow, Int.reduceAdd, Int.reduceSub, List.length_cons, List.length_nil, Option.bind_some, ↓Dn.sxd, Dn.sxp, Dn.leaveW, Dn.turnW, Dn.outR, Dn.bName, Dn.bTup, Dn.bCons, Dn.bNil, Dn.wipeD, Dn.ite_ap, hr]
    | some p =>
      have hr : ∀ (Q : D → CS → Prop) (E : XM) cs, wpM (φ_read_sheet [.str v]) Q E cs = E (SheetE (optN p.1) (.str p.2)) cs := fun Q E cs => by rw [read_eq ha hl]; unfold readO; rw [q]; simp only [q2]
      simp only [φ__law_read, d__law_read, ↓reduceIte, decide_eq_true_eq, decide_true, decide_false, Bool.not_true, Bool.not_false, Bool.false_eq_true, true_and, and_true, eq_self, Bool.true_eq_false, reduceCtorEq, Bool.true_and, Bool.false_and, Bool.and_true, Bool.and_false, Option.isSome_some, Option.isSome_none, Option.isNone_some, Option.isNone_none, Int.cast_ofNat_Int, Nat.reduceAdd, Nat.reduceSub, Nat.reduceLT, Nat.reduceLeDiff, Nat.reduceEqDiff, Int.reduceLT, Int.reduceLE, Int.reduceEq, Int.reduceNeg, Int.reduceToNat, Int.reducePow, Int.reduceAdd, Int.reduceSub, List.length_cons, List.length_nil, Option.bind_some, ↓Dn.sxd, Dn.sxp, Dn.leaveW, Dn.turnW, Dn.outR, Dn.bName, Dn.bTup, Dn.bCons, Dn.bNil, Dn.wipeD, Dn.ite_ap, hr, SheetE, lkS, drop2, w_isEx lkS1, w_isEx lkS2, xf2, xf3]
end
end K67

end
set_option maxHeartbeats 4000000
section
namespace K67
open PySem PySem.Spec PyProof.Rows L2 Dn

/-! ### the text of a sheet -/
def partText (o : Option Int) (w : Str) : Str := match o with
  | none => w
  | some i => toString i
def rowText (r : Row) : Str := partText r.1 "?" ++ ":" ++ partText r.2 "-"
def textOf (s : List Row) : Str := Txt.join " " (s.map rowText)
def Small (o : Option Int) : Prop := ∀ i, o = some i → i.natAbs < 10 ^ 51
def RowS (r : Row) : Prop := Small r.1 ∧ Small r.2
open TL in
theorem tl_int (i : Int) : tl (Str.ofString (toString i)) = if i < 0 then 45 :: numL i.natAbs else numL i.natAbs := by
  cases i with
  | ofNat n =>
    rw [if_neg (show ¬ Int.ofNat n < 0 from Int.not_lt.mpr (Int.natCast_nonneg n))]
    exact tl_num n
  | negSucc n =>
    rw [if_pos (by omega)]
    have e : (toString (Int.negSucc n) : String) = "-" ++ toString (n + 1) := rfl
    rw [e, tl_ofString]
    have h := tl_num (n + 1)
    rw [tl_ofString] at h
    rw [String.toList_append, List.map_append]
    show [45] ++ _ = 45 :: _
    exact congrArg (45 :: ·) h
theorem numT (i : Int) (h : i.natAbs < 10 ^ 51) : Asc (Str.ofString (toString i)) ∧ (Str.ofString (toString i)).length ≤ 52 := by
  have hl := TL.numL_len (k := 51) (by decide) h
  have hd := TL.numL_digits i.natAbs
  have e := tl_int i
  constructor
  · intro c hc
    have hc : c ∈ TL.tl (Str.ofString (toString i)) := hc
    rw [e] at hc
    split at hc
    · rcases List.mem_cons.mp hc with rfl | hc
      · decide
      · have := hd c hc; omega
    · have := hd c hc; omega
  · rw [TL.len_tl, e]
    split
    · rw [List.length_cons]; omega
    · omega
theorem log_small {i : Int} (h : i.natAbs < 10 ^ 51) : i.natAbs.log2 < 1920 := by
  by_cases h0 : i.natAbs = 0
  · rw [h0]; decide
  · have : i.natAbs < 2 ^ 1920 := Nat.lt_of_lt_of_le h (by decide +kernel)
    exact (Nat.log2_lt h0).mpr this
theorem partT {o : Option Int} {w : Str} (hs : Small o) (hw : Asc w) (hw1 : w.length = 1) : Asc (partText o w) ∧ (partText o w).length ≤ 52 := by
  cases o with
  | none => exact ⟨hw, by show w.length ≤ 52; omega⟩
  | some i => exact numT i (hs i rfl)
theorem asc_c : Asc ":" := by decide +kernel
theorem len_c : (":" : Str).length = 1 := by decide +kernel
theorem rowT {r : Row} (h : RowS r) : Asc (rowText r) ∧ (rowText r).length ≤ 105 := by
  obtain ⟨a1, a2⟩ := partT (w := "?") h.1 asc_q (by decide +kernel)
  obtain ⟨b1, b2⟩ := partT (w := "-") h.2 asc_d (by decide +kernel)
  refine ⟨(a1.app asc_c).app b1, ?_⟩
  unfold rowText
  rw [Str.length_append, Str.length_append, len_c]
  omega
theorem sum_le {f : Str → Nat} {B : Nat} : ∀ {l : List Str}, (∀ x ∈ l, f x ≤ B) → (l.map f).sum ≤ l.length * B
  | [], _ => by simp
  | x :: l, h => by
    have ih := sum_le (l := l) fun y hy => h y (List.mem_cons_of_mem _ hy)
    have hx := h x (by simp)
    rw [List.map_cons, List.sum_cons, List.length_cons, Nat.add_mul]
    omega
theorem asc_b : Asc " " := by decide +kernel
theorem len_b : (" " : Str).length = 1 := by decide +kernel
theorem text_size {s : List Row} (hl : s.length ≤ 60) (hs : ∀ r ∈ s, RowS r) : ((s.map rowText).map (·.length)).sum + (s.map rowText).length * (" " : Str).length ≤ 6400 := by
  have := sum_le (f := fun x => x.length) (B := 105) (l := s.map rowText) fun x hx => by
    obtain ⟨r, hr, rfl⟩ := List.mem_map.mp hx
    exact (rowT (hs r hr)).2
  rw [len_b, List.length_map] at *
  omega
theorem textT {s : List Row} (hl : s.length ≤ 60) (hs : ∀ r ∈ s, RowS r) : Asc (textOf s) ∧ (textOf s).length ≤ 6400 := by
  constructor
  · exact asc_b.join fun p hp => by
      obtain ⟨r, hr, rfl⟩ := List.mem_map.mp hp
      exact (rowT (hs r hr)).1
  · unfold textOf
    rw [TL.join_eq]
    exact Nat.le_trans (StrLaws.join_length_le _ _) (text_size hl hs)
section
variable {Q : D → CS → Prop} {E : XM} {cs : CS}
theorem part_text_wp {o : Option Int} {w : Str} (hs : Small o) : wpM (φ_part_text [optI o, .str w]) Q E cs = Q (.str (partText o w)) cs := by
  simp only [φ_part_text, d_part_text, ↓reduceIte, decide_eq_true_eq, decide_true, decide_false, Bool.not_true, Bool.not_false, Bool.false_eq_true, true_and, and_true, eq_self, Bool.true_eq_false, reduceCtorEq, Bool.true_and, Bool.false_and, Bool.and_true, Bool.and_false, Option.isSome_some, Option.isSome_none, Option.isNone_some, Option.isNone_none, Int.cast_ofNat_Int, Nat.reduceAdd, Nat.reduceSub, Nat.reduceLT, Nat.reduceLeDiff, Nat.reduceEqDiff, Int.reduceLT, Int.reduceLE, Int.reduceEq, Int.reduceNeg, Int.reduceToNat, Int.reducePow, Int.reduceAdd, Int.reduceSub, List.length_cons, List.length_nil, Option.bind_some, ↓Dn.sxd, Dn.sxp, Dn.leaveW, Dn.turnW, Dn.outR, Dn.bName, Dn.bTup, Dn.bCons, Dn.bNil, Dn.wipeD, Dn.ite_ap]
  cases o with
  | none => simp only [↓reduceIte, decide_eq_true_eq, decide_true, decide_false, Bool.not_true, Bool.not_false, Bool.false_eq_true, true_and, and_true, eq_self, Bool.true_eq_false, reduceCtorEq, Bool.true_and, Bool.false_and, Bool.and_true, Bool.and_false, Option.isSome_some, Option.isSome_none, Option.isNone_some, Option.isNone_none, Int.cast_ofNat_Int, Nat.reduceAdd, Nat.reduceSub, Nat.reduceLT, Nat.reduceLeDiff, Nat.reduceEqDiff, Int.reduceLT, Int.reduceLE, Int.reduceEq, Int.reduceNeg, Int.reduceToNat, Int.reducePow, Int.reduceAdd, Int.reduceSub, List.length_cons, List.length_nil, Option.bind_some, ↓Dn.sxd, Dn.sxp, Dn.leaveW, Dn.turnW, Dn.outR, Dn.bName, Dn.bTup, Dn.bCons, Dn.bNil, Dn.wipeD, Dn.ite_ap, partText]
  | some i => simp only [↓reduceIte, decide_eq_true_eq, decide_true, decide_false, Bool.not_true, Bool.not_false, Bool.false_eq_true, true_and, and_true, eq_self, Bool.true_eq_false, reduceCtorEq, Bool.true_and, Bool.false_and, Bool.and_true, Bool.and_false, Option.isSome_some, Option.isSome_none, Option.isNone_some, Option.isNone_none, Int.cast_ofNat_Int, Nat.reduceAdd, Nat.reduceSub, Nat.reduceLT, Nat.reduceLeDiff, Nat.reduceEqDiff, Int.reduceLT, Int.reduceLE, Int.reduceEq, Int.reduceNeg, Int.reduceToNat, Int.reducePow, Int.reduceAdd, Int.reduceSub, List.length_cons, List.length_nil, Option.bind_some, ↓Dn.sxd, Dn.sxp, Dn.leaveW, Dn.turnW, Dn.outR, Dn.bName, Dn.bTup, Dn.bCons, Dn.bNil, Dn.wipeD, Dn.ite_ap, optI_some, partText, log_small (hs i rfl)]
theorem lpart_text_wp {o : Option Int} {w : Str} (hs : Small o) : wpM (φ__law_part_text [optI o, .str w]) Q E cs = Q (.str (partText o w)) cs := by
  simp only [φ__law_part_text, d__law_part_text, ↓reduceIte, decide_eq_true_eq, decide_true, decide_false, Bool.not_true, Bool.not_false, Bool.false_eq_true, true_and, and_true, eq_self, Bool.true_eq_false, reduceCtorEq, Bool.true_and, Bool.false_and, Bool.and_true, Bool.and_false, Option.isSome_some, Option.isSome_none, Option.isNone_some, Option.isNone_none, Int.cast_ofNat_Int, Nat.reduceAdd, Nat.reduceSub, Nat.reduceLT, Nat.reduceLeDiff, Nat.reduceEqDiff, Int.reduceLT, Int.reduceLE, Int.reduceEq, Int.reduceNeg, Int.reduceToNat, Int.reducePow, Int.reduceAdd, Int.reduceSub, List.length_cons, List.length_nil, Option.bind_some, ↓Dn.sxd, Dn.sxp, Dn.leaveW, Dn.turnW, Dn.outR, Dn.bName, Dn.bTup, Dn.bCons, Dn.bNil, Dn.wipeD, Dn.ite_ap]
  cases o with
  | none => simp only [↓reduceIte, decide_eq_true_eq, decide_true, decide_false, Bool.not_true, Bool.not_false, Bool.false_eq_true, true_and, and_true, eq_self, Bool.true_eq_false, reduceCtorEq, Bool.true_and, Bool.false_and, Bool.and_true, Bool.and_false, Option.isSome_some, Option.isSome_none, Option.isNone_some, Option.isNone_none, Int.cast_ofNat_Int, Nat.reduceAdd, Nat.reduceSub, Nat.reduceLT, Nat.reduceLeDiff, Nat.reduceEqDiff, Int.reduceLT, Int.reduceLE, Int.reduceEq, Int.reduceNeg, Int.reduceToNat, Int.reducePow, Int.reduceAdd, Int.reduceSub, List.length_cons, List.length_nil, Option.bind_some, ↓Dn.sxd, Dn.sxp, Dn.leaveW, Dn.turnW, Dn.outR, Dn.bName, Dn.bTup, Dn.bCons, Dn.bNil, Dn.wipeD, Dn.ite_ap, partText]
  | some i => simp only [↓reduceIte, decide_eq_true_eq, decide_true, decide_false, Bool.not_true, Bool.not_false, Bool.false_eq_true, true_and, and_true, eq_self, Bool.true_eq_false, reduceCtorEq, Bool.true_and, Bool.false_and, Bool.and_true, Bool.and_false, Option.isSome_some, Option.isSome_none, Option.isNone_some, Option.isNone_none, Int.cast_ofNat_Int, Nat.reduceAdd, Nat.reduceSub, Nat.reduceLT, Nat.reduceLeDiff, Nat.reduceEqDiff, Int.reduceLT, Int.reduceLE, Int.reduceEq, Int.reduceNeg, Int.reduceToNat, Int.reducePow, Int.reduceAdd, Int.reduceSub, List.length_cons, List.length_nil, Option.bind_some, ↓Dn.sxd, Dn.sxp, Dn.leaveW, Dn.turnW, Dn.outR, Dn.bName, Dn.bTup, Dn.bCons, Dn.bNil, Dn.wipeD, Dn.ite_ap, optI_some, partText, log_small (hs i rfl)]
theorem row_size {r : Row} (h : RowS r) : (partText r.1 "?").length + (":" : Str).length ≤ sizeLine ∧ (partText r.1 "?" ++ ":").length + (partText r.2 "-").length ≤ sizeLine := by
  obtain ⟨a1, a2⟩ := partT (w := "?") h.1 asc_q (by decide +kernel)
  obtain ⟨b1, b2⟩ := partT (w := "-") h.2 asc_d (by decide +kernel)
  rw [sizeLine_eq, Str.length_append, len_c]
  omega
theorem filter_true {α : Type} (l : List α) : (l.filter fun _ => true) = l := List.filter_eq_self.mpr fun _ _ => rfl
theorem sheet_text_wp {s : List Row} (hl : s.length ≤ 60) (hs : ∀ r ∈ s, RowS r) : wpM (φ_sheet_text [sheetD s]) Q E cs = Q (.str (textOf s)) cs := by
  simp only [φ_sheet_text, d_sheet_text, sheetD, ↓reduceIte, decide_eq_true_eq, decide_true, decide_false, Bool.not_true, Bool.not_false, Bool.false_eq_true, true_and, and_true, eq_self, Bool.true_eq_false, reduceCtorEq, Bool.true_and, Bool.false_and, Bool.and_true, Bool.and_false, Option.isSome_some, Option.isSome_none, Option.isNone_some, Option.isNone_none, Int.cast_ofNat_Int, Nat.reduceAdd, Nat.reduceSub, Nat.reduceLT, Nat.reduceLeDiff, Nat.reduceEqDiff, Int.reduceLT, Int.reduceLE, Int.reduceEq, Int.reduceNeg, Int.reduceToNat, Int.reducePow, Int.reduceAdd, Int.reduceSub, List.length_cons, List.length_nil, Option.bind_some, ↓Dn.sxd, Dn.sxp, Dn.leaveW, Dn.turnW, Dn.outR, Dn.bName, Dn.bTup, Dn.bCons, Dn.bNil, Dn.wipeD, Dn.ite_ap]
  rw [compL_pure rowD (fun _ => true) (fun r => .str (rowText r)) s fun r hr => ⟨_, rfl, fun Q E => rfl, fun _ Q E => by simp only [↓reduceIte, decide_eq_true_eq, decide_true, decide_false, Bool.not_true, Bool.not_false, Bool.false_eq_true, true_and, and_true, eq_self, Bool.true_eq_false, reduceCtorEq, Bool.true_and, Bool.false_and, Bool.and_true, Bool.and_false, Option.isSome_some, Option.isSome_none, Option.isNone_some, Option.isNone_none, Int.cast_ofNat_Int, Nat.reduceAdd, Nat.reduceSub, Nat.reduceLT, Nat.reduceLeDiff, Nat.reduceEqDiff, Int.reduceLT, Int.reduceLE, Int.reduceEq, Int.reduceNeg, Int.reduceToNat, Int.reducePow, Int.reduceAdd, Int.reduceSub, List.length_cons, List.length_nil, Option.bind_some, ↓Dn.sxd, Dn.sxp, Dn.leaveW, Dn.turnW, Dn.outR, Dn.bName, Dn.bTup, Dn.bCons, Dn.bNil, Dn.wipeD, Dn.ite_ap, part_text_wp (hs r hr).1, part_text_wp (hs r hr).2, row_size (hs r hr)]; rfl⟩]
  rw [filter_true, show s.map (fun r => D.str (rowText r)) = (s.map rowText).map D.str by rw [List.map_map]; rfl]
  have hf : few ((s.map rowText).map D.str) = true := few_le (by rw [List.length_map, List.length_map]; omega)
  have hz := Nat.le_trans (text_size hl hs) (show 6400 ≤ 16777216 by decide)
  simp only [↓reduceIte, decide_eq_true_eq, decide_true, decide_false, Bool.not_true, Bool.not_false, Bool.false_eq_true, true_and, and_true, eq_self, Bool.true_eq_false, reduceCtorEq, Bool.true_and, Bool.false_and, Bool.and_true, Bool.and_false, Option.isSome_some, Option.isSome_none, Option.isNone_some, Option.isNone_none, Int.cast_ofNat_Int, Nat.reduceAdd, Nat.reduceSub, Nat.reduceLT, Nat.reduceLeDiff, Nat.reduceEqDiff, Int.reduceLT, Int.reduceLE, Int.reduceEq, Int.reduceNeg, Int.reduceToNat, Int.reducePow, Int.reduceAdd, Int.reduceSub, List.length_cons, List.length_nil, Option.bind_some, ↓Dn.sxd, Dn.sxp, Dn.leaveW, Dn.turnW, Dn.outR, Dn.bName, Dn.bTup, Dn.bCons, Dn.bNil, Dn.wipeD, Dn.ite_ap, hf, hz]
  rfl
theorem lsheet_text_wp {s : List Row} (hl : s.length ≤ 60) (hs : ∀ r ∈ s, RowS r) : wpM (φ__law_sheet_text [sheetD s]) Q E cs = Q (.str (textOf s)) cs := by
  simp only [φ__law_sheet_text, d__law_sheet_text, sheetD, ↓reduceIte, decide_eq_true_eq, decide_true, decide_false, Bool.not_true, Bool.not_false, Bool.false_eq_true, true_and, and_true, eq_self, Bool.true_eq_false, reduceCtorEq, Bool.true_and, Bool.false_and, Bool.and_true, Bool.and_false, Option.isSome_some, Option.isSome_none, Option.isNone_some, Option.isNone_none, Int.cast_ofNat_Int, Nat.reduceAdd, Nat.reduceSub, Nat.reduceLT, Nat.reduceLeDiff, Nat.reduceEqDiff, Int.reduceLT, Int.reduceLE, Int.reduceEq, Int.reduceNeg, Int.reduceToNat, Int.reducePow, Int.reduceAdd, Int.reduceSub, List.length_cons, List.length_nil, Option.bind_some, ↓Dn.sxd, Dn.sxp, Dn.leaveW, Dn.turnW, Dn.outR, Dn.bName, Dn.bTup, Dn.bCons, Dn.bNil, Dn.wipeD, Dn.ite_ap]
  rw [compL_pure rowD (fun _ => true) (fun r => .str (rowText r)) s fun r hr => ⟨_, rfl, fun Q E => rfl, fun _ Q E => by simp only [↓reduceIte, decide_eq_true_eq, decide_true, decide_false, Bool.not_true, Bool.not_false, Bool.false_eq_true, true_and, and_true, eq_self, Bool.true_eq_false, reduceCtorEq, Bool.true_and, Bool.false_and, Bool.and_true, Bool.and_false, Option.isSome_some, Option.isSome_none, Option.isNone_some, Option.isNone_none, Int.cast_ofNat_Int, Nat.reduceAdd, Nat.reduceSub, Nat.reduceLT, Nat.reduceLeDiff, Nat.reduceEqDiff, Int.reduceLT, Int.reduceLE, Int.reduceEq, Int.reduceNeg, Int.reduceToNat, Int.reducePow, Int.reduceAdd, Int.reduceSub, List.length_cons, List.length_nil, Option.bind_some, ↓Dn.sxd, Dn.sxp, Dn.leaveW, Dn.turnW, Dn.outR, Dn.bName, Dn.bTup, Dn.bCons, Dn.bNil, Dn.wipeD, Dn.ite_ap, w_row0, w_row1, lpart_text_wp (hs r hr).1, lpart_text_wp (hs r hr).2, row_size (hs r hr)]; rfl⟩]
  rw [filter_true, show s.map (fun r => D.str (rowText r)) = (s.map rowText).map D.str by rw [List.map_map]; rfl]
  have hf : few ((s.map rowText).map D.str) = true := few_le (by rw [List.length_map, List.length_map]; omega)
  have hz := Nat.le_trans (text_size hl hs) (show 6400 ≤ 16777216 by decide)
  simp only [↓reduceIte, decide_eq_true_eq, decide_true, decide_false, Bool.not_true, Bool.not_false, Bool.false_eq_true, true_and, and_true, eq_self, Bool.true_eq_false, reduceCtorEq, Bool.true_and, Bool.false_and, Bool.and_true, Bool.and_false, Option.isSome_some, Option.isSome_none, Option.isNone_some, Option.isNone_none, Int.cast_ofNat_Int, Nat.reduceAdd, Nat.reduceSub, Nat.reduceLT, Nat.reduceLeDiff, Nat.reduceEqDiff, Int.reduceLT, Int.reduceLE, Int.reduceEq, Int.reduceNeg, Int.reduceToNat, Int.reducePow, Int.reduceAdd, Int.reduceSub, List.length_cons, List.length_nil, Option.bind_some, ↓Dn.sxd, Dn.sxp, Dn.leaveW, Dn.turnW, Dn.outR, Dn.bName, Dn.bTup, Dn.bCons, Dn.bNil, Dn.wipeD, Dn.ite_ap, hf, hz]
  rfl
end
/-! ### what is written is read back -/
theorem head_pos : ∀ n : Nat, 0 < n → (TL.numL n).headD 0 ≠ 48 := fun n => by
  induction n using Nat.strongRecOn with
  | _ n ih =>
    intro h0
    by_cases h : n < 10
    · rw [TL.numL_lt h]
      show 48 + n ≠ 48
      omega
    · rw [TL.numL_step (by omega)]
      have hh := ih (n / 10) (by omega) (by omega)
      cases e : TL.numL (n / 10) with
      | nil => exact absurd e (TL.numL_ne _)
      | cons c l => rw [e] at hh; exact hh
theorem bads_num {f : Str} (h : PySem.NumText.AllDigits f.cps.toList) : bads f = [] := by
  unfold bads
  rw [List.filter_eq_nil_iff]
  intro c hc
  simp only [Bool.not_eq_true', decide_eq_false_iff_not, Decidable.not_not]
  exact dig_iff.mpr (h c hc)
theorem numIn_str {i : Int} (h : i.natAbs < 10 ^ 51) : numIn (Str.ofString (toString i)) 51 = some i := by
  have hl := TL.numL_len (k := 51) (by decide) h
  have hd := TL.numL_digits i.natAbs
  have hne := TL.numL_ne i.natAbs
  have e := tl_int i
  have hv := TL.numL_val i.natAbs
  obtain ⟨w, hw⟩ : ∃ w, w = Str.ofString (toString i) := ⟨_, rfl⟩
  rw [← hw] at e ⊢
  have e : w.cps.toList = if i < 0 then 45 :: TL.numL i.natAbs else TL.numL i.natAbs := e
  have hf : (figs w).cps.toList = TL.numL i.natAbs := by
    unfold figs
    by_cases h0 : i < 0
    · rw [if_pos h0] at e
      rw [if_pos (TL.ext_tl (by show (cutS w none (some 1)).cps.toList = _; rw [cut_head, e]; exact (show [45] = TL.tl ("-" : Str) by decide +kernel))), cut_tail, e]
      rfl
    · rw [if_neg h0] at e
      rw [if_neg (fun q => by
        have q : (cutS w none (some 1)).cps.toList = ("-" : Str).cps.toList := by rw [q]
        rw [cut_head, e] at q
        have hq : ("-" : Str).cps.toList = [45] := by decide +kernel
        rw [hq] at q
        have : 45 ∈ TL.numL i.natAbs := List.mem_of_mem_take (by rw [q]; simp)
        have := hd 45 this
        omega), e]
  have hlen : (figs w).length = (TL.numL i.natAbs).length := by rw [len_list, hf]
  have h1 : ¬ ((figs w).length = 0 ∨ 51 < (figs w).length ∨ bads (figs w) ≠ []) := by
    rw [hlen, bads_num (by rw [hf]; exact hd)]
    have : (TL.numL i.natAbs).length ≠ 0 := fun z => hne (List.eq_nil_of_length_eq_zero z)
    rintro (q | q | q)
    · exact this q
    · omega
    · exact q rfl
  have h2 : ¬ (headS (figs w) = "0" ∧ w ≠ "0") := by
    rintro ⟨q, q2⟩
    by_cases h0 : i.natAbs = 0
    · refine q2 (TL.ext_tl ?_)
      show w.cps.toList = _
      have hi : i = 0 := by omega
      rw [e, hi]
      decide +kernel
    · have q := congrArg (fun x : Str => x.cps.toList) q
      have hq : ("0" : Str).cps.toList = [48] := by decide +kernel
      simp only [headS, hf, hq] at q
      exact head_pos _ (by omega) (List.cons.inj q).1
  unfold numIn
  rw [if_neg h1, if_neg h2]
  by_cases h0 : i < 0
  · rw [if_pos h0] at e
    rw [PySem.intText_neg e hd hne (by rw [len_list, e, List.length_cons]; omega), hv]
    congr 1
    omega
  · rw [if_neg h0] at e
    rw [PySem.intText_digits (by rw [e]; exact hd) (by rw [e]; exact hne) (by rw [len_list, e]; omega), e, hv]
    congr 1
    omega
theorem partIn_str {o : Option Int} {w : Str} (hs : Small o) (hw : ∀ i : Int, Str.ofString (toString i) ≠ w) : partIn (partText o w) w = some o := by
  unfold partIn
  cases o with
  | none => exact if_pos rfl
  | some i =>
    show (if (Str.ofString (toString i)) = w then _ else (numIn (Str.ofString (toString i)) 51).map some) = _
    rw [if_neg (hw i), numIn_str (hs i rfl)]
    rfl
theorem ne_q (i : Int) : Str.ofString (toString i) ≠ "?" := fun q => by
  have e := tl_int i
  rw [q] at e
  have hq : TL.tl ("?" : Str) = [63] := by decide +kernel
  rw [hq] at e
  have hd := TL.numL_digits i.natAbs
  split at e
  · cases e
  · have := hd 63 (by rw [← e]; simp); omega
theorem ne_d (i : Int) : Str.ofString (toString i) ≠ "-" := fun q => by
  have e := tl_int i
  rw [q] at e
  have hq : TL.tl ("-" : Str) = [45] := by decide +kernel
  rw [hq] at e
  have hd := TL.numL_digits i.natAbs
  split at e
  · exact TL.numL_ne _ (List.cons.inj e).2.symm
  · have := hd 45 (by rw [← e]; simp); omega
theorem part_free {o : Option Int} {w : Str} {c : Nat} (hw : c ∉ w.cps.toList) (hc : c = 32 ∨ c = 58) : c ∉ (partText o w).cps.toList := by
  cases o with
  | none => exact hw
  | some i =>
    show c ∉ TL.tl (Str.ofString (toString i))
    rw [tl_int]
    have hd := TL.numL_digits i.natAbs
    intro h
    split at h
    · rcases List.mem_cons.mp h with h | h
      · omega
      · have := hd c h; omega
    · have := hd c h; omega
theorem rowIn_str {r : Row} (h : RowS r) : rowIn (rowText r) = some r := by
  have e : rowText r = Txt.join ":" [partText r.1 "?", partText r.2 "-"] := by
    rw [TL.join_eq]
    rfl
  have hs : Txt.split (rowText r) ":" = [partText r.1 "?", partText r.2 "-"] := by
    rw [e]
    refine TL.split_join (s := 58) (S := []) (by decide +kernel) (by decide +kernel) (by simp) fun p hp => ?_
    rcases List.mem_cons.mp hp with rfl | hp
    · exact part_free (by decide +kernel) (.inr rfl)
    · rw [List.mem_singleton.mp hp]
      exact part_free (by decide +kernel) (.inr rfl)
  unfold rowIn
  rw [hs]
  simp only [partIn_str h.1 ne_q, partIn_str h.2 ne_d]
theorem row_free (r : Row) : 32 ∉ (rowText r).cps.toList := by
  unfold rowText
  rw [cps_toList_append, cps_toList_append]
  intro h
  rcases List.mem_append.mp h with h | h
  · rcases List.mem_append.mp h with h | h
    · exact part_free (by decide +kernel) (.inl rfl) h
    · revert h; decide +kernel
  · exact part_free (by decide +kernel) (.inl rfl) h
theorem row_ne (r : Row) : rowText r ≠ "" := fun h => by
  have h := congrArg (fun x : Str => x.length) h
  have z : ("" : Str).length = 0 := by decide +kernel
  simp only [rowText, Str.length_append, len_c, z] at h
  omega
theorem words_text {s : List Row} (h : s ≠ []) : words (textOf s) = s.map rowText := by
  have hs : Txt.split (textOf s) " " = s.map rowText := TL.split_join (s := 32) (S := []) (by decide +kernel) (by decide +kernel) (by simpa using h) fun p hp => by
    obtain ⟨r, _, rfl⟩ := List.mem_map.mp hp
    exact row_free r
  unfold words
  rw [hs, List.filter_eq_self]
  intro w hw
  obtain ⟨r, _, rfl⟩ := List.mem_map.mp hw
  simp [row_ne r]
theorem rd_text : ∀ (s : List Row) (k : Nat), (∀ r ∈ s, RowS r) → rdFrom k (s.map rowText) = .inr s
  | [], _, _ => rfl
  | r :: s, k, h => by
    rw [List.map_cons, rdFrom_cons, rowIn_str (h r (by simp))]
    simp only [rd_text s (k + 1) fun q hq => h q (List.mem_cons_of_mem _ hq)]
    rfl
end K67

end
set_option maxHeartbeats 4000000
section
namespace K67
open PySem PySem.Spec PyProof.Rows L2 Dn

/-! ### a sheet is made -/
def RowOk (r : Row) : Prop := okB W40 r.1 = true ∧ okB V50 r.2 = true
theorem okB_small {n : Int} {o : Option Int} (hn : n < 10 ^ 51) (h : okB n o = true) : Small o := fun i e => by
  subst e
  unfold okB at h
  simp only [Bool.and_eq_true, decide_eq_true_eq] at h
  omega
theorem RowOk.s {r : Row} (h : RowOk r) : RowS r := ⟨okB_small (by decide) h.1, okB_small (by decide) h.2⟩
section
variable {Q : D → CS → Prop} {E : XM} {cs : CS} {l : List Cell}
theorem lworth_wp {share : Int} (hd : DeckOk l cs) (h0 : 0 < share) (h1 : share ≤ 1000000000000000000000000000000000000000) (k : ∀ o cs', okB W40 o = true → DeckOk l cs' → Q (optI o) cs') : wpM (φ__law_worth [.cell 0, .int share]) Q E cs := by
  simp only [φ__law_worth, d__law_worth, ↓reduceIte, decide_eq_true_eq, decide_true, decide_false, Bool.not_true, Bool.not_false, Bool.false_eq_true, true_and, and_true, eq_self, Bool.true_eq_false, reduceCtorEq, Bool.true_and, Bool.false_and, Bool.and_true, Bool.and_false, Option.isSome_some, Option.isSome_none, Option.isNone_some, Option.isNone_none, Int.cast_ofNat_Int, Nat.reduceAdd, Nat.reduceSub, Nat.reduceLT, Nat.reduceLeDiff, Nat.reduceEqDiff, Int.reduceLT, Int.reduceLE, Int.reduceEq, Int.reduceNeg, Int.reduceToNat, Int.reducePow, Int.reduceAdd, Int.reduceSub, List.length_cons, List.length_nil, Option.bind_some, ↓Dn.sxd, Dn.sxp, Dn.leaveW, Dn.turnW, Dn.outR, Dn.bName, Dn.bTup, Dn.bCons, Dn.bNil, Dn.wipeD, Dn.ite_ap]
  refine take_wp hd (by decide) (by decide) fun t cs1 _ _ hd1 => ?_
  simp only [↓reduceIte, decide_eq_true_eq, decide_true, decide_false, Bool.not_true, Bool.not_false, Bool.false_eq_true, true_and, and_true, eq_self, Bool.true_eq_false, reduceCtorEq, Bool.true_and, Bool.false_and, Bool.and_true, Bool.and_false, Option.isSome_some, Option.isSome_none, Option.isNone_some, Option.isNone_none, Int.cast_ofNat_Int, Nat.reduceAdd, Nat.reduceSub, Nat.reduceLT, Nat.reduceLeDiff, Nat.reduceEqDiff, Int.reduceLT, Int.reduceLE, Int.reduceEq, Int.reduceNeg, Int.reduceToNat, Int.reducePow, Int.reduceAdd, Int.reduceSub, List.length_cons, List.length_nil, Option.bind_some, ↓Dn.sxd, Dn.sxp, Dn.leaveW, Dn.turnW, Dn.outR, Dn.bName, Dn.bTup, Dn.bCons, Dn.bNil, Dn.wipeD, Dn.ite_ap]
  by_cases ht : t = 0
  · simp only [ht, ↓reduceIte, decide_eq_true_eq, decide_true, decide_false, Bool.not_true, Bool.not_false, Bool.false_eq_true, true_and, and_true, eq_self, Bool.true_eq_false, reduceCtorEq, Bool.true_and, Bool.false_and, Bool.and_true, Bool.and_false, Option.isSome_some, Option.isSome_none, Option.isNone_some, Option.isNone_none, Int.cast_ofNat_Int, Nat.reduceAdd, Nat.reduceSub, Nat.reduceLT, Nat.reduceLeDiff, Nat.reduceEqDiff, Int.reduceLT, Int.reduceLE, Int.reduceEq, Int.reduceNeg, Int.reduceToNat, Int.reducePow, Int.reduceAdd, Int.reduceSub, List.length_cons, List.length_nil, Option.bind_some, ↓Dn.sxd, Dn.sxp, Dn.leaveW, Dn.turnW, Dn.outR, Dn.bName, Dn.bTup, Dn.bCons, Dn.bNil, Dn.wipeD, Dn.ite_ap]
    exact k none _ rfl hd1
  · simp only [ht, ↓reduceIte, decide_eq_true_eq, decide_true, decide_false, Bool.not_true, Bool.not_false, Bool.false_eq_true, true_and, and_true, eq_self, Bool.true_eq_false, reduceCtorEq, Bool.true_and, Bool.false_and, Bool.and_true, Bool.and_false, Option.isSome_some, Option.isSome_none, Option.isNone_some, Option.isNone_none, Int.cast_ofNat_Int, Nat.reduceAdd, Nat.reduceSub, Nat.reduceLT, Nat.reduceLeDiff, Nat.reduceEqDiff, Int.reduceLT, Int.reduceLE, Int.reduceEq, Int.reduceNeg, Int.reduceToNat, Int.reducePow, Int.reduceAdd, Int.reduceSub, List.length_cons, List.length_nil, Option.bind_some, ↓Dn.sxd, Dn.sxp, Dn.leaveW, Dn.turnW, Dn.outR, Dn.bName, Dn.bTup, Dn.bCons, Dn.bNil, Dn.wipeD, Dn.ite_ap]
    refine take_wp hd1 (by decide) (by decide) fun u cs2 u0 u1 hd2 => ?_
    simp only [↓reduceIte, decide_eq_true_eq, decide_true, decide_false, Bool.not_true, Bool.not_false, Bool.false_eq_true, true_and, and_true, eq_self, Bool.true_eq_false, reduceCtorEq, Bool.true_and, Bool.false_and, Bool.and_true, Bool.and_false, Option.isSome_some, Option.isSome_none, Option.isNone_some, Option.isNone_none, Int.cast_ofNat_Int, Nat.reduceAdd, Nat.reduceSub, Nat.reduceLT, Nat.reduceLeDiff, Nat.reduceEqDiff, Int.reduceLT, Int.reduceLE, Int.reduceEq, Int.reduceNeg, Int.reduceToNat, Int.reducePow, Int.reduceAdd, Int.reduceSub, List.length_cons, List.length_nil, Option.bind_some, ↓Dn.sxd, Dn.sxp, Dn.leaveW, Dn.turnW, Dn.outR, Dn.bName, Dn.bTup, Dn.bCons, Dn.bNil, Dn.wipeD, Dn.ite_ap, small_mul (i := u - 4) (j := share) (by omega)]
    refine k (some ((u - 4) * share)) _ ?_ hd2
    unfold okB
    have a1 : (u - 4) * share ≤ 4 * share := Int.mul_le_mul_of_nonneg_right (by omega) (by omega)
    have a2 : (-4) * share ≤ (u - 4) * share := Int.mul_le_mul_of_nonneg_right (by omega) (by omega)
    have w40 : W40 = 10000000000000000000000000000000000000000 := rfl
    simp only [Bool.and_eq_true, decide_eq_true_eq]
    omega
theorem v50 : V50 = 100000000000000000000000000000000000000000000000000 := rfl
theorem lvalue_wp (hd : DeckOk l cs) (k : ∀ o cs', okB V50 o = true → DeckOk l cs' → Q (optI o) cs') : wpM (φ__law_value [.cell 0]) Q E cs := by
  simp only [φ__law_value, d__law_value, ↓reduceIte, decide_eq_true_eq, decide_true, decide_false, Bool.not_true, Bool.not_false, Bool.false_eq_true, true_and, and_true, eq_self, Bool.true_eq_false, reduceCtorEq, Bool.true_and, Bool.false_and, Bool.and_true, Bool.and_false, Option.isSome_some, Option.isSome_none, Option.isNone_some, Option.isNone_none, Int.cast_ofNat_Int, Nat.reduceAdd, Nat.reduceSub, Nat.reduceLT, Nat.reduceLeDiff, Nat.reduceEqDiff, Int.reduceLT, Int.reduceLE, Int.reduceEq, Int.reduceNeg, Int.reduceToNat, Int.reducePow, Int.reduceAdd, Int.reduceSub, List.length_cons, List.length_nil, Option.bind_some, ↓Dn.sxd, Dn.sxp, Dn.leaveW, Dn.turnW, Dn.outR, Dn.bName, Dn.bTup, Dn.bCons, Dn.bNil, Dn.wipeD, Dn.ite_ap]
  refine take_wp hd (by decide) (by decide) fun t cs1 t0 t1 hd1 => ?_
  simp only [↓reduceIte, decide_eq_true_eq, decide_true, decide_false, Bool.not_true, Bool.not_false, Bool.false_eq_true, true_and, and_true, eq_self, Bool.true_eq_false, reduceCtorEq, Bool.true_and, Bool.false_and, Bool.and_true, Bool.and_false, Option.isSome_some, Option.isSome_none, Option.isNone_some, Option.isNone_none, Int.cast_ofNat_Int, Nat.reduceAdd, Nat.reduceSub, Nat.reduceLT, Nat.reduceLeDiff, Nat.reduceEqDiff, Int.reduceLT, Int.reduceLE, Int.reduceEq, Int.reduceNeg, Int.reduceToNat, Int.reducePow, Int.reduceAdd, Int.reduceSub, List.length_cons, List.length_nil, Option.bind_some, ↓Dn.sxd, Dn.sxp, Dn.leaveW, Dn.turnW, Dn.outR, Dn.bName, Dn.bTup, Dn.bCons, Dn.bNil, Dn.wipeD, Dn.ite_ap]
  refine take_wp hd1 (by decide) (by decide) fun u cs2 u0 u1 hd2 => ?_
  simp only [↓reduceIte, decide_eq_true_eq, decide_true, decide_false, Bool.not_true, Bool.not_false, Bool.false_eq_true, true_and, and_true, eq_self, Bool.true_eq_false, reduceCtorEq, Bool.true_and, Bool.false_and, Bool.and_true, Bool.and_false, Option.isSome_some, Option.isSome_none, Option.isNone_some, Option.isNone_none, Int.cast_ofNat_Int, Nat.reduceAdd, Nat.reduceSub, Nat.reduceLT, Nat.reduceLeDiff, Nat.reduceEqDiff, Int.reduceLT, Int.reduceLE, Int.reduceEq, Int.reduceNeg, Int.reduceToNat, Int.reducePow, Int.reduceAdd, Int.reduceSub, List.length_cons, List.length_nil, Option.bind_some, ↓Dn.sxd, Dn.sxp, Dn.leaveW, Dn.turnW, Dn.outR, Dn.bName, Dn.bTup, Dn.bCons, Dn.bNil, Dn.wipeD, Dn.ite_ap]
  refine pick_wp hd2 (by simp) (by simp) fun d hm cs3 hd3 => ?_
  simp only [List.mem_cons, List.not_mem_nil, or_false] at hm
  rcases hm with rfl | rfl | rfl | rfl | rfl | rfl
  · exact k none _ rfl hd3
  · exact k (some _) _ (by decide) hd3
  · exact k (some _) _ (by unfold okB; rw [v50]; simp only [Bool.and_eq_true, decide_eq_true_eq]; omega) hd3
  · exact k (some _) _ (by unfold okB; rw [v50]; simp only [Bool.and_eq_true, decide_eq_true_eq]; omega) hd3
  · exact k (some _) _ (by decide) hd3
  · exact k (some _) _ (by decide) hd3
/-! the order -/
abbrev KN := Int × Nat
def kD (p : KN) : D := .tup [.int p.1, .int p.2]
def leN (p q : KN) : Bool := decide (p.1 < q.1 ∨ (p.1 = q.1 ∧ (p.2 : Int) ≤ q.2))
theorem py_kD (p : KN) : pyOf (kD p) = some (.tuple [.int p.1, .int p.2]) := by
  unfold kD
  simp [pyOf, pyAll]
theorem pyD_kD (p : KN) : pyD (kD p) = .tuple [.int p.1, .int p.2] := by
  unfold pyD
  rw [py_kD]
  rfl
theorem leD_kD (p q : KN) : leN p q = leD (kD p) (kD q) := by
  have e : leD (kD p) (kD q) = PySem.W.dataLe false (fun b : KN => pyD (kD b)) p q := rfl
  have f : (fun b : KN => pyD (kD b)) = fun b : KN => .tuple [.int b.1, .int (b.2 : Int)] := funext pyD_kD
  rw [e, f, PySem.W.dataLe_ii]
  rfl
theorem sort_kD (ns : List KN) : (ns.map kD).mergeSort leD = (ns.mergeSort leN).map kD := (List.map_mergeSort fun a _ b _ => leD_kD a b).symm
theorem ok_kD (ns : List KN) : sortOk (ns.map kD) = true := by
  have hm : ∀ d ∈ ns.map kD, ∃ p, d = kD p := fun d hd => by
    obtain ⟨p, _, rfl⟩ := List.mem_map.mp hd
    exact ⟨p, rfl⟩
  unfold sortOk
  simp only [Bool.and_eq_true, Bool.or_eq_true, List.all_eq_true, decide_eq_true_eq]
  refine ⟨fun d hd => ?_, fun d hd e he => ?_, .inl fun d hd => ?_⟩
  · obtain ⟨p, rfl⟩ := hm d hd
    rw [pyD_kD, py_kD]
    exact ⟨rfl, by simp [PyData.depth, PyData.depthAll]⟩
  · obtain ⟨p, rfl⟩ := hm d hd
    obtain ⟨q, rfl⟩ := hm e he
    rw [pyD_kD, pyD_kD]
    rfl
  · obtain ⟨p, rfl⟩ := hm d hd
    rw [pyD_kD]
theorem leN_trans (a b c : KN) (h1 : leN a b = true) (h2 : leN b c = true) : leN a c = true := by
  unfold leN at *
  simp only [decide_eq_true_eq] at *
  omega
theorem leN_total (a b : KN) : (leN a b || leN b a) = true := by
  unfold leN
  simp only [Bool.or_eq_true, decide_eq_true_eq]
  omega
def known (rs : List Row) : List KN := (rs.zipIdx.filter fun p => p.1.1.isSome).map fun p => (p.1.1.getD 0, p.2)
def sortedS (rs : List Row) : List Row := ((known rs).mergeSort leN).map (fun p => rs.getD p.2 (none, none)) ++ rs.filter fun r => r.1.isNone
theorem known_mem {rs : List Row} {p : KN} (h : p ∈ known rs) : p.2 < rs.length ∧ (rs.getD p.2 (none, none)).1 = some p.1 := by
  obtain ⟨⟨r, n⟩, hq, rfl⟩ := List.mem_map.mp h
  obtain ⟨h1, h2⟩ := List.mem_filter.mp hq
  rw [List.mem_zipIdx_iff_getElem?] at h1
  simp only at h1 h2 ⊢
  obtain ⟨hl, he⟩ := List.getElem?_eq_some_iff.mp h1
  refine ⟨hl, ?_⟩
  rw [List.getD_eq_getElem?_getD, h1]
  show r.1 = _
  obtain ⟨w, hw⟩ := Option.isSome_iff_exists.mp h2
  rw [hw]
  rfl
theorem enum_zip (xs : List Row) : ∀ k : Nat, enumL k (xs.map rowD) = (xs.zipIdx k).map fun p => .tup [.int (p.2 : Nat), rowD p.1] := by
  induction xs with
  | nil => intro _; rfl
  | cons x xs ih =>
    intro k
    rw [List.map_cons, enumL_cons, ih, List.zipIdx_cons, List.map_cons]
theorem known_len (rs : List Row) : ∀ k : Nat, ((rs.zipIdx k).filter fun p => p.1.1.isSome).length + (rs.filter fun r => r.1.isNone).length = rs.length := by
  induction rs with
  | nil => intro _; rfl
  | cons r rs ih =>
    intro k
    rw [List.zipIdx_cons]
    cases h : r.1 with
    | none =>
      rw [List.filter_cons_of_neg (by simp [h]), List.filter_cons_of_pos (by simp [h]), List.length_cons, List.length_cons, ← ih (k + 1)]
      omega
    | some w =>
      rw [List.filter_cons_of_pos (by simp [h]), List.filter_cons_of_neg (by simp [h]), List.length_cons, List.length_cons, ← ih (k + 1)]
      omega
theorem sortedS_len (rs : List Row) : (sortedS rs).length = rs.length := by
  unfold sortedS known
  rw [List.length_append, List.length_map, List.length_mergeSort, List.length_map]
  exact known_len rs 0
theorem sortedS_mem {rs : List Row} {r : Row} (h : r ∈ sortedS rs) : r ∈ rs := by
  unfold sortedS at h
  rcases List.mem_append.mp h with h | h
  · obtain ⟨p, hp, rfl⟩ := List.mem_map.mp h
    have := known_mem (List.mem_mergeSort.mp hp)
    rw [List.getD_eq_getElem?_getD, List.getElem?_eq_getElem this.1]
    exact List.getElem_mem _
  · exact (List.mem_filter.mp h).1
theorem sorted_wp {rs : List Row} (hl : rs.length ≤ 60) : wpM (φ__law_sorted_sheet [.lst (rs.map rowD)]) Q E cs = Q (sheetD (sortedS rs)) cs := by
  simp only [φ__law_sorted_sheet, d__law_sorted_sheet, ↓reduceIte, decide_eq_true_eq, decide_true, decide_false, Bool.not_true, Bool.not_false, Bool.false_eq_true, true_and, and_true, eq_self, Bool.true_eq_false, reduceCtorEq, Bool.true_and, Bool.false_and, Bool.and_true, Bool.and_false, Option.isSome_some, Option.isSome_none, Option.isNone_some, Option.isNone_none, Int.cast_ofNat_Int, Nat.reduceAdd, Nat.reduceSub, Nat.reduceLT, Nat.reduceLeDiff, Nat.reduceEqDiff, Int.reduceLT, Int.reduceLE, Int.reduceEq, Int.reduceNeg, Int.reduceToNat, Int.reducePow, Int.reduceAdd, Int.reduceSub, List.length_cons, List.length_nil, Option.bind_some, ↓Dn.sxd, Dn.sxp, Dn.leaveW, Dn.turnW, Dn.outR, Dn.bName, Dn.bTup, Dn.bCons, Dn.bNil, Dn.wipeD, Dn.ite_ap]
  rw [enum_zip, compL_pure (α := Row × Nat) (fun p => .tup [.int (p.2 : Nat), rowD p.1]) (fun p => p.1.1.isSome) (fun p => kD (p.1.1.getD 0, p.2)) rs.zipIdx fun p hp => ⟨_, rfl, fun Q E => by simp only [↓reduceIte, decide_eq_true_eq, decide_true, decide_false, Bool.not_true, Bool.not_false, Bool.false_eq_true, true_and, and_true, eq_self, Bool.true_eq_false, reduceCtorEq, Bool.true_and, Bool.false_and, Bool.and_true, Bool.and_false, Option.isSome_some, Option.isSome_none, Option.isNone_some, Option.isNone_none, Int.cast_ofNat_Int, Nat.reduceAdd, Nat.reduceSub, Nat.reduceLT, Nat.reduceLeDiff, Nat.reduceEqDiff, Int.reduceLT, Int.reduceLE, Int.reduceEq, Int.reduceNeg, Int.reduceToNat, Int.reducePow, Int.reduceAdd, Int.reduceSub, List.length_cons, List.length_nil, Option.bind_some, ↓Dn.sxd, Dn.sxp, Dn.leaveW, Dn.turnW, Dn.outR, Dn.bName, Dn.bTup, Dn.bCons, Dn.bNil, Dn.wipeD, Dn.ite_ap, w_row0], fun hs Q E => by
    obtain ⟨w, hw⟩ := Option.isSome_iff_exists.mp hs
    simp only [↓reduceIte, decide_eq_true_eq, decide_true, decide_false, Bool.not_true, Bool.not_false, Bool.false_eq_true, true_and, and_true, eq_self, Bool.true_eq_false, reduceCtorEq, Bool.true_and, Bool.false_and, Bool.and_true, Bool.and_false, Option.isSome_some, Option.isSome_none, Option.isNone_some, Option.isNone_none, Int.cast_ofNat_Int, Nat.reduceAdd, Nat.reduceSub, Nat.reduceLT, Nat.reduceLeDiff, Nat.reduceEqDiff, Int.reduceLT, Int.reduceLE, Int.reduceEq, Int.reduceNeg, Int.reduceToNat, Int.reducePow, Int.reduceAdd, Int.reduceSub, List.length_cons, List.length_nil, Option.bind_some, ↓Dn.sxd, Dn.sxp, Dn.leaveW, Dn.turnW, Dn.outR, Dn.bName, Dn.bTup, Dn.bCons, Dn.bNil, Dn.wipeD, Dn.ite_ap, w_row0, hw, optI_some, Option.getD, kD]⟩]
  rw [show (rs.zipIdx.filter fun p => p.1.1.isSome).map (fun p => kD (p.1.1.getD 0, p.2)) = (known rs).map kD by unfold known; rw [List.map_map]; rfl]
  have kl : (known rs).length ≤ 60 := by
    have := known_len rs 0
    unfold known
    rw [List.length_map]
    omega
  have f1 : few ((known rs).map kD) = true := few_le (by rw [List.length_map]; omega)
  have f2 : few (((known rs).mergeSort leN).map kD) = true := few_le (by rw [List.length_map, List.length_mergeSort]; omega)
  simp only [↓reduceIte, decide_eq_true_eq, decide_true, decide_false, Bool.not_true, Bool.not_false, Bool.false_eq_true, true_and, and_true, eq_self, Bool.true_eq_false, reduceCtorEq, Bool.true_and, Bool.false_and, Bool.and_true, Bool.and_false, Option.isSome_some, Option.isSome_none, Option.isNone_some, Option.isNone_none, Int.cast_ofNat_Int, Nat.reduceAdd, Nat.reduceSub, Nat.reduceLT, Nat.reduceLeDiff, Nat.reduceEqDiff, Int.reduceLT, Int.reduceLE, Int.reduceEq, Int.reduceNeg, Int.reduceToNat, Int.reducePow, Int.reduceAdd, Int.reduceSub, List.length_cons, List.length_nil, Option.bind_some, ↓Dn.sxd, Dn.sxp, Dn.leaveW, Dn.turnW, Dn.outR, Dn.bName, Dn.bTup, Dn.bCons, Dn.bNil, Dn.wipeD, Dn.ite_ap, f1, ok_kD, sort_kD, f2]
  rw [compL_pure kD (fun _ => true) (fun p => rowD (rs.getD p.2 (none, none))) _ fun p hp => ⟨_, rfl, fun Q E => rfl, fun _ Q E => by
    have := (known_mem (List.mem_mergeSort.mp hp)).1
    have e : atI (rs.map rowD) ((p.2 : Nat) : Int) = some (rowD (rs.getD p.2 (none, none))) := atI_nat (by rw [List.getElem?_map, List.getD_eq_getElem?_getD, List.getElem?_eq_getElem this]; rfl)
    simp only [↓reduceIte, decide_eq_true_eq, decide_true, decide_false, Bool.not_true, Bool.not_false, Bool.false_eq_true, true_and, and_true, eq_self, Bool.true_eq_false, reduceCtorEq, Bool.true_and, Bool.false_and, Bool.and_true, Bool.and_false, Option.isSome_some, Option.isSome_none, Option.isNone_some, Option.isNone_none, Int.cast_ofNat_Int, Nat.reduceAdd, Nat.reduceSub, Nat.reduceLT, Nat.reduceLeDiff, Nat.reduceEqDiff, Int.reduceLT, Int.reduceLE, Int.reduceEq, Int.reduceNeg, Int.reduceToNat, Int.reducePow, Int.reduceAdd, Int.reduceSub, List.length_cons, List.length_nil, Option.bind_some, ↓Dn.sxd, Dn.sxp, Dn.leaveW, Dn.turnW, Dn.outR, Dn.bName, Dn.bTup, Dn.bCons, Dn.bNil, Dn.wipeD, Dn.ite_ap, w_ixL e]⟩]
  rw [filter_true]
  have f3 : few (((known rs).mergeSort leN).map fun p => rowD (rs.getD p.2 (none, none))) = true := few_le (by rw [List.length_map, List.length_mergeSort]; omega)
  simp only [↓reduceIte, decide_eq_true_eq, decide_true, decide_false, Bool.not_true, Bool.not_false, Bool.false_eq_true, true_and, and_true, eq_self, Bool.true_eq_false, reduceCtorEq, Bool.true_and, Bool.false_and, Bool.and_true, Bool.and_false, Option.isSome_some, Option.isSome_none, Option.isNone_some, Option.isNone_none, Int.cast_ofNat_Int, Nat.reduceAdd, Nat.reduceSub, Nat.reduceLT, Nat.reduceLeDiff, Nat.reduceEqDiff, Int.reduceLT, Int.reduceLE, Int.reduceEq, Int.reduceNeg, Int.reduceToNat, Int.reducePow, Int.reduceAdd, Int.reduceSub, List.length_cons, List.length_nil, Option.bind_some, ↓Dn.sxd, Dn.sxp, Dn.leaveW, Dn.turnW, Dn.outR, Dn.bName, Dn.bTup, Dn.bCons, Dn.bNil, Dn.wipeD, Dn.ite_ap, f3]
  rw [compL_pure rowD (fun r => r.1.isNone) rowD rs fun r hr => ⟨_, rfl, fun Q E => by simp only [↓reduceIte, decide_eq_true_eq, decide_true, decide_false, Bool.not_true, Bool.not_false, Bool.false_eq_true, true_and, and_true, eq_self, Bool.true_eq_false, reduceCtorEq, Bool.true_and, Bool.false_and, Bool.and_true, Bool.and_false, Option.isSome_some, Option.isSome_none, Option.isNone_some, Option.isNone_none, Int.cast_ofNat_Int, Nat.reduceAdd, Nat.reduceSub, Nat.reduceLT, Nat.reduceLeDiff, Nat.reduceEqDiff, Int.reduceLT, Int.reduceLE, Int.reduceEq, Int.reduceNeg, Int.reduceToNat, Int.reducePow, Int.reduceAdd, Int.reduceSub, List.length_cons, List.length_nil, Option.bind_some, ↓Dn.sxd, Dn.sxp, Dn.leaveW, Dn.turnW, Dn.outR, Dn.bName, Dn.bTup, Dn.bCons, Dn.bNil, Dn.wipeD, Dn.ite_ap, w_row0], fun _ Q E => by simp only [↓reduceIte, decide_eq_true_eq, decide_true, decide_false, Bool.not_true, Bool.not_false, Bool.false_eq_true, true_and, and_true, eq_self, Bool.true_eq_false, reduceCtorEq, Bool.true_and, Bool.false_and, Bool.and_true, Bool.and_false, Option.isSome_some, Option.isSome_none, Option.isNone_some, Option.isNone_none, Int.cast_ofNat_Int, Nat.reduceAdd, Nat.reduceSub, Nat.reduceLT, Nat.reduceLeDiff, Nat.reduceEqDiff, Int.reduceLT, Int.reduceLE, Int.reduceEq, Int.reduceNeg, Int.reduceToNat, Int.reducePow, Int.reduceAdd, Int.reduceSub, List.length_cons, List.length_nil, Option.bind_some, ↓Dn.sxd, Dn.sxp, Dn.leaveW, Dn.turnW, Dn.outR, Dn.bName, Dn.bTup, Dn.bCons, Dn.bNil, Dn.wipeD, Dn.ite_ap]⟩]
  have f4 : few ((rs.filter fun r => r.1.isNone).map rowD) = true := few_le (by rw [List.length_map]; have := List.length_filter_le (fun r : Row => r.1.isNone) rs; omega)
  have e5 : ((known rs).mergeSort leN).map (fun p => rowD (rs.getD p.2 (none, none))) ++ (rs.filter fun r => r.1.isNone).map rowD = (sortedS rs).map rowD := by
    unfold sortedS
    rw [List.map_append, List.map_map]
    rfl
  have f5 : few ((sortedS rs).map rowD) = true := few_le (by rw [List.length_map, sortedS_len]; omega)
  simp only [↓reduceIte, decide_eq_true_eq, decide_true, decide_false, Bool.not_true, Bool.not_false, Bool.false_eq_true, true_and, and_true, eq_self, Bool.true_eq_false, reduceCtorEq, Bool.true_and, Bool.false_and, Bool.and_true, Bool.and_false, Option.isSome_some, Option.isSome_none, Option.isNone_some, Option.isNone_none, Int.cast_ofNat_Int, Nat.reduceAdd, Nat.reduceSub, Nat.reduceLT, Nat.reduceLeDiff, Nat.reduceEqDiff, Int.reduceLT, Int.reduceLE, Int.reduceEq, Int.reduceNeg, Int.reduceToNat, Int.reducePow, Int.reduceAdd, Int.reduceSub, List.length_cons, List.length_nil, Option.bind_some, ↓Dn.sxd, Dn.sxp, Dn.leaveW, Dn.turnW, Dn.outR, Dn.bName, Dn.bTup, Dn.bCons, Dn.bNil, Dn.wipeD, Dn.ite_ap, f4, e5, f5]
  rfl
end
/-- a sheet so made is right -/
theorem errFrom_ok {s : List Row} (h : ∀ r ∈ s, RowOk r) (hb : ∀ k, k + 1 < s.length → behind (s.getD (k + 1) (none, none)).1 (s.getD k (none, none)).1 = true) : ∀ (k : Nat) (rs : List Row), s.drop k = rs → errFrom s k rs = none
  | _, [], _ => rfl
  | k, r :: rs, e => by
    obtain ⟨hk, e2⟩ := drop_cons e
    have hr : s.getD k (none, none) = r := by
      rw [List.drop_eq_getElem_cons hk] at e
      rw [List.getD_eq_getElem?_getD, List.getElem?_eq_getElem hk]
      exact (List.cons.inj e).1
    have hm : r ∈ s := by
      rw [← hr, List.getD_eq_getElem?_getD, List.getElem?_eq_getElem hk]
      exact List.getElem_mem _
    have hw : rowWord r = none := by
      unfold rowWord
      rw [(h r hm).1, (h r hm).2]
      rfl
    have hn : wordAt s k r = none := by
      unfold wordAt
      rw [hw]
      simp only
      rw [if_neg]
      rintro ⟨h0, h1⟩
      have := hb (k - 1) (by omega)
      rw [show k - 1 + 1 = k by omega, hr, h1] at this
      cases this
    rw [errFrom_cons, hn]
    exact errFrom_ok h hb (k + 1) rs e2
theorem sorted_ok {rs : List Row} (hl : rs.length ≤ 60) (h : ∀ r ∈ rs, RowOk r) : sheetErr (sortedS rs) = none := by
  unfold sheetErr
  rw [if_neg (by rw [sortedS_len]; omega), errFrom_ok (fun r hr => h r (sortedS_mem hr)) (fun k hk => ?_) 0 (sortedS rs) rfl]
  · rfl
  have hp := List.pairwise_mergeSort leN_trans leN_total (known rs)
  generalize hq : (known rs).mergeSort leN = ks at hp
  have hks : ∀ p ∈ ks, (rs.getD p.2 (none, none)).1 = some p.1 := fun p hp => (known_mem (List.mem_mergeSort.mp (hq ▸ hp))).2
  have es : sortedS rs = ks.map (fun p => rs.getD p.2 (none, none)) ++ rs.filter fun r => r.1.isNone := by unfold sortedS; rw [hq]
  rw [es] at hk ⊢
  by_cases hk1 : k + 1 < ks.length
  · have g1 : ((ks.map (fun p => rs.getD p.2 (none, none)) ++ rs.filter fun r => r.1.isNone).getD (k + 1) (none, none)) = rs.getD (ks[k + 1]).2 (none, none) := by
      rw [List.getD_eq_getElem?_getD, List.getElem?_append_left (by rw [List.length_map]; exact hk1), List.getElem?_map, List.getElem?_eq_getElem hk1]
      rfl
    have g0 : ((ks.map (fun p => rs.getD p.2 (none, none)) ++ rs.filter fun r => r.1.isNone).getD k (none, none)) = rs.getD (ks[k]).2 (none, none) := by
      rw [List.getD_eq_getElem?_getD, List.getElem?_append_left (by rw [List.length_map]; omega), List.getElem?_map, List.getElem?_eq_getElem (by omega)]
      rfl
    rw [g1, g0, hks _ (List.getElem_mem _), hks _ (List.getElem_mem _)]
    have := List.pairwise_iff_getElem.mp hp k (k + 1) (by omega) hk1 (by omega)
    unfold leN at this
    simp only [decide_eq_true_eq] at this
    show decide _ = true
    rw [decide_eq_true_eq]
    omega
  · have g1 : ((ks.map (fun p => rs.getD p.2 (none, none)) ++ rs.filter fun r => r.1.isNone).getD (k + 1) (none, none)).1 = none := by
      rw [List.getD_eq_getElem?_getD, List.getElem?_append_right (by rw [List.length_map]; omega), List.length_map]
      rw [List.length_append, List.length_map] at hk
      rw [List.getElem?_eq_getElem (by omega)]
      have := (List.mem_filter.mp (List.getElem_mem (l := rs.filter fun r => r.1.isNone) (n := k + 1 - ks.length) (by omega))).2
      simpa using this
    rw [g1]
    rfl
end K67

end
set_option maxHeartbeats 4000000
section
namespace K67
open PySem PySem.Spec PyProof.Rows L2 Dn

/-! ### a sheet of the deck -/
def SheetOk (s : List Row) : Prop := s.length ≤ 60 ∧ (∀ r ∈ s, RowOk r) ∧ sheetErr s = none
def PSh (many : Nat) (xs acc : List D) (cs : CS) : Prop := DeckOk [] cs ∧ ∃ rs : List Row, acc = rs.map rowD ∧ (∀ r ∈ rs, RowOk r) ∧ xs.length + rs.length ≤ many
section
variable {Q : D → CS → Prop} {E : XM} {cs : CS}
theorem lsheet_wp {many : Nat} (hm : many ≤ 60) (hd : DeckOk [] cs) (k : ∀ s cs', SheetOk s → DeckOk [] cs' → Q (sheetD s) cs') : wpM (φ__law_sheet [.cell 0, .int many]) Q E cs := by
  simp only [φ__law_sheet, d__law_sheet, ↓reduceIte, decide_eq_true_eq, decide_true, decide_false, Bool.not_true, Bool.not_false, Bool.false_eq_true, true_and, and_true, eq_self, Bool.true_eq_false, reduceCtorEq, Bool.true_and, Bool.false_and, Bool.and_true, Bool.and_false, Option.isSome_some, Option.isSome_none, Option.isNone_some, Option.isNone_none, Int.cast_ofNat_Int, Nat.reduceAdd, Nat.reduceSub, Nat.reduceLT, Nat.reduceLeDiff, Nat.reduceEqDiff, Int.reduceLT, Int.reduceLE, Int.reduceEq, Int.reduceNeg, Int.reduceToNat, Int.reducePow, Int.reduceAdd, Int.reduceSub, List.length_cons, List.length_nil, Option.bind_some, ↓Dn.sxd, Dn.sxp, Dn.leaveW, Dn.turnW, Dn.outR, Dn.bName, Dn.bTup, Dn.bCons, Dn.bNil, Dn.wipeD, Dn.ite_ap]
  refine pick_wp hd (by simp) (by simp) fun d hm1 cs1 hd1 => ?_
  obtain ⟨share, rfl, h0, h1⟩ : ∃ share : Int, d = .int share ∧ 0 < share ∧ share ≤ 1000000000000000000000000000000000000000 := by
    simp only [List.mem_cons, List.not_mem_nil, or_false] at hm1
    rcases hm1 with rfl | rfl | rfl | rfl <;> exact ⟨_, rfl, by decide, by decide⟩
  simp only [↓reduceIte, decide_eq_true_eq, decide_true, decide_false, Bool.not_true, Bool.not_false, Bool.false_eq_true, true_and, and_true, eq_self, Bool.true_eq_false, reduceCtorEq, Bool.true_and, Bool.false_and, Bool.and_true, Bool.and_false, Option.isSome_some, Option.isSome_none, Option.isNone_some, Option.isNone_none, Int.cast_ofNat_Int, Nat.reduceAdd, Nat.reduceSub, Nat.reduceLT, Nat.reduceLeDiff, Nat.reduceEqDiff, Int.reduceLT, Int.reduceLE, Int.reduceEq, Int.reduceNeg, Int.reduceToNat, Int.reducePow, Int.reduceAdd, Int.reduceSub, List.length_cons, List.length_nil, Option.bind_some, ↓Dn.sxd, Dn.sxp, Dn.leaveW, Dn.turnW, Dn.outR, Dn.bName, Dn.bTup, Dn.bCons, Dn.bNil, Dn.wipeD, Dn.ite_ap]
  refine take_wp (m := (many : Int) + 1) hd1 (by omega) (by omega) fun t cs2 t0 t1 hd2 => ?_
  have hr : rngOk 0 t = true := by
    unfold rngOk
    simp only [Bool.and_eq_true, decide_eq_true_eq]
    omega
  simp only [↓reduceIte, decide_eq_true_eq, decide_true, decide_false, Bool.not_true, Bool.not_false, Bool.false_eq_true, true_and, and_true, eq_self, Bool.true_eq_false, reduceCtorEq, Bool.true_and, Bool.false_and, Bool.and_true, Bool.and_false, Option.isSome_some, Option.isSome_none, Option.isNone_some, Option.isNone_none, Int.cast_ofNat_Int, Nat.reduceAdd, Nat.reduceSub, Nat.reduceLT, Nat.reduceLeDiff, Nat.reduceEqDiff, Int.reduceLT, Int.reduceLE, Int.reduceEq, Int.reduceNeg, Int.reduceToNat, Int.reducePow, Int.reduceAdd, Int.reduceSub, List.length_cons, List.length_nil, Option.bind_some, ↓Dn.sxd, Dn.sxp, Dn.leaveW, Dn.turnW, Dn.outR, Dn.bName, Dn.bTup, Dn.bCons, Dn.bNil, Dn.wipeD, Dn.ite_ap, hr]
  refine wpM_compL (PSh many) ?_ _ [] _ _ ⟨hd2, [], rfl, (fun _ h => by simp at h), by rw [upTo_length]; simp; omega⟩ ?_
  · rintro x xs acc cs ⟨hd, rs, rfl, hrs, hl⟩
    refine ⟨_, rfl, ?_⟩
    simp only [↓reduceIte, decide_eq_true_eq, decide_true, decide_false, Bool.not_true, Bool.not_false, Bool.false_eq_true, true_and, and_true, eq_self, Bool.true_eq_false, reduceCtorEq, Bool.true_and, Bool.false_and, Bool.and_true, Bool.and_false, Option.isSome_some, Option.isSome_none, Option.isNone_some, Option.isNone_none, Int.cast_ofNat_Int, Nat.reduceAdd, Nat.reduceSub, Nat.reduceLT, Nat.reduceLeDiff, Nat.reduceEqDiff, Int.reduceLT, Int.reduceLE, Int.reduceEq, Int.reduceNeg, Int.reduceToNat, Int.reducePow, Int.reduceAdd, Int.reduceSub, List.length_cons, List.length_nil, Option.bind_some, ↓Dn.sxd, Dn.sxp, Dn.leaveW, Dn.turnW, Dn.outR, Dn.bName, Dn.bTup, Dn.bCons, Dn.bNil, Dn.wipeD, Dn.ite_ap]
    refine lworth_wp hd h0 h1 fun o cs3 ho hd3 => ?_
    simp only [↓reduceIte, decide_eq_true_eq, decide_true, decide_false, Bool.not_true, Bool.not_false, Bool.false_eq_true, true_and, and_true, eq_self, Bool.true_eq_false, reduceCtorEq, Bool.true_and, Bool.false_and, Bool.and_true, Bool.and_false, Option.isSome_some, Option.isSome_none, Option.isNone_some, Option.isNone_none, Int.cast_ofNat_Int, Nat.reduceAdd, Nat.reduceSub, Nat.reduceLT, Nat.reduceLeDiff, Nat.reduceEqDiff, Int.reduceLT, Int.reduceLE, Int.reduceEq, Int.reduceNeg, Int.reduceToNat, Int.reducePow, Int.reduceAdd, Int.reduceSub, List.length_cons, List.length_nil, Option.bind_some, ↓Dn.sxd, Dn.sxp, Dn.leaveW, Dn.turnW, Dn.outR, Dn.bName, Dn.bTup, Dn.bCons, Dn.bNil, Dn.wipeD, Dn.ite_ap]
    refine lvalue_wp hd3 fun p cs4 hp hd4 => ?_
    simp only [↓reduceIte, decide_eq_true_eq, decide_true, decide_false, Bool.not_true, Bool.not_false, Bool.false_eq_true, true_and, and_true, eq_self, Bool.true_eq_false, reduceCtorEq, Bool.true_and, Bool.false_and, Bool.and_true, Bool.and_false, Option.isSome_some, Option.isSome_none, Option.isNone_some, Option.isNone_none, Int.cast_ofNat_Int, Nat.reduceAdd, Nat.reduceSub, Nat.reduceLT, Nat.reduceLeDiff, Nat.reduceEqDiff, Int.reduceLT, Int.reduceLE, Int.reduceEq, Int.reduceNeg, Int.reduceToNat, Int.reducePow, Int.reduceAdd, Int.reduceSub, List.length_cons, List.length_nil, Option.bind_some, ↓Dn.sxd, Dn.sxp, Dn.leaveW, Dn.turnW, Dn.outR, Dn.bName, Dn.bTup, Dn.bCons, Dn.bNil, Dn.wipeD, Dn.ite_ap]
    rw [show rs.map rowD ++ [D.tup [optI o, optI p]] = (rs ++ [(o, p)]).map rowD by rw [List.map_append]; rfl]
    refine ⟨hd4, _, rfl, fun r hr => ?_, by rw [List.length_append]; rw [List.length_cons] at hl; simp; omega⟩
    rcases List.mem_append.mp hr with hr | hr
    · exact hrs r hr
    · rw [List.mem_singleton.mp hr]
      exact ⟨ho, hp⟩
  · rintro ys cs3 ⟨hd, rs, e, hrs, hl⟩
    rw [List.nil_append] at e
    subst e
    have hl : rs.length ≤ 60 := by rw [List.length_nil] at hl; omega
    have hf : few (rs.map rowD) = true := few_le (by rw [List.length_map]; omega)
    simp only [↓reduceIte, decide_eq_true_eq, decide_true, decide_false, Bool.not_true, Bool.not_false, Bool.false_eq_true, true_and, and_true, eq_self, Bool.true_eq_false, reduceCtorEq, Bool.true_and, Bool.false_and, Bool.and_true, Bool.and_false, Option.isSome_some, Option.isSome_none, Option.isNone_some, Option.isNone_none, Int.cast_ofNat_Int, Nat.reduceAdd, Nat.reduceSub, Nat.reduceLT, Nat.reduceLeDiff, Nat.reduceEqDiff, Int.reduceLT, Int.reduceLE, Int.reduceEq, Int.reduceNeg, Int.reduceToNat, Int.reducePow, Int.reduceAdd, Int.reduceSub, List.length_cons, List.length_nil, Option.bind_some, ↓Dn.sxd, Dn.sxp, Dn.leaveW, Dn.turnW, Dn.outR, Dn.bName, Dn.bTup, Dn.bCons, Dn.bNil, Dn.wipeD, Dn.ite_ap, hf, sorted_wp hl]
    exact k _ _ ⟨by rw [sortedS_len]; exact hl, fun r hr => hrs r (sortedS_mem hr), sorted_ok hl hrs⟩ hd
/-! ### a text torn -/
def strB (n : Nat) : D → Bool
  | .str z => decide (Asc z) && decide (z.length ≤ n)
  | _ => false
theorem strB_ok {n : Nat} {d : D} (h : strB n d = true) : ∃ z, d = .str z ∧ Asc z ∧ z.length ≤ n := by
  cases d with
  | str z =>
    unfold strB at h
    simp only [Bool.and_eq_true, decide_eq_true_eq] at h
    exact ⟨z, rfl, h.1, h.2⟩
  | _ => cases h
theorem ltorn_wp {x : Str} {n : Nat} (ha : Asc x) (hx : x.length ≤ n) (hn : n ≤ 100000) (hd : DeckOk [] cs) (k : ∀ y cs', Asc y → y.length ≤ 3 * n + 10 → DeckOk [] cs' → Q (.str y) cs') : wpM (φ__law_torn [.cell 0, .str x]) Q E cs := by
  have sz : x.length ≤ sizeLine := by rw [sizeLine_eq]; omega
  simp only [φ__law_torn, d__law_torn, ↓reduceIte, decide_eq_true_eq, decide_true, decide_false, Bool.not_true, Bool.not_false, Bool.false_eq_true, true_and, and_true, eq_self, Bool.true_eq_false, reduceCtorEq, Bool.true_and, Bool.false_and, Bool.and_true, Bool.and_false, Option.isSome_some, Option.isSome_none, Option.isNone_some, Option.isNone_none, Int.cast_ofNat_Int, Nat.reduceAdd, Nat.reduceSub, Nat.reduceLT, Nat.reduceLeDiff, Nat.reduceEqDiff, Int.reduceLT, Int.reduceLE, Int.reduceEq, Int.reduceNeg, Int.reduceToNat, Int.reducePow, Int.reduceAdd, Int.reduceSub, List.length_cons, List.length_nil, Option.bind_some, ↓Dn.sxd, Dn.sxp, Dn.leaveW, Dn.turnW, Dn.outR, Dn.bName, Dn.bTup, Dn.bCons, Dn.bNil, Dn.wipeD, Dn.ite_ap, sz]
  refine take_wpN (m := x.length + 1) hd (by omega) (by omega) fun t cs1 ht hd1 => ?_
  simp only [↓reduceIte, decide_eq_true_eq, decide_true, decide_false, Bool.not_true, Bool.not_false, Bool.false_eq_true, true_and, and_true, eq_self, Bool.true_eq_false, reduceCtorEq, Bool.true_and, Bool.false_and, Bool.and_true, Bool.and_false, Option.isSome_some, Option.isSome_none, Option.isNone_some, Option.isNone_none, Int.cast_ofNat_Int, Nat.reduceAdd, Nat.reduceSub, Nat.reduceLT, Nat.reduceLeDiff, Nat.reduceEqDiff, Int.reduceLT, Int.reduceLE, Int.reduceEq, Int.reduceNeg, Int.reduceToNat, Int.reducePow, Int.reduceAdd, Int.reduceSub, List.length_cons, List.length_nil, Option.bind_some, ↓Dn.sxd, Dn.sxp, Dn.leaveW, Dn.turnW, Dn.outR, Dn.bName, Dn.bTup, Dn.bCons, Dn.bNil, Dn.wipeD, Dn.ite_ap]
  refine ⟨few_le (by simp), pick_wp hd1 (by simp) (by simp) fun d hm cs2 hd2 => ?_⟩
  obtain ⟨z, rfl, z1, z2⟩ := strB_ok (n := 6) (List.all_eq_true.mp (by decide +kernel) d hm)
  have c1 := cut_len x none (some t)
  have c2 := cut_len x (some t) none
  have c3 := cut_len x (some ((t : Int) + 1)) none
  have l1 : (" " : Str).length = 1 := by decide +kernel
  have l2 : (" 1" : Str).length = 2 := by decide +kernel
  have l3 : ("\n" : Str).length = 1 := by decide +kernel
  have l4 : (" 1:1" : Str).length = 4 := by decide +kernel
  have l5 : ("  " : Str).length = 2 := by decide +kernel
  have l6 : (" :" : Str).length = 2 := by decide +kernel
  simp only [↓reduceIte, decide_eq_true_eq, decide_true, decide_false, Bool.not_true, Bool.not_false, Bool.false_eq_true, true_and, and_true, eq_self, Bool.true_eq_false, reduceCtorEq, Bool.true_and, Bool.false_and, Bool.and_true, Bool.and_false, Option.isSome_some, Option.isSome_none, Option.isNone_some, Option.isNone_none, Int.cast_ofNat_Int, Nat.reduceAdd, Nat.reduceSub, Nat.reduceLT, Nat.reduceLeDiff, Nat.reduceEqDiff, Int.reduceLT, Int.reduceLE, Int.reduceEq, Int.reduceNeg, Int.reduceToNat, Int.reducePow, Int.reduceAdd, Int.reduceSub, List.length_cons, List.length_nil, Option.bind_some, ↓Dn.sxd, Dn.sxp, Dn.leaveW, Dn.turnW, Dn.outR, Dn.bName, Dn.bTup, Dn.bCons, Dn.bNil, Dn.wipeD, Dn.ite_ap, sz, Str.length_append, l1, l2, l3, l4, l5, l6]
  rw [sizeLine_eq]
  refine ⟨by omega, by omega, by omega, by omega, by omega, by omega, by omega, by omega, by omega, by omega, by omega, by omega, few_le (by simp), ?_⟩
  refine pick_wp hd2 (by simp) (by simp) fun d hm cs3 hd3 => ?_
  have b1 : Asc " " := by decide +kernel
  have b2 : Asc " 1" := by decide +kernel
  have b3 : Asc "\n" := by decide +kernel
  have b4 : Asc " 1:1" := by decide +kernel
  have b5 : Asc "  " := by decide +kernel
  have b6 : Asc " :" := by decide +kernel
  have e1 : (" " : Str) = ⟨#[32]⟩ := by decide +kernel
  have e2 : (":" : Str) = ⟨#[58]⟩ := by decide +kernel
  have r1 := TK.replace_len x " " "  "
  have r2 := TK.replace_len x ":" " :"
  rw [l5] at r1
  rw [l6] at r2
  simp only [List.mem_cons, List.mem_append, List.not_mem_nil, or_false] at hm
  rcases hm with (rfl | rfl | rfl | rfl | rfl | rfl) | (rfl | rfl | rfl | rfl | rfl | rfl)
  · exact k _ _ (((ha.cut _ _).app z1).app (ha.cut _ _)) (by rw [Str.length_append, Str.length_append]; omega) hd3
  · exact k _ _ (((ha.cut _ _).app z1).app (ha.cut _ _)) (by rw [Str.length_append, Str.length_append]; omega) hd3
  · exact k _ _ (ha.cut _ _) (by omega) hd3
  · exact k _ _ (ha.app b1) (by rw [Str.length_append]; omega) hd3
  · exact k _ _ (b1.app ha) (by rw [Str.length_append]; omega) hd3
  · exact k _ _ (ha.cut _ _) (by omega) hd3
  · exact k _ _ (by rw [e1]; exact ha.repl b5) (by omega) hd3
  · exact k _ _ (ha.app b2) (by rw [Str.length_append]; omega) hd3
  · exact k _ _ ha.upper.1 (by rw [ha.upper.2]; omega) hd3
  · exact k _ _ (ha.app b3) (by rw [Str.length_append]; omega) hd3
  · exact k _ _ (by rw [e2]; exact ha.repl b6) (by omega) hd3
  · exact k _ _ (ha.app b4) (by rw [Str.length_append]; omega) hd3
/-! ### what is no text -/
theorem lodd_wp (hd : DeckOk [] cs) (k : ∀ d cs', kindOk d = true → DeckOk [] cs' → Q d cs') : wpM (φ__law_odd_thing [.cell 0]) Q E cs := by
  simp only [φ__law_odd_thing, d__law_odd_thing, ↓reduceIte, decide_eq_true_eq, decide_true, decide_false, Bool.not_true, Bool.not_false, Bool.false_eq_true, true_and, and_true, eq_self, Bool.true_eq_false, reduceCtorEq, Bool.true_and, Bool.false_and, Bool.and_true, Bool.and_false, Option.isSome_some, Option.isSome_none, Option.isNone_some, Option.isNone_none, Int.cast_ofNat_Int, Nat.reduceAdd, Nat.reduceSub, Nat.reduceLT, Nat.reduceLeDiff, Nat.reduceEqDiff, Int.reduceLT, Int.reduceLE, Int.reduceEq, Int.reduceNeg, Int.reduceToNat, Int.reducePow, Int.reduceAdd, Int.reduceSub, List.length_cons, List.length_nil, Option.bind_some, ↓Dn.sxd, Dn.sxp, Dn.leaveW, Dn.turnW, Dn.outR, Dn.bName, Dn.bTup, Dn.bCons, Dn.bNil, Dn.wipeD, Dn.ite_ap]
  refine ⟨few_le (by simp), few_le (by simp), ?_⟩
  exact pick_wp hd (by simp) (by simp) fun d hm cs3 hd3 => k d _ (List.all_eq_true.mp (by rfl) d hm) hd3
end
/-! ### what is shown -/
def optP : Option Int → PyData
  | none => .none
  | some i => .int i
def rowP (r : Row) : PyData := .tuple [optP r.1, optP r.2]
theorem sh_opt {n : Int} {o : Option Int} (hn : n < 10 ^ 500) (h : okB n o = true) : Sh (optI o) (optP o) 501 0 := by
  cases o with
  | none => exact Sh.non.up (by decide) (by decide)
  | some i =>
    refine Sh.int ?_
    unfold okB at h
    simp only [Bool.and_eq_true, decide_eq_true_eq] at h
    omega
theorem sh_sheet {s : List Row} (h : ∀ r ∈ s, RowOk r) : Sh (sheetD s) (.tuple (s.map rowP)) (s.length * (1009 + 2) + 3) 2 := Sh.tupM fun r hr => (Sh.tup2 (sh_opt (by decide) (h r hr).1) (sh_opt (by decide) (h r hr).2)).up (by decide) (by decide)
theorem sh_lit {x : Str} (h : Asc x) (hl : x.length ≤ 100) : Sh (.str x) (.str x) 1002 0 := (Sh.str h).up (by omega) (by decide)
theorem rd_lt : ∀ (ws : List Str) (k n : Nat), rdFrom k ws = .inl n → n < k + ws.length
  | [], _, _, h => by cases h
  | w :: ws, k, n, h => by
    rw [rdFrom_cons] at h
    rw [List.length_cons]
    cases hr : rowIn w with
    | none => rw [hr] at h; cases h; omega
    | some r =>
      rw [hr] at h
      simp only at h
      cases q : rdFrom (k + 1) ws with
      | inr _ => rw [q] at h; cases h
      | inl m =>
        rw [q] at h
        have := rd_lt ws (k + 1) m q
        cases h
        omega
theorem word_none {r : Row} (h : rowWord r = none) : RowOk r := by
  unfold rowWord at h
  unfold RowOk
  cases h1 : okB W40 r.1 with
  | false => rw [h1] at h; cases h
  | true =>
    cases h2 : okB V50 r.2 with
    | false => rw [h1, h2] at h; cases h
    | true => exact ⟨rfl, rfl⟩
theorem wordAt_none {s : List Row} {k : Nat} {r : Row} (h : wordAt s k r = none) : RowOk r := by
  unfold wordAt at h
  cases q : rowWord r with
  | none => exact word_none q
  | some w => rw [q] at h; cases h
theorem errFrom_none (s : List Row) : ∀ (rs : List Row) (k : Nat), errFrom s k rs = none → ∀ r ∈ rs, RowOk r
  | [], _, _ => fun _ h => by cases h
  | r :: rs, k, h => by
    rw [errFrom_cons] at h
    cases q : wordAt s k r with
    | some w => rw [q] at h; cases h
    | none =>
      rw [q] at h
      intro x hx
      rcases List.mem_cons.mp hx with rfl | hx
      · exact wordAt_none q
      · exact errFrom_none s rs (k + 1) h x hx
def litW (w : Str) : Prop := Asc w ∧ w.length ≤ 100
theorem wordAt_lit {s : List Row} {k : Nat} {r : Row} {w : Str} (h : wordAt s k r = some w) : litW w := by
  have t1 : litW "worth" := by unfold litW; decide +kernel
  have t2 : litW "value" := by unfold litW; decide +kernel
  have t3 : litW "order" := by unfold litW; decide +kernel
  unfold wordAt rowWord at h
  repeat' split at h
  all_goals first | (cases h; done) | (cases h; assumption) | skip
  all_goals (rename_i q; revert q; (repeat' split) <;> intro q <;> first | (cases q; done) | (cases q; cases h; assumption))
theorem errFrom_lit (s : List Row) : ∀ (rs : List Row) (k n : Nat) (w : Str), errFrom s k rs = some (n, w) → litW w ∧ n < k + rs.length
  | [], _, _, _, h => by cases h
  | r :: rs, k, n, w, h => by
    rw [errFrom_cons] at h
    rw [List.length_cons]
    cases q : wordAt s k r with
    | some v => rw [q] at h; cases h; exact ⟨wordAt_lit q, by omega⟩
    | none =>
      rw [q] at h
      have := errFrom_lit s rs (k + 1) n w h
      exact ⟨this.1, by omega⟩
theorem rd_len : ∀ (ws : List Str) (k : Nat) (rs : List Row), rdFrom k ws = .inr rs → rs.length = ws.length
  | [], _, _, h => by cases h; rfl
  | w :: ws, k, rs, h => by
    rw [rdFrom_cons] at h
    cases hr : rowIn w with
    | none => rw [hr] at h; cases h
    | some r =>
      rw [hr] at h
      simp only at h
      cases q : rdFrom (k + 1) ws with
      | inl m => rw [q] at h; cases h
      | inr ts =>
        rw [q] at h
        have := rd_len ws (k + 1) ts q
        cases h
        rw [List.length_append, List.length_cons, this]
        simp
        omega
theorem nat_small {n : Nat} (h : n ≤ 10000000) : ((n : Nat) : Int).natAbs < 10 ^ 500 := by
  rw [Int.natAbs_natCast]
  exact Nat.lt_of_le_of_lt h (by decide +kernel)
theorem sh_res {v : Str} (hl : v.length ≤ 1000000) : ∃ p, Sh (resD v) p 100000 4 := by
  have w1 : litW "text" := by unfold litW; decide +kernel
  have w2 : litW "ok" := by unfold litW; decide +kernel
  have w3 : litW "sheet" := by unfold litW; decide +kernel
  have hw := words_few v hl
  rw [List.length_map] at hw
  unfold resD
  cases q : rdFrom 0 (words v) with
  | inl n =>
    have := rd_lt _ _ _ q
    exact ⟨_, (Sh.lst2 (sh_lit w1.1 w1.2) (Sh.int (nat_small (by omega)))).up (by decide) (by decide)⟩
  | inr rs =>
    simp only
    have hlen := rd_len _ _ _ q
    cases e : sheetErr rs with
    | none =>
      unfold sheetErr at e
      split at e
      · cases e
      · rename_i h60
        have e : errFrom rs 0 rs = none := by
          cases z : errFrom rs 0 rs with
          | none => rfl
          | some _ => rw [z] at e; cases e
        have hs := sh_sheet (errFrom_none rs rs 0 e)
        exact ⟨_, (Sh.lst2 ((sh_lit w2.1 w2.2).up (l := 2) (Nat.le_refl _) (by decide)) hs).up (by omega) (by decide)⟩
    | some p =>
      unfold sheetErr at e
      split at e
      · cases e
        exact ⟨_, (Sh.lst3 (sh_lit w3.1 w3.2) (Sh.non) (sh_lit w3.1 w3.2)).up (by decide) (by decide)⟩
      · cases z : errFrom rs 0 rs with
        | none => rw [z] at e; cases e
        | some y =>
          rw [z] at e
          cases e
          obtain ⟨m, w⟩ := y
          obtain ⟨hw, hm⟩ := errFrom_lit _ _ _ _ _ z
          exact ⟨_, (Sh.lst3 (sh_lit w3.1 w3.2) (Sh.int (i := (m : Nat)) (nat_small (by omega))) (sh_lit hw.1 hw.2)).up (by decide) (by decide)⟩
end K67

end
set_option maxHeartbeats 4000000
section
namespace K67
open PySem PySem.Spec PyProof.Rows L2 Dn

/-! ### the law -/
def d_tail : SD :=
  (seqS (setS 5 (op2 addD (op2 addD (fun _ => pure (.str "  ")) (fun env => (slotD 4) env >>= replD " " "   ")) (fun _ => pure (.str " "))))
  (seqS (setS 6 (fun env => (consA (slotD 4) (consA (slotD 5) (consA (fun env => (consA (slotD 1) (consA (slotD 4) (fun _ => pure []))) env >>= callM 2 φ__law_torn) (consA (fun env => (consA (slotD 1) (consA (fun env => (consA (slotD 1) (consA (slotD 4) (fun _ => pure []))) env >>= callM 2 φ__law_torn) (fun _ => pure []))) env >>= callM 2 φ__law_torn) (consA (op2 addD (slotD 4) (fun _ => pure (.str " 0:0"))) (consA (op2 addD (fun _ => pure (.str "-1:0 ")) (slotD 4)) (consA (op2 addD (slotD 4) (fun _ => pure (.str " ?:-"))) (fun _ => pure [])))))))) env >>= mkLst))
  (seqS (setS 7 (fun env => (consA (op2 addD (op2 addD (fun _ => pure (.str "1")) (op2 mulD (fun _ => pure (.str "0")) (fun _ => pure (.int 40)))) (fun _ => pure (.str ":0"))) (consA (op2 addD (op2 addD (fun _ => pure (.str "1")) (op2 mulD (fun _ => pure (.str "0")) (fun _ => pure (.int 41)))) (fun _ => pure (.str ":0"))) (consA (op2 addD (fun _ => pure (.str "0:-1")) (op2 mulD (fun _ => pure (.str "0")) (fun _ => pure (.int 50)))) (consA (op2 addD (fun _ => pure (.str "0:1")) (op2 mulD (fun _ => pure (.str "0")) (fun _ => pure (.int 51)))) (consA (op2 addD (fun _ => pure (.str "0:9")) (op2 mulD (fun _ => pure (.str "0")) (fun _ => pure (.int 50)))) (consA (fun _ => pure (.str "-0:1")) (consA (fun _ => pure (.str "01:1")) (consA (fun _ => pure (.str "1:2:3")) (fun _ => pure []))))))))) env >>= mkLst))
  (seqS (forS (fun env => (op2 addD (op2 addD (slotD 6) (slotD 7)) (fun env => (consA (fun _ => pure (.str "")) (consA (fun _ => pure (.str " ")) (consA (fun _ => pure (.str "1:")) (consA (fun _ => pure (.str ":1")) (consA (fun _ => pure (.str "1")) (consA (fun _ => pure (.str "?:?")) (consA (fun _ => pure (.str "-:1")) (consA (fun _ => pure (.str "1:+1")) (consA (strOp joinD (fun _ => pure (.str " ")) (op2 mulD (fun env => (consA (fun _ => pure (.str "?:0")) (fun _ => pure [])) env >>= mkLst) (fun _ => pure (.int 60)))) (consA (strOp joinD (fun _ => pure (.str " ")) (op2 mulD (fun env => (consA (fun _ => pure (.str "?:0")) (fun _ => pure [])) env >>= mkLst) (fun _ => pure (.int 61)))) (consA (fun _ => pure (.str "2:0 1:0")) (fun _ => pure [])))))))))))) env >>= mkLst)) env >>= itD) (bName 8)
  (seqS (setS 9 (fun env => (consA (slotD 8) (fun _ => pure [])) env >>= callM 1 φ__law_read_sheet))
  (ifS (tst (op2 (eqD true) (fun env => (consA (fun env => (consA (fun env => (consA (slotD 8) (fun _ => pure [])) env >>= callM 1 φ__law_read) (consA (fun env => (consA (slotD 8) (fun _ => pure [])) env >>= callM 1 φ__law_read) (fun _ => pure []))) env >>= mkLst) (fun _ => pure [])) env >>= (arg1 reprD)) (fun env => (consA (fun env => (consA (slotD 9) (consA (slotD 9) (fun _ => pure []))) env >>= mkLst) (fun _ => pure [])) env >>= (arg1 reprD))))
  (retS (fun _ => pure (.bl false)))
  skipS)))
  (forS (fun env => (fun env => (consA (fun _ => pure .non) (consA (fun _ => pure (.int 0)) (consA (slotD 3) (consA (fun env => (consA (slotD 4) (fun _ => pure [])) env >>= mkLst) (consA (fun env => (consA (slotD 1) (fun _ => pure [])) env >>= callM 1 φ__law_odd_thing) (fun _ => pure [])))))) env >>= mkLst) env >>= itD) (bName 8)
  (ifS (andM (nott (tst (fun env => (slotD 8) env >>= isiD "str"))) (tst (op2 (eqD true) (fun env => (consA (fun env => (consA (slotD 8) (fun _ => pure [])) env >>= callM 1 φ__law_read) (fun _ => pure [])) env >>= (arg1 reprD)) (fun env => (consA (fun env => (consA (fun _ => pure (.str "text")) (consA (fun _ => pure .non) (fun _ => pure []))) env >>= mkLst) (fun _ => pure [])) env >>= (arg1 reprD)))))
  (retS (fun _ => pure (.bl false)))
  skipS))))))
def d_turn : SD :=
  (seqS (setS 3 (fun env => (consA (slotD 1) (consA (fun env => (consA (slotD 1) (consA (fun env => (consA (fun _ => pure (.int 3)) (consA (fun _ => pure (.int 8)) (consA (fun _ => pure (.int 60)) (fun _ => pure [])))) env >>= mkLst) (fun _ => pure []))) env >>= callM 2 φ__law_pick) (fun _ => pure []))) env >>= callM 2 φ__law_sheet))
  (seqS (setS 4 (fun env => (consA (slotD 3) (fun _ => pure [])) env >>= callM 1 φ__law_sheet_text))
  (seqS (ifS (tst (op2 (eqD true) (fun env => (consA (fun env => (consA (fun env => (consA (slotD 3) (fun _ => pure [])) env >>= callM 1 φ_sheet_text) (consA (fun env => (consA (slotD 3) (fun _ => pure [])) env >>= callM 1 φ_sheet_text) (fun _ => pure []))) env >>= mkLst) (fun _ => pure [])) env >>= (arg1 reprD)) (fun env => (consA (fun env => (consA (slotD 4) (consA (slotD 4) (fun _ => pure []))) env >>= mkLst) (fun _ => pure [])) env >>= (arg1 reprD))))
  (retS (fun _ => pure (.bl false)))
  skipS)
  (seqS (ifS (tst (op2 gtD (fun env => (consA (slotD 4) (fun _ => pure [])) env >>= (arg1 lenD)) (fun _ => pure (.int 1800))))
  (seqS (ifS (tst (op2 (eqD true) (fun env => (consA (fun env => (consA (slotD 4) (fun _ => pure [])) env >>= callM 1 φ_read_sheet) (fun _ => pure [])) env >>= (arg1 reprD)) (fun env => (consA (slotD 3) (fun _ => pure [])) env >>= (arg1 reprD))))
  (retS (fun _ => pure (.bl false)))
  skipS)
  (setS 4 (strOp joinD (fun _ => pure (.str " ")) (cutM (strOp splitD (slotD 4) (fun _ => pure (.str " "))) (fun _ => pure none) (fun env => (fun _ => pure (.int 15)) env >>= someI)))))
  skipS)
  d_tail))))
theorem d_law_eq : d_law =
  (seqS (setS 1 (fun env => (consA (slotD 0) (fun _ => pure [])) env >>= callM 1 φ__law_deck))
  (seqS (forS (fun env => (consA (fun _ => pure (.int 8)) (fun _ => pure [])) env >>= rng1) (bName 2)
  d_turn)
  (retS (fun _ => pure (.bl true))))) := rfl
def okText (d : D) : Prop := ∃ v, d = .str v ∧ Asc v ∧ v.length ≤ 1000000
def IOut (xs : List D) (env : DEnv) (cs : CS) : Prop := DeckOk [] cs ∧ ∃ (s0 : D) (a b c d e f g h : Option Slot), env = [some (.sh s0), some (.sh (.cell 0)), a, b, c, d, e, f, g, h]
def ITx (s0 : D) (s : List Row) (t : Str) (xs : List D) (env : DEnv) (cs : CS) : Prop := DeckOk [] cs ∧ (∀ d ∈ xs, okText d) ∧ ∃ (a d e f g h : Option Slot), env = [some (.sh s0), some (.sh (.cell 0)), a, some (.sh (sheetD s)), some (.sh (.str t)), d, e, f, g, h]
def INo (s0 : D) (s : List Row) (t : Str) (xs : List D) (env : DEnv) (cs : CS) : Prop := DeckOk [] cs ∧ (∀ d ∈ xs, kindOk d = true) ∧ ∃ (a d e f g h : Option Slot), env = [some (.sh s0), some (.sh (.cell 0)), a, some (.sh (sheetD s)), some (.sh (.str t)), d, e, f, g, h]
theorem IOut.mk {s0 : D} {a b c d e f g h : Option Slot} {cs : CS} {xs : List D} (hd : DeckOk [] cs) : IOut xs [some (.sh s0), some (.sh (.cell 0)), a, b, c, d, e, f, g, h] cs := ⟨hd, _, _, _, _, _, _, _, _, _, rfl⟩
theorem strB_text {n : Nat} (hn : n ≤ 1000000) {xs : List D} (h : xs.all (strB n) = true) : ∀ d ∈ xs, okText d := fun d hd => by
  obtain ⟨z, e, h1, h2⟩ := strB_ok (List.all_eq_true.mp h d hd)
  exact ⟨z, e, h1, by omega⟩
section
variable {Q : D → CS → Prop} {E : XM} {cs : CS}
theorem w_isStr {d : D} (k : kindOk d = true) : wpM (isiD "str" d) Q E cs = Q (.bl (isText d)) cs := by
  cases d with
  | rol _ => cases k
  | cell _ => cases k
  | raw _ => cases k
  | _ => rfl
theorem sh_no : Sh (.lst [.str "text", .non]) (.list [.str "text", .none]) 1020 1 := (Sh.lst2 (sh_lit (by decide +kernel) (by decide +kernel)) Sh.non).up (by decide) (by decide)
theorem rep60 : wpM (joinD " " (.lst (List.replicate 60 [D.str "?:0"]).flatten)) Q E cs = Q (.str (Txt.join " " (List.replicate 60 "?:0"))) cs := by
  rw [show (List.replicate 60 [D.str "?:0"]).flatten = (List.replicate 60 ("?:0" : Str)).map D.str from rfl, w_join]
  simp only [show ((List.replicate 60 ("?:0" : Str)).map (·.length)).sum + (List.replicate 60 ("?:0" : Str)).length * (" " : Str).length ≤ 16777216 by decide +kernel, true_and]
theorem rep61 : wpM (joinD " " (.lst (List.replicate 61 [D.str "?:0"]).flatten)) Q E cs = Q (.str (Txt.join " " (List.replicate 61 "?:0"))) cs := by
  rw [show (List.replicate 61 [D.str "?:0"]).flatten = (List.replicate 61 ("?:0" : Str)).map D.str from rfl, w_join]
  simp only [show ((List.replicate 61 ("?:0" : Str)).map (·.length)).sum + (List.replicate 61 ("?:0" : Str)).length * (" " : Str).length ≤ 16777216 by decide +kernel, true_and]
end
section
variable {Q : Fl → DEnv → CS → Prop} {E : XS} {cs : CS}
theorem tail_wp {s0 : D} {s : List Row} {t : Str} {a d e f g h : Option Slot} (hs : SheetOk s) (ht : Asc t) (tl : t.length ≤ 6401) (hd : DeckOk [] cs) (k : ∀ env' cs', IOut [] env' cs' → Q .nx env' cs') :
    wpS d_tail Q E [some (.sh s0), some (.sh (.cell 0)), a, some (.sh (sheetD s)), some (.sh (.str t)), d, e, f, g, h] cs := by
  have z : sizeLine = 16777216 := sizeLine_eq
  have r1 := TK.replace_len t " " "   "
  have l1 : (" " : Str).length = 1 := by decide +kernel
  have l3 : ("   " : Str).length = 3 := by decide +kernel
  have l2 : ("  " : Str).length = 2 := by decide +kernel
  have l4 : (" 0:0" : Str).length = 4 := by decide +kernel
  have l5 : ("-1:0 " : Str).length = 5 := by decide +kernel
  have l6 : (" ?:-" : Str).length = 4 := by decide +kernel
  rw [l3] at r1
  have e1 : (" " : Str) = ⟨#[32]⟩ := by decide +kernel
  have hw : Asc ("  " ++ Txt.replace t " " "   " ++ " ") := Asc.app (Asc.app (by decide +kernel) (by rw [e1]; exact ht.repl (by decide +kernel))) (by decide +kernel)
  have wl : ("  " ++ Txt.replace t " " "   " ++ " ").length ≤ 30000 := by rw [Str.length_append, Str.length_append, l1, l2]; omega
  simp only [d_tail, ↓reduceIte, decide_eq_true_eq, decide_true, decide_false, Bool.not_true, Bool.not_false, Bool.false_eq_true, true_and, and_true, eq_self, Bool.true_eq_false, reduceCtorEq, Bool.true_and, Bool.false_and, Bool.and_true, Bool.and_false, Option.isSome_some, Option.isSome_none, Option.isNone_some, Option.isNone_none, Int.cast_ofNat_Int, Nat.reduceAdd, Nat.reduceSub, Nat.reduceLT, Nat.reduceLeDiff, Nat.reduceEqDiff, Int.reduceLT, Int.reduceLE, Int.reduceEq, Int.reduceNeg, Int.reduceToNat, Int.reducePow, Int.reduceAdd, Int.reduceSub, List.length_cons, List.length_nil, Option.bind_some, ↓Dn.sxd, Dn.sxp, Dn.leaveW, Dn.turnW, Dn.outR, Dn.bName, Dn.bTup, Dn.bCons, Dn.bNil, Dn.wipeD, Dn.ite_ap, Str.length_append, l1, l2, l3]
  refine ⟨by omega, by omega, by omega, ?_⟩
  refine ltorn_wp ht tl (by decide) hd fun y1 cs1 y1a y1l hd1 => ?_
  simp only [↓reduceIte, decide_eq_true_eq, decide_true, decide_false, Bool.not_true, Bool.not_false, Bool.false_eq_true, true_and, and_true, eq_self, Bool.true_eq_false, reduceCtorEq, Bool.true_and, Bool.false_and, Bool.and_true, Bool.and_false, Option.isSome_some, Option.isSome_none, Option.isNone_some, Option.isNone_none, Int.cast_ofNat_Int, Nat.reduceAdd, Nat.reduceSub, Nat.reduceLT, Nat.reduceLeDiff, Nat.reduceEqDiff, Int.reduceLT, Int.reduceLE, Int.reduceEq, Int.reduceNeg, Int.reduceToNat, Int.reducePow, Int.reduceAdd, Int.reduceSub, List.length_cons, List.length_nil, Option.bind_some, ↓Dn.sxd, Dn.sxp, Dn.leaveW, Dn.turnW, Dn.outR, Dn.bName, Dn.bTup, Dn.bCons, Dn.bNil, Dn.wipeD, Dn.ite_ap]
  refine ltorn_wp ht tl (by decide) hd1 fun y2 cs2 y2a y2l hd2 => ?_
  simp only [↓reduceIte, decide_eq_true_eq, decide_true, decide_false, Bool.not_true, Bool.not_false, Bool.false_eq_true, true_and, and_true, eq_self, Bool.true_eq_false, reduceCtorEq, Bool.true_and, Bool.false_and, Bool.and_true, Bool.and_false, Option.isSome_some, Option.isSome_none, Option.isNone_some, Option.isNone_none, Int.cast_ofNat_Int, Nat.reduceAdd, Nat.reduceSub, Nat.reduceLT, Nat.reduceLeDiff, Nat.reduceEqDiff, Int.reduceLT, Int.reduceLE, Int.reduceEq, Int.reduceNeg, Int.reduceToNat, Int.reducePow, Int.reduceAdd, Int.reduceSub, List.length_cons, List.length_nil, Option.bind_some, ↓Dn.sxd, Dn.sxp, Dn.leaveW, Dn.turnW, Dn.outR, Dn.bName, Dn.bTup, Dn.bCons, Dn.bNil, Dn.wipeD, Dn.ite_ap]
  refine ltorn_wp y2a (n := 20000) (by omega) (by decide) hd2 fun y3 cs3 y3a y3l hd3 => ?_
  have q1 : repStr "0" 40 = true := by decide +kernel
  have q2 : repStr "0" 41 = true := by decide +kernel
  have q3 : repStr "0" 50 = true := by decide +kernel
  have q4 : repStr "0" 51 = true := by decide +kernel
  have m1 : (Txt.mul "0" 40).length = 40 := by decide +kernel
  have m2 : (Txt.mul "0" 41).length = 41 := by decide +kernel
  have m3 : (Txt.mul "0" 50).length = 50 := by decide +kernel
  have m4 : (Txt.mul "0" 51).length = 51 := by decide +kernel
  have n1 : ("1" : Str).length = 1 := by decide +kernel
  have n2 : (":0" : Str).length = 2 := by decide +kernel
  have n3 : ("0:-1" : Str).length = 4 := by decide +kernel
  have n4 : ("0:1" : Str).length = 3 := by decide +kernel
  have n5 : ("0:9" : Str).length = 3 := by decide +kernel
  have p1 : repSize [D.str "?:0"] 60 = true := by decide +kernel
  have p2 : repSize [D.str "?:0"] 61 = true := by decide +kernel
  have f1 : few (List.replicate 60 [D.str "?:0"]).flatten = true := few_le (by decide)
  have f2 : few (List.replicate 61 [D.str "?:0"]).flatten = true := few_le (by decide)
  simp only [↓reduceIte, decide_eq_true_eq, decide_true, decide_false, Bool.not_true, Bool.not_false, Bool.false_eq_true, true_and, and_true, eq_self, Bool.true_eq_false, reduceCtorEq, Bool.true_and, Bool.false_and, Bool.and_true, Bool.and_false, Option.isSome_some, Option.isSome_none, Option.isNone_some, Option.isNone_none, Int.cast_ofNat_Int, Nat.reduceAdd, Nat.reduceSub, Nat.reduceLT, Nat.reduceLeDiff, Nat.reduceEqDiff, Int.reduceLT, Int.reduceLE, Int.reduceEq, Int.reduceNeg, Int.reduceToNat, Int.reducePow, Int.reduceAdd, Int.reduceSub, List.length_cons, List.length_nil, Option.bind_some, ↓Dn.sxd, Dn.sxp, Dn.leaveW, Dn.turnW, Dn.outR, Dn.bName, Dn.bTup, Dn.bCons, Dn.bNil, Dn.wipeD, Dn.ite_ap, Str.length_append, l4, l5, l6, q1, q2, q3, q4, m1, m2, m3, m4, n1, n2, n3, n4, n5, p1, p2, f1, f2, rep60, rep61]
  refine ⟨by omega, by omega, by omega, by omega, by omega, by omega, by omega, by omega, by omega, by omega, few_le (by simp), few_le (by simp), few_le (by simp), ?_⟩
  refine wpS_loop (ITx s0 s t) ?_ ?_ _ _ _ ⟨hd3, ?texts, _, _, _, _, _, _, rfl⟩
  case texts =>
    intro x hx
    rcases List.mem_append.mp hx with hx | hx
    · rcases List.mem_append.mp hx with hx | hx
      · simp only [List.mem_cons, List.not_mem_nil, or_false] at hx
        rcases hx with rfl | rfl | rfl | rfl | rfl | rfl | rfl
        · exact ⟨_, rfl, ht, by omega⟩
        · exact ⟨_, rfl, hw, by omega⟩
        · exact ⟨_, rfl, y1a, by omega⟩
        · exact ⟨_, rfl, y3a, by omega⟩
        · exact ⟨_, rfl, ht.app (by decide +kernel), by rw [Str.length_append]; omega⟩
        · exact ⟨_, rfl, Asc.app (by decide +kernel) ht, by rw [Str.length_append]; omega⟩
        · exact ⟨_, rfl, ht.app (by decide +kernel), by rw [Str.length_append]; omega⟩
      · exact strB_text (n := 1000) (by decide) (by decide +kernel) x hx
    · exact strB_text (n := 1000) (by decide) (by decide +kernel) x hx
  · rintro x xs env cs' ⟨hd', hx, a, d, e, f, g, h, rfl⟩
    obtain ⟨v, rfl, va, vl⟩ := hx x (by simp)
    obtain ⟨p, hp⟩ := sh_res vl
    have hs2 := (Sh.lst2 hp hp).shows (by decide) (by decide)
    refine ⟨_, rfl, ?_⟩
    simp only [↓reduceIte, decide_eq_true_eq, decide_true, decide_false, Bool.not_true, Bool.not_false, Bool.false_eq_true, true_and, and_true, eq_self, Bool.true_eq_false, reduceCtorEq, Bool.true_and, Bool.false_and, Bool.and_true, Bool.and_false, Option.isSome_some, Option.isSome_none, Option.isNone_some, Option.isNone_none, Int.cast_ofNat_Int, Nat.reduceAdd, Nat.reduceSub, Nat.reduceLT, Nat.reduceLeDiff, Nat.reduceEqDiff, Int.reduceLT, Int.reduceLE, Int.reduceEq, Int.reduceNeg, Int.reduceToNat, Int.reducePow, Int.reduceAdd, Int.reduceSub, List.length_cons, List.length_nil, Option.bind_some, ↓Dn.sxd, Dn.sxp, Dn.leaveW, Dn.turnW, Dn.outR, Dn.bName, Dn.bTup, Dn.bCons, Dn.bNil, Dn.wipeD, Dn.ite_ap, lread_wp va vl, law_read_wp va vl, hs2.repr, hs2.strOk]
    exact ⟨hd', fun d hd => hx d (List.mem_cons_of_mem _ hd), _, _, _, _, _, _, rfl⟩
  · rintro env cs' ⟨hd', _, a, d, e, f, g, h, rfl⟩
    simp only [↓reduceIte, decide_eq_true_eq, decide_true, decide_false, Bool.not_true, Bool.not_false, Bool.false_eq_true, true_and, and_true, eq_self, Bool.true_eq_false, reduceCtorEq, Bool.true_and, Bool.false_and, Bool.and_true, Bool.and_false, Option.isSome_some, Option.isSome_none, Option.isNone_some, Option.isNone_none, Int.cast_ofNat_Int, Nat.reduceAdd, Nat.reduceSub, Nat.reduceLT, Nat.reduceLeDiff, Nat.reduceEqDiff, Int.reduceLT, Int.reduceLE, Int.reduceEq, Int.reduceNeg, Int.reduceToNat, Int.reducePow, Int.reduceAdd, Int.reduceSub, List.length_cons, List.length_nil, Option.bind_some, ↓Dn.sxd, Dn.sxp, Dn.leaveW, Dn.turnW, Dn.outR, Dn.bName, Dn.bTup, Dn.bCons, Dn.bNil, Dn.wipeD, Dn.ite_ap]
    refine lodd_wp hd' fun o cs4 ok hd4 => ?_
    simp only [↓reduceIte, decide_eq_true_eq, decide_true, decide_false, Bool.not_true, Bool.not_false, Bool.false_eq_true, true_and, and_true, eq_self, Bool.true_eq_false, reduceCtorEq, Bool.true_and, Bool.false_and, Bool.and_true, Bool.and_false, Option.isSome_some, Option.isSome_none, Option.isNone_some, Option.isNone_none, Int.cast_ofNat_Int, Nat.reduceAdd, Nat.reduceSub, Nat.reduceLT, Nat.reduceLeDiff, Nat.reduceEqDiff, Int.reduceLT, Int.reduceLE, Int.reduceEq, Int.reduceNeg, Int.reduceToNat, Int.reducePow, Int.reduceAdd, Int.reduceSub, List.length_cons, List.length_nil, Option.bind_some, ↓Dn.sxd, Dn.sxp, Dn.leaveW, Dn.turnW, Dn.outR, Dn.bName, Dn.bTup, Dn.bCons, Dn.bNil, Dn.wipeD, Dn.ite_ap]
    have hs2 := sh_no.shows (by decide) (by decide)
    refine wpS_loop (INo s0 s t) ?_ ?_ _ _ _ ⟨hd4, fun x hx => ?_, _, _, _, _, _, _, rfl⟩
    · rintro x xs env cs' ⟨hd', hx, a, d, e, f, g, h, rfl⟩
      have kx := hx x (by simp)
      refine ⟨_, rfl, ?_⟩
      simp only [↓reduceIte, decide_eq_true_eq, decide_true, decide_false, Bool.not_true, Bool.not_false, Bool.false_eq_true, true_and, and_true, eq_self, Bool.true_eq_false, reduceCtorEq, Bool.true_and, Bool.false_and, Bool.and_true, Bool.and_false, Option.isSome_some, Option.isSome_none, Option.isNone_some, Option.isNone_none, Int.cast_ofNat_Int, Nat.reduceAdd, Nat.reduceSub, Nat.reduceLT, Nat.reduceLeDiff, Nat.reduceEqDiff, Int.reduceLT, Int.reduceLE, Int.reduceEq, Int.reduceNeg, Int.reduceToNat, Int.reducePow, Int.reduceAdd, Int.reduceSub, List.length_cons, List.length_nil, Option.bind_some, ↓Dn.sxd, Dn.sxp, Dn.leaveW, Dn.turnW, Dn.outR, Dn.bName, Dn.bTup, Dn.bCons, Dn.bNil, Dn.wipeD, Dn.ite_ap, w_isStr kx]
      cases tx : isText x
      · simp only [↓reduceIte, decide_eq_true_eq, decide_true, decide_false, Bool.not_true, Bool.not_false, Bool.false_eq_true, true_and, and_true, eq_self, Bool.true_eq_false, reduceCtorEq, Bool.true_and, Bool.false_and, Bool.and_true, Bool.and_false, Option.isSome_some, Option.isSome_none, Option.isNone_some, Option.isNone_none, Int.cast_ofNat_Int, Nat.reduceAdd, Nat.reduceSub, Nat.reduceLT, Nat.reduceLeDiff, Nat.reduceEqDiff, Int.reduceLT, Int.reduceLE, Int.reduceEq, Int.reduceNeg, Int.reduceToNat, Int.reducePow, Int.reduceAdd, Int.reduceSub, List.length_cons, List.length_nil, Option.bind_some, ↓Dn.sxd, Dn.sxp, Dn.leaveW, Dn.turnW, Dn.outR, Dn.bName, Dn.bTup, Dn.bCons, Dn.bNil, Dn.wipeD, Dn.ite_ap, law_read_no tx kx, hs2.repr, hs2.strOk]
        exact ⟨hd', fun d hd => hx d (List.mem_cons_of_mem _ hd), _, _, _, _, _, _, rfl⟩
      · simp only [↓reduceIte, decide_eq_true_eq, decide_true, decide_false, Bool.not_true, Bool.not_false, Bool.false_eq_true, true_and, and_true, eq_self, Bool.true_eq_false, reduceCtorEq, Bool.true_and, Bool.false_and, Bool.and_true, Bool.and_false, Option.isSome_some, Option.isSome_none, Option.isNone_some, Option.isNone_none, Int.cast_ofNat_Int, Nat.reduceAdd, Nat.reduceSub, Nat.reduceLT, Nat.reduceLeDiff, Nat.reduceEqDiff, Int.reduceLT, Int.reduceLE, Int.reduceEq, Int.reduceNeg, Int.reduceToNat, Int.reducePow, Int.reduceAdd, Int.reduceSub, List.length_cons, List.length_nil, Option.bind_some, ↓Dn.sxd, Dn.sxp, Dn.leaveW, Dn.turnW, Dn.outR, Dn.bName, Dn.bTup, Dn.bCons, Dn.bNil, Dn.wipeD, Dn.ite_ap]
        exact ⟨hd', fun d hd => hx d (List.mem_cons_of_mem _ hd), _, _, _, _, _, _, rfl⟩
    · rintro env cs' ⟨hd', _, a, d, e, f, g, h, rfl⟩
      exact k _ _ (IOut.mk hd')
    · simp only [List.mem_cons, List.not_mem_nil, or_false] at hx
      rcases hx with rfl | rfl | rfl | rfl | rfl
      · rfl
      · rfl
      · rfl
      · rfl
      · exact ok
theorem cutG_map {α β : Type} (f : α → β) (xs : List α) (lo hi : Option Int) : cutG (xs.map f) lo hi = (cutG xs lo hi).map f := by
  unfold cutG
  rw [List.length_map, List.map_take, List.map_drop]
theorem cut15 {α : Type} (xs : List α) : cutG xs none (some 15) = xs.take (min 15 xs.length) := by
  unfold cutG
  have h1 : HT.sIx xs.length xs.length (some 15) = min 15 xs.length := HT.sIx_nat _ _ 15
  rw [h1, HT.sIx_none]
  rfl
theorem cutP (l : List Str) : cutG (l.map D.str) none (some 15) = (l.take (min 15 l.length)).map D.str := by
  rw [cutG_map, cut15]
theorem sum_take : ∀ (n : Nat) (xs : List Str), ((xs.take n).map (·.length)).sum ≤ (xs.map (·.length)).sum
  | 0, xs => by simp
  | n + 1, [] => by simp
  | n + 1, x :: xs => by
    have := sum_take n xs
    rw [List.take_succ_cons, List.map_cons, List.map_cons, List.sum_cons, List.sum_cons]
    omega
theorem head15 {t : Str} (ha : Asc t) (hl : t.length ≤ 6400) : let ys := (Txt.split t " ").take (min 15 (Txt.split t " ").length)
    (ys.map (·.length)).sum + ys.length * (" " : Str).length ≤ 6401 ∧ Asc (Txt.join " " ys) ∧ (Txt.join " " ys).length ≤ 6401 := by
  intro ys
  have h1 := split_weight t " " (by decide +kernel)
  have h2 := sum_take (min 15 (Txt.split t " ").length) (Txt.split t " ")
  have h3 : ys.length ≤ (Txt.split t " ").length := by
    show ((Txt.split t " ").take _).length ≤ _
    rw [List.length_take]
    omega
  have h4 : (ys.map (·.length)).sum + ys.length * (" " : Str).length ≤ 6401 := by
    rw [len_b]
    have h5 : (ys.map (·.length)).sum ≤ ((Txt.split t " ").map (·.length)).sum := h2
    omega
  refine ⟨h4, asc_b.join fun p hp => ha.split _ p (List.mem_of_mem_take hp), ?_⟩
  rw [TL.join_eq]
  exact Nat.le_trans (StrLaws.join_length_le _ _) h4
theorem turn_wp {xs : List D} {s0 : D} {a b c d e f g h : Option Slot} (hd : DeckOk [] cs) (k : ∀ env' cs', IOut [] env' cs' → Q .nx env' cs') :
    wpS d_turn Q E [some (.sh s0), some (.sh (.cell 0)), a, b, c, d, e, f, g, h] cs := by
  simp only [d_turn, ↓reduceIte, decide_eq_true_eq, decide_true, decide_false, Bool.not_true, Bool.not_false, Bool.false_eq_true, true_and, and_true, eq_self, Bool.true_eq_false, reduceCtorEq, Bool.true_and, Bool.false_and, Bool.and_true, Bool.and_false, Option.isSome_some, Option.isSome_none, Option.isNone_some, Option.isNone_none, Int.cast_ofNat_Int, Nat.reduceAdd, Nat.reduceSub, Nat.reduceLT, Nat.reduceLeDiff, Nat.reduceEqDiff, Int.reduceLT, Int.reduceLE, Int.reduceEq, Int.reduceNeg, Int.reduceToNat, Int.reducePow, Int.reduceAdd, Int.reduceSub, List.length_cons, List.length_nil, Option.bind_some, ↓Dn.sxd, Dn.sxp, Dn.leaveW, Dn.turnW, Dn.outR, Dn.bName, Dn.bTup, Dn.bCons, Dn.bNil, Dn.wipeD, Dn.ite_ap]
  refine pick_wp hd (by simp) (by simp) fun d hm cs1 hd1 => ?_
  obtain ⟨many, rfl, hm60⟩ : ∃ many : Nat, d = .int many ∧ many ≤ 60 := by
    simp only [List.mem_cons, List.not_mem_nil, or_false] at hm
    rcases hm with rfl | rfl | rfl
    · exact ⟨3, rfl, by decide⟩
    · exact ⟨8, rfl, by decide⟩
    · exact ⟨60, rfl, by decide⟩
  simp only [↓reduceIte, decide_eq_true_eq, decide_true, decide_false, Bool.not_true, Bool.not_false, Bool.false_eq_true, true_and, and_true, eq_self, Bool.true_eq_false, reduceCtorEq, Bool.true_and, Bool.false_and, Bool.and_true, Bool.and_false, Option.isSome_some, Option.isSome_none, Option.isNone_some, Option.isNone_none, Int.cast_ofNat_Int, Nat.reduceAdd, Nat.reduceSub, Nat.reduceLT, Nat.reduceLeDiff, Nat.reduceEqDiff, Int.reduceLT, Int.reduceLE, Int.reduceEq, Int.reduceNeg, Int.reduceToNat, Int.reducePow, Int.reduceAdd, Int.reduceSub, List.length_cons, List.length_nil, Option.bind_some, ↓Dn.sxd, Dn.sxp, Dn.leaveW, Dn.turnW, Dn.outR, Dn.bName, Dn.bTup, Dn.bCons, Dn.bNil, Dn.wipeD, Dn.ite_ap]
  refine lsheet_wp hm60 hd1 fun s cs2 hs hd2 => ?_
  have hr : ∀ r ∈ s, RowS r := fun r h => (hs.2.1 r h).s
  obtain ⟨ta, tl⟩ := textT hs.1 hr
  have hz : (textOf s).length ≤ sizeLine := by rw [sizeLine_eq]; omega
  have h1 := (Sh.lst2 (Sh.str ta) (Sh.str ta)).shows (by omega) (by decide)
  have h2 := (sh_sheet hs.2.1).shows (by have := hs.1; omega) (by decide)
  simp only [↓reduceIte, decide_eq_true_eq, decide_true, decide_false, Bool.not_true, Bool.not_false, Bool.false_eq_true, true_and, and_true, eq_self, Bool.true_eq_false, reduceCtorEq, Bool.true_and, Bool.false_and, Bool.and_true, Bool.and_false, Option.isSome_some, Option.isSome_none, Option.isNone_some, Option.isNone_none, Int.cast_ofNat_Int, Nat.reduceAdd, Nat.reduceSub, Nat.reduceLT, Nat.reduceLeDiff, Nat.reduceEqDiff, Int.reduceLT, Int.reduceLE, Int.reduceEq, Int.reduceNeg, Int.reduceToNat, Int.reducePow, Int.reduceAdd, Int.reduceSub, List.length_cons, List.length_nil, Option.bind_some, ↓Dn.sxd, Dn.sxp, Dn.leaveW, Dn.turnW, Dn.outR, Dn.bName, Dn.bTup, Dn.bCons, Dn.bNil, Dn.wipeD, Dn.ite_ap, lsheet_text_wp hs.1 hr, sheet_text_wp hs.1 hr, h1.repr, h1.strOk, hz]
  by_cases hbig : (1800 : Int) < ((textOf s).length : Int)
  · have hne : s ≠ [] := by
      rintro rfl
      have : (textOf []).length = 0 := by decide +kernel
      omega
    have hrd : ∀ (Q : D → CS → Prop) (E : XM) cs, wpM (φ_read_sheet [.str (textOf s)]) Q E cs = Q (sheetD s) cs := fun Q E cs => by
      rw [read_eq ta (by omega)]
      unfold readO
      rw [words_text hne, rd_text s 0 hr]
      simp only [hs.2.2]
    have hz2 : (textOf s).length + 2 ≤ sizeLine := by rw [sizeLine_eq]; omega
    obtain ⟨j1, j2, j3⟩ := head15 ta tl
    have hsz := split_le (textOf s) " "
    have hf : few (((Txt.split (textOf s) " ").take (min 15 (Txt.split (textOf s) " ").length)).map D.str) = true := few_le (by rw [List.length_map, List.length_take]; omega)
    simp only [↓reduceIte, decide_eq_true_eq, decide_true, decide_false, Bool.not_true, Bool.not_false, Bool.false_eq_true, true_and, and_true, eq_self, Bool.true_eq_false, reduceCtorEq, Bool.true_and, Bool.false_and, Bool.and_true, Bool.and_false, Option.isSome_some, Option.isSome_none, Option.isNone_some, Option.isNone_none, Int.cast_ofNat_Int, Nat.reduceAdd, Nat.reduceSub, Nat.reduceLT, Nat.reduceLeDiff, Nat.reduceEqDiff, Int.reduceLT, Int.reduceLE, Int.reduceEq, Int.reduceNeg, Int.reduceToNat, Int.reducePow, Int.reduceAdd, Int.reduceSub, List.length_cons, List.length_nil, Option.bind_some, ↓Dn.sxd, Dn.sxp, Dn.leaveW, Dn.turnW, Dn.outR, Dn.bName, Dn.bTup, Dn.bCons, Dn.bNil, Dn.wipeD, Dn.ite_ap, hbig, hrd, h2.repr, h2.strOk, hz2, blank_one, cutP, hf, (show _ ≤ 16777216 from Nat.le_trans j1 (by decide))]
    exact tail_wp hs j2 j3 hd2 k
  · simp only [↓reduceIte, decide_eq_true_eq, decide_true, decide_false, Bool.not_true, Bool.not_false, Bool.false_eq_true, true_and, and_true, eq_self, Bool.true_eq_false, reduceCtorEq, Bool.true_and, Bool.false_and, Bool.and_true, Bool.and_false, Option.isSome_some, Option.isSome_none, Option.isNone_some, Option.isNone_none, Int.cast_ofNat_Int, Nat.reduceAdd, Nat.reduceSub, Nat.reduceLT, Nat.reduceLeDiff, Nat.reduceEqDiff, Int.reduceLT, Int.reduceLE, Int.reduceEq, Int.reduceNeg, Int.reduceToNat, Int.reducePow, Int.reduceAdd, Int.reduceSub, List.length_cons, List.length_nil, Option.bind_some, ↓Dn.sxd, Dn.sxp, Dn.leaveW, Dn.turnW, Dn.outR, Dn.bName, Dn.bTup, Dn.bCons, Dn.bNil, Dn.wipeD, Dn.ite_ap, hbig]
    exact tail_wp hs ta (by omega) hd2 k
end
theorem math {ns : List Int} (hl : ns.length ≤ 63) : ∃ cs, runD N_law.length 1 d_law [.rol (ns.map .int)] (some []) = .ok (.bl true) cs := by
  have h : wpM (runD 10 1 d_law [.rol (ns.map .int)]) (fun b _ => b = .bl true) noE (some []) := by
    rw [d_law_eq]
    simp only [↓reduceIte, decide_eq_true_eq, decide_true, decide_false, Bool.not_true, Bool.not_false, Bool.false_eq_true, true_and, and_true, eq_self, Bool.true_eq_false, reduceCtorEq, Bool.true_and, Bool.false_and, Bool.and_true, Bool.and_false, Option.isSome_some, Option.isSome_none, Option.isNone_some, Option.isNone_none, Int.cast_ofNat_Int, Nat.reduceAdd, Nat.reduceSub, Nat.reduceLT, Nat.reduceLeDiff, Nat.reduceEqDiff, Int.reduceLT, Int.reduceLE, Int.reduceEq, Int.reduceNeg, Int.reduceToNat, Int.reducePow, Int.reduceAdd, Int.reduceSub, List.length_cons, List.length_nil, Option.bind_some, ↓Dn.sxd, Dn.sxp, Dn.leaveW, Dn.turnW, Dn.outR, Dn.bName, Dn.bTup, Dn.bCons, Dn.bNil, Dn.wipeD, Dn.ite_ap]
    refine deck_wp hl fun cs hd => ?_
    have hr : rngOk 0 8 = true := by decide
    simp only [↓reduceIte, decide_eq_true_eq, decide_true, decide_false, Bool.not_true, Bool.not_false, Bool.false_eq_true, true_and, and_true, eq_self, Bool.true_eq_false, reduceCtorEq, Bool.true_and, Bool.false_and, Bool.and_true, Bool.and_false, Option.isSome_some, Option.isSome_none, Option.isNone_some, Option.isNone_none, Int.cast_ofNat_Int, Nat.reduceAdd, Nat.reduceSub, Nat.reduceLT, Nat.reduceLeDiff, Nat.reduceEqDiff, Int.reduceLT, Int.reduceLE, Int.reduceEq, Int.reduceNeg, Int.reduceToNat, Int.reducePow, Int.reduceAdd, Int.reduceSub, List.length_cons, List.length_nil, Option.bind_some, ↓Dn.sxd, Dn.sxp, Dn.leaveW, Dn.turnW, Dn.outR, Dn.bName, Dn.bTup, Dn.bCons, Dn.bNil, Dn.wipeD, Dn.ite_ap, hr]
    refine wpS_loop IOut ?_ ?_ _ _ _ (IOut.mk hd)
    · rintro x xs env cs ⟨hd, s0, a, b, c, d, e, f, g, h, rfl⟩
      refine ⟨_, rfl, ?_⟩
      exact turn_wp (xs := xs) hd fun env' cs' h => h
    · rintro env cs ⟨hd, s0, a, b, c, d, e, f, g, h, rfl⟩
      simp only [↓reduceIte, decide_eq_true_eq, decide_true, decide_false, Bool.not_true, Bool.not_false, Bool.false_eq_true, true_and, and_true, eq_self, Bool.true_eq_false, reduceCtorEq, Bool.true_and, Bool.false_and, Bool.and_true, Bool.and_false, Option.isSome_some, Option.isSome_none, Option.isNone_some, Option.isNone_none, Int.cast_ofNat_Int, Nat.reduceAdd, Nat.reduceSub, Nat.reduceLT, Nat.reduceLeDiff, Nat.reduceEqDiff, Int.reduceLT, Int.reduceLE, Int.reduceEq, Int.reduceNeg, Int.reduceToNat, Int.reducePow, Int.reduceAdd, Int.reduceSub, List.length_cons, List.length_nil, Option.bind_some, ↓Dn.sxd, Dn.sxp, Dn.leaveW, Dn.turnW, Dn.outR, Dn.bName, Dn.bTup, Dn.bCons, Dn.bNil, Dn.wipeD, Dn.ite_ap]
  obtain ⟨b, cs, e, rfl⟩ := wpM_run_ok h
  exact ⟨cs, e⟩
end K67

end
set_option maxHeartbeats 0
section
namespace K67
open PySem PySem.Spec PyProof.Rows L2 Dn
theorem facts {P : Program} {w : World} {K : PySem.W.Frag} {h : Heap} {mg : Str → Option Value} {f : Addr} (X : K.In h) (G : h.Ns mainGlobals mg) (hfa : mg ("law" : Str) = some (.ref f)) (c : SaysB fb fn K) :
    f = He.ga K "law" ∧ ∃ fd : FuncData, (∀ (s : Shared) (u : Value), BindsTo s fd ⟨[u], []⟩ [("_law_script", u)]) ∧ FunD K "law" "law" (defArgs (top 47)) (defBody (top 47)) (defScope (top 47)) [] [] (He.ga K "law") fd := by
  have V : Ev K mg := ⟨⟨h, X, G⟩, c⟩
  obtain ⟨fd, F⟩ := c.def_ 35 (d := dd "law" 47) rfl
  have F : FunD K "law" "law" (defArgs (top 47)) (defBody (top 47)) (defScope (top 47)) [] [] (He.ga K "law") fd := F
  have e := (hfa.symm.trans (g_law V))
  cases e
  exact ⟨rfl, fd, fun s u => FunD.bindsA (ps := ["_law_script"]) F (fun _ _ _ _ _ _ us hl => match us, hl with | [_], _ => rfl) s [u] rfl, F⟩
end K67
open PySem PySem.W PySem.Calls PyProof.Rows
theorem PySem.Challenge.cw_framesalike_k67_texts_of_sheets_holds : PySem.Challenge.rw_framesalike_k67_texts_of_sheets.Holds := by
  w_on; o_law
  refine HandSHeadRun.head_any (r := OpenLaw.row PySem.Challenge.rw_framesalike_k67_texts_of_sheets) (q := view (OpenLaw.row PySem.Challenge.rw_framesalike_k67_texts_of_sheets).prog [47]) (H := K67.hk) (ob := K67.ob) (M := 4000) (loose := K67.loose) (d := HandSHeadRun.topDef (OpenLaw.row PySem.Challenge.rw_framesalike_k67_texts_of_sheets).prog 47) (kwd := []) K67.ob_eq
    (by kernel_rfl) (fun s => by kernel_rfl) K67.run (by kernel_rfl) (by kernel_rfl) (by kernel_rfl) (by rfl) (by first | assumption | decide +kernel) (by decide +kernel) ⟨rfl, rfl, rfl, rfl, rfl, by decide +kernel⟩ ?hw ?hc
  case hw => w_witness2
  case hc =>
    refine Dn.walk_top (l := PySem.Challenge.rw_framesalike_k67_texts_of_sheets) (n := 63) (k := 7) (x := "_law_script") (N := K67.N_law) (sd := K67.d_law) rfl (by decide) (by kernel_rfl) ⟨rfl, by decide, by decide⟩ ?F ?math
    case F =>
      intro w mg fa h Y G hmg0
      obtain ⟨K, KX, c⟩ := Y
      have hmg : mg ("law" : PySem.Str) = some (.ref fa) := by
        have e : (HandSHeadRun.topDef (OpenLaw.row PySem.Challenge.rw_framesalike_k67_texts_of_sheets).prog 47).name = ("law" : PySem.Str) := by kernel_rfl
        rw [← e]
        exact hmg0
      obtain ⟨rfl, fd, hb, F⟩ := K67.facts (P := (PySem.Challenge.rw_framesalike_k67_texts_of_sheets).prog) (w := w) KX G hmg c
      exact ⟨K, fd, _, _, _, _, _, _, _, KX, hb, F, K67.sc_law, fun base h1 h2 cdv outer s H E hr => K67.law_ok ⟨⟨h, KX, G⟩, c⟩ cdv outer s H E hr⟩
    case math =>
      intro ns hl _
      exact K67.math hl

end
