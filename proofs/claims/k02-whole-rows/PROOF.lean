import PyProof.Rows.All
import Wide.All
import OpenK.AllK
import Wide.FinOn
import HandS.ForMost
import HandS.ForExc
import HandS.Defaults
import HandS.TupAny
import HandS.TupMul
import HandS.Deep
import HandS.IsInst
import HandS.WordsExc
import HandS.Walk
import KE.GoesEnum
import HandS.Style
import HandS.Head0
import HandS.Head1
import HandS.Head2
import HandS.HeadEnd
import HandS.HeadHook1
import HandS.HeadHook2
import PySem.Challenge.RW_butfewrows_k02_whole_rows
set_option Elab.async false
set_option linter.all false
set_option autoImplicit false
set_option maxRecDepth 100000
set_option maxHeartbeats 2000000
namespace BF
open PySem PySem.Spec PyProof.Rows L2

/-- data -/
inductive D where
  | non | bl (b : Bool) | int (i : Int) | str (x : Str) | lst (xs : List D) | tup (xs : List D) | dct (kvs : List (D × D)) | obj (c : Str) (f : Str) (d : D) | ref (a : Addr) | ty (n : String)
  deriving Inhabited

/-- what a value stands for, over the frozen heap F; co: the classes' addresses -/
structure Env1 where
  K : PySem.W.Frag
  co : Str → Addr
  cs : List Str

/-- a tuple: tracked, or of the written part -/
def TupAt (K : PySem.W.Frag) (F : Hp) (a : Addr) (xs : List V) : Prop :=
  F a = some (.tup xs) ∨ ∃ (o : Obj) (its : Array Value) (n : Nat), K.lookup a = some o ∧ o.cls = .type "tuple" ∧ o.data = .seq its n ∧ its.size ≤ sizeLine ∧ Vals xs its.toList
theorem TupAt.sq {K : PySem.W.Frag} {F : Hp} {a : Addr} {xs : List V} (h : TupAt K F a xs) : SqT K F a xs := h.elim (fun h => .inl (.inl h)) .inr
mutual
inductive Rep (K : Env1) (F : Hp) : V → D → Prop
  | non : Rep K F .non .non
  | bl (b : Bool) : Rep K F (.bl b) (.bl b)
  | int (i : Int) : Rep K F (.int i) (.int i)
  | str (x : Str) : Rep K F (.str x) (.str x)
  | ref (a : Addr) : Rep K F (.ref a) (.ref a)
  | ty (n : String) : Rep K F (.ty n) (.ty n)
  | lst {a : Addr} {vs : List V} {ds : List D} : F a = some (.lst vs) → Reps K F vs ds → Rep K F (.ref a) (.lst ds)
  | tup {a : Addr} {vs : List V} {ds : List D} : TupAt K.K F a vs → Reps K F vs ds → Rep K F (.ref a) (.tup ds)
  | obj {a dx : Addr} {c f : Str} {v : V} {d : D} : F a = some (.ins (K.co c) dx [(f, v)]) → Rep K F v d → Rep K F (.ref a) (.obj c f d)
inductive Reps (K : Env1) (F : Hp) : List V → List D → Prop
  | nil : Reps K F [] []
  | cons {v : V} {vs : List V} {d : D} {ds : List D} : Rep K F v d → Reps K F vs ds → Reps K F (v :: vs) (d :: ds)
end

/-- one heap within another -/
def Le (F G : Hp) : Prop := ∀ a o, F a = some o → G a = some o
theorem Le.refl (F : Hp) : Le F F := fun _ _ h => h
theorem Le.trans {F G H : Hp} (a : Le F G) (b : Le G H) : Le F H := fun x o h => b x o (a x o h)
theorem Le.sqL {K : PySem.W.Frag} {F G : Hp} {a : Addr} {xs : List V} (e : Le F G) (h : SqL K F a xs) : SqL K G a xs := by
  rcases h with (h | ⟨o, h⟩) | h
  · exact .inl (.inl (e _ _ h))
  · exact .inl (.inr ⟨o, e _ _ h⟩)
  · exact .inr h
theorem Le.sqT {K : PySem.W.Frag} {F G : Hp} {a : Addr} {xs : List V} (e : Le F G) (h : TupAt K F a xs) : TupAt K G a xs := by
  rcases h with h | h
  · exact .inl (e _ _ h)
  · exact .inr h
mutual
theorem Rep.mono {K : Env1} {F G : Hp} (e : Le F G) : ∀ {v : V} {d : D}, Rep K F v d → Rep K G v d
  | _, _, .non => .non
  | _, _, .bl b => .bl b
  | _, _, .int i => .int i
  | _, _, .str x => .str x
  | _, _, .ref a => .ref a
  | _, _, .ty n => .ty n
  | _, _, .lst h r => .lst (e _ _ h) (Reps.mono e r)
  | _, _, .tup h r => .tup (e.sqT h) (Reps.mono e r)
  | _, _, .obj h r => .obj (e _ _ h) (Rep.mono e r)
theorem Reps.mono {K : Env1} {F G : Hp} (e : Le F G) : ∀ {vs : List V} {ds : List D}, Reps K F vs ds → Reps K G vs ds
  | _, _, .nil => .nil
  | _, _, .cons h r => .cons (Rep.mono e h) (Reps.mono e r)
end
end BF
set_option Elab.async false
set_option linter.all false
set_option autoImplicit false
set_option maxRecDepth 100000
set_option maxHeartbeats 2000000
namespace BF
open PySem PySem.Spec PyProof.Rows L2
abbrev Sl := L2.St

/-- an error: its class, its fields -/
structure Er where
  cls : Str
  fs : List (Str × D)
/-- a def's local state: slots (whether the object is the slot's own, its data), the shared state -/
structure Sg (G : Type) where
  sl : List (Option (Bool × D))
  g : G
inductive Rs (G α : Type) where
  | ok (a : α) (s : Sg G)
  | er (x : Er) (g : G)
  | no
def Rs.bind {G α β : Type} (r : Rs G α) (f : α → Sg G → Rs G β) : Rs G β := match r with
  | .ok a s => f a s
  | .er x g => .er x g
  | .no => .no
/-- an operand: data, new data (a list or dict that nobody holds), a slot -/
inductive Ov where
  | vl (d : D) | fr (d : D) | pl (i : Nat)
def look {G : Type} (s : Sg G) (i : Nat) : Option D := match s.sl[i]? with
  | some (some (_, d)) => some d
  | _ => none
/-- read an operand -/
def pk {G : Type} (s : Sg G) : Ov → Option D
  | .vl d => some d
  | .fr d => some d
  | .pl i => look s i
/-- the shared state: the addresses that are its own, what it says of the heap -/
structure Gt (G : Type) where
  fp : Addr → Prop
  gr : G → Hp → Prop
  live : ∀ g H a, gr g H → fp a → H a ≠ none
  dep : ∀ g H H', gr g H → (∀ a, fp a → H' a = H a) → gr g H'
/-- what stands at an own object, shallow -/
def Shl (K : Env1) (F H : Hp) (p : Addr) : D → Prop
  | .lst ds => ∃ vs, H p = some (.lst vs) ∧ Reps K F vs ds
  | _ => False
section
variable {G : Type}
/-- a slot's own object -/
def Ownd (s : Sg G) (σ : Sl) (a : Addr) : Prop := ∃ (i : Nat) (d : D), s.sl[i]? = some (some (true, d)) ∧ σ[i]? = some (some (.ref a))
structure Rl (K : Env1) (T : Gt G) (F H : Hp) (s : Sg G) (σ : Sl) : Prop where
  sub : Le F H
  len : s.sl.length = σ.length
  val : ∀ (i : Nat) (d : D), s.sl[i]? = some (some (false, d)) → ∃ v, σ[i]? = some (some v) ∧ Rep K F v d
  own : ∀ (i : Nat) (d : D), s.sl[i]? = some (some (true, d)) → ∃ p, σ[i]? = some (some (.ref p)) ∧ F p = none ∧ ¬ T.fp p ∧ Shl K F H p d
  inj : ∀ (i j : Nat) (d e : D) (p : Addr), s.sl[i]? = some (some (true, d)) → s.sl[j]? = some (some (true, e)) → σ[i]? = some (some (.ref p)) → σ[j]? = some (some (.ref p)) → i = j
  gs : T.gr s.g H
  gf : ∀ a, T.fp a → F a = none
/-- a step: what stood stands but for what is own; what is newly frozen was new or own; what is newly own was new -/
structure Stp (T : Gt G) (F H : Hp) (s : Sg G) (σ : Sl) (F' H' : Hp) (s' : Sg G) (σ' : Sl) : Prop where
  le : Le F F'
  keep : ∀ a o, H a = some o → ¬ Ownd s σ a → ¬ T.fp a → H' a = some o
  new : ∀ a, F' a ≠ none → F a ≠ none ∨ H a = none ∨ Ownd s σ a
  own : ∀ a, Ownd s' σ' a → Ownd s σ a ∨ H a = none
  kp : ∀ (i : Nat) (y : Bool × D), s.sl[i]? = some (some y) → ∃ z, s'.sl[i]? = some (some z)
  grow : ∀ a, H a ≠ none → H' a ≠ none
theorem Stp.refl (T : Gt G) (F H : Hp) (s : Sg G) (σ : Sl) : Stp T F H s σ F H s σ := ⟨Le.refl _, fun _ _ h _ _ => h, fun _ h => .inl h, fun _ h => .inl h, fun _ y h => ⟨y, h⟩, fun _ h => h⟩
theorem Stp.trans {K : Env1} {T : Gt G} {F H F1 H1 F2 H2 : Hp} {s s1 s2 : Sg G} {σ σ1 σ2 : Sl} (a : Stp T F H s σ F1 H1 s1 σ1) (b : Stp T F1 H1 s1 σ1 F2 H2 s2 σ2) (R : Rl K T F H s σ) (R2 : Rl K T F2 H2 s2 σ2) : Stp T F H s σ F2 H2 s2 σ2 where
  le := a.le.trans b.le
  keep := fun x o h n f => b.keep x o (a.keep x o h n f) (fun z => by
    rcases a.own x z with z | z
    · exact n z
    · rw [h] at z; cases z) f
  new := fun x h => by
    rcases b.new x h with z | z | z
    · exact a.new x z
    · cases e : H x with
      | none => exact .inr (.inl rfl)
      | some o =>
        refine .inr (.inr ?_)
        apply Classical.byContradiction
        intro n
        have nf : ¬ T.fp x := fun q => h (R2.gf x q)
        rw [a.keep x o e n nf] at z; cases z
    · rcases a.own x z with z | z
      · exact .inr (.inr z)
      · exact .inr (.inl z)
  own := fun x h => by
    rcases b.own x h with z | z
    · exact a.own x z
    · cases e : H x with
      | none => exact .inr rfl
      | some o =>
        refine .inl ?_
        apply Classical.byContradiction
        intro n
        by_cases nf : T.fp x
        · obtain ⟨i, d, h1, h2⟩ := h
          obtain ⟨p, q1, _, q3, _⟩ := R2.own i d h1
          rw [h2] at q1; cases q1
          exact q3 nf
        · rw [a.keep x o e n nf] at z; cases z
  kp := fun i y h => by
    obtain ⟨z, h1⟩ := a.kp i y h
    exact b.kp i z h1
  grow := fun x h => b.grow x (a.grow x h)
/-- an operand's value -/
def RO (K : Env1) (T : Gt G) (H0 F H : Hp) (s : Sg G) (σ : Sl) (v : V) : Ov → Prop
  | .vl d => Rep K F v d
  | .fr d => ∃ p, v = .ref p ∧ H0 p = none ∧ F p = none ∧ ¬ T.fp p ∧ ¬ Ownd s σ p ∧ Shl K F H p d
  | .pl i => σ[i]? = some (some v) ∧ ∃ x, s.sl[i]? = some (some x)
/-- a value read at once: frozen data, or an object that may be read just now -/
def RH (K : Env1) (F H : Hp) (v : V) (d : D) : Prop := Rep K F v d ∨ ∃ p, v = .ref p ∧ Shl K F H p d
theorem RO.rh {K : Env1} {T : Gt G} {H0 F H : Hp} {s : Sg G} {σ : Sl} {v : V} {x : Ov} {d : D} (R : Rl K T F H s σ) (r : RO K T H0 F H s σ v x) (h : pk s x = some d) : RH K F H v d := by
  cases x with
  | vl e => cases h; exact .inl r
  | fr e => cases h; obtain ⟨p, h1, _, _, _, _, h2⟩ := r; exact .inr ⟨p, h1, h2⟩
  | pl i =>
    obtain ⟨h1, ⟨b, e⟩, h2⟩ := r
    have h3 : look s i = some d := h
    unfold look at h3
    rw [h2] at h3
    cases h3
    cases b with
    | false =>
      obtain ⟨v', q1, q2⟩ := R.val i _ h2
      rw [h1] at q1; cases q1
      exact .inl q2
    | true =>
      obtain ⟨p, q1, _, _, q2⟩ := R.own i _ h2
      rw [h1] at q1; cases q1
      exact .inr ⟨p, rfl, q2⟩
/-- a slot is frozen -/
def frzS (s : Sg G) (i : Nat) : Sg G := match s.sl[i]? with
  | some (some (true, d)) => { s with sl := s.sl.set i (some (false, d)) }
  | _ => s
/-- use an operand: what is own or new is frozen -/
def use (s : Sg G) : Ov → Rs G D
  | .vl d => .ok d s
  | .fr d => .ok d s
  | .pl i => match look s i with
    | some d => .ok d (frzS s i)
    | none => .no
end

/-! ### freezing -/
section
variable {G : Type} {K : Env1} {T : Gt G} {F H : Hp} {s : Sg G} {σ : Sl}
/-- the frozen heap with what stands at p -/
def put (F H : Hp) (p : Addr) : Hp := fun b => if b = p then H p else F b
theorem put_le {p : Addr} (h : F p = none) : Le F (put F H p) := fun a o e => by
  unfold put
  by_cases q : a = p
  · subst q; rw [h] at e; cases e
  · rw [if_neg q]; exact e
theorem put_sub {p : Addr} (h : Le F H) : Le (put F H p) H := fun a o e => by
  unfold put at e
  by_cases q : a = p
  · subst q; rw [if_pos rfl] at e; exact e
  · rw [if_neg q] at e; exact h a o e
theorem put_at {p : Addr} : put F H p p = H p := if_pos rfl
theorem put_ne {p a : Addr} (h : a ≠ p) : put F H p a = F a := if_neg h
theorem Shl.mono {F' H' : Hp} {p : Addr} {d : D} (h : Shl K F H p d) (e : Le F F') (e2 : H' p = H p) : Shl K F' H' p d := by
  cases d with
  | lst ds => obtain ⟨vs, h1, h2⟩ := h; exact ⟨vs, e2.trans h1, h2.mono e⟩
  | _ => exact h.elim
theorem Shl.some {p : Addr} {d : D} (h : Shl K F H p d) : H p ≠ none := by
  cases d with
  | lst ds => obtain ⟨vs, h1, _⟩ := h; rw [h1]; exact fun z => nomatch z
  | _ => exact h.elim
theorem Shl.rep {p : Addr} {d : D} (h : Shl K F H p d) (n : F p = none) : Rep K (put F H p) (.ref p) d := by
  cases d with
  | lst ds => obtain ⟨vs, h1, h2⟩ := h; exact .lst (put_at.trans h1) (h2.mono (put_le n))
  | _ => exact h.elim
theorem set_none {α : Type} {l : List α} {i : Nat} {x : α} (h : l[i]? = none) : l.set i x = l := List.set_eq_of_length_le (List.getElem?_eq_none_iff.mp h)
/-- a new object is frozen -/
theorem Rl.freeze {p : Addr} {d : D} (R : Rl K T F H s σ) (n : F p = none) (nf : ¬ T.fp p) (no : ¬ Ownd s σ p) (h : Shl K F H p d) : Rl K T (put F H p) H s σ where
  sub := put_sub R.sub
  len := R.len
  val := fun i d h => by
    obtain ⟨v, h1, h2⟩ := R.val i d h
    exact ⟨v, h1, h2.mono (put_le n)⟩
  own := fun i d h => by
    obtain ⟨q, h1, h2, h3, h4⟩ := R.own i d h
    have ne : q ≠ p := fun z => no ⟨i, d, h, by rw [← z]; exact h1⟩
    exact ⟨q, h1, (put_ne ne).trans h2, h3, h4.mono (put_le n) rfl⟩
  inj := R.inj
  gs := R.gs
  gf := fun a h => (put_ne (fun (z : a = p) => nf (by rw [← z]; exact h))).trans (R.gf a h)
theorem frzS_get (s : Sg G) (i j : Nat) : (frzS s i).sl[j]? = if j = i then (s.sl[j]?).map (fun x => x.map fun y => (false, y.2)) else s.sl[j]? := by
  unfold frzS
  split
  · rename_i d e
    by_cases q : j = i
    · subst q
      rw [if_pos rfl, e]
      have hl : j < s.sl.length := by
        rcases Nat.lt_or_ge j s.sl.length with h | h
        · exact h
        · rw [List.getElem?_eq_none h] at e; cases e
      show (s.sl.set j _)[j]? = _
      rw [List.getElem?_set_self hl]; rfl
    · rw [if_neg q]
      show (s.sl.set i _)[j]? = _
      rw [List.getElem?_set_ne (Ne.symm q)]
  · rename_i e
    by_cases q : j = i
    · subst q
      rw [if_pos rfl]
      match h : s.sl[j]? with
      | none => rfl
      | some none => rfl
      | some (some (false, d)) => rfl
      | some (some (true, d)) => exact (e d h).elim
    · rw [if_neg q]
theorem frzS_kp {s : Sg G} {i j : Nat} {y : Bool × D} (h : s.sl[j]? = some (some y)) : ∃ z, (frzS s i).sl[j]? = some (some z) := by
  rw [frzS_get, h]
  by_cases q : j = i
  · exact ⟨_, if_pos q⟩
  · exact ⟨_, if_neg q⟩
theorem frzS_g (s : Sg G) (i : Nat) : (frzS s i).g = s.g := by unfold frzS; split <;> rfl
theorem frzS_len (s : Sg G) (i : Nat) : (frzS s i).sl.length = s.sl.length := by
  unfold frzS; split
  · exact List.length_set ..
  · rfl
theorem frzS_own {i : Nat} {a : Addr} (h : Ownd (frzS s i) σ a) : Ownd s σ a := by
  obtain ⟨j, d, h1, h2⟩ := h
  rw [frzS_get] at h1
  by_cases q : j = i
  · rw [if_pos q] at h1
    cases e : s.sl[j]? with
    | none => rw [e] at h1; simp at h1
    | some x => rw [e] at h1; cases x <;> simp at h1
  · rw [if_neg q] at h1
    exact ⟨j, d, h1, h2⟩
/-- a slot's own object is frozen -/
theorem Rl.frz {i : Nat} {p : Addr} {d : D} (R : Rl K T F H s σ) (e : s.sl[i]? = some (some (true, d))) (hp : σ[i]? = some (some (.ref p))) : Rl K T (put F H p) H (frzS s i) σ ∧ Stp T F H s σ (put F H p) H (frzS s i) σ ∧ Rep K (put F H p) (.ref p) d := by
  obtain ⟨p', h1, n, nf, sh⟩ := R.own i d e
  rw [hp] at h1; cases h1
  have ow : Ownd s σ p := ⟨i, d, e, hp⟩
  refine ⟨⟨put_sub R.sub, (frzS_len s i).trans R.len, fun j x h => ?_, fun j x h => ?_, fun j k x y q h1 h2 => ?_, ?_, fun a h => (put_ne (fun (z : a = p) => nf (by rw [← z]; exact h))).trans (R.gf a h)⟩, ⟨put_le n, fun _ _ h _ _ => h, fun a h => ?_, fun a h => .inl (frzS_own h), fun j y h => frzS_kp h, fun _ h => h⟩, sh.rep n⟩
  · rw [frzS_get] at h
    by_cases q : j = i
    · subst q
      rw [if_pos rfl, e] at h
      cases h
      exact ⟨_, hp, sh.rep n⟩
    · rw [if_neg q] at h
      obtain ⟨v, h1, h2⟩ := R.val j x h
      exact ⟨v, h1, h2.mono (put_le n)⟩
  · rw [frzS_get] at h
    by_cases q : j = i
    · subst q
      rw [if_pos rfl, e] at h
      cases h
    · rw [if_neg q] at h
      obtain ⟨r, h1, h2, h3, h4⟩ := R.own j x h
      have ne : r ≠ p := fun z => q (R.inj j i x d p h e (z ▸ h1) hp)
      exact ⟨r, h1, (put_ne ne).trans h2, h3, h4.mono (put_le n) rfl⟩
  · have back : ∀ {m z}, (frzS s i).sl[m]? = some (some (true, z)) → s.sl[m]? = some (some (true, z)) := fun {m z} h => by
      rw [frzS_get] at h
      by_cases q : m = i
      · subst q; rw [if_pos rfl, e] at h; cases h
      · rw [if_neg q] at h; exact h
    exact R.inj j k x y q (back h1) (back h2)
  · rw [frzS_g]; exact R.gs
  · by_cases q : a = p
    · subst q; exact .inr (.inr ow)
    · rw [put_ne q] at h; exact .inl h
/-- new data settles: it is frozen -/
def stl : Ov → Ov
  | .fr d => .vl d
  | x => x
theorem pk_stl (s : Sg G) (x : Ov) : pk s (stl x) = pk s x := by cases x <;> rfl
theorem use_stl (s : Sg G) (x : Ov) : use s (stl x) = use s x := by cases x <;> rfl
theorem RO.settle {H0 F0 : Hp} {s0 : Sg G} {v : V} {x : Ov} (S : Stp T F0 H0 s0 σ F H s σ) (R : Rl K T F H s σ) (r : RO K T H0 F H s σ v x) : ∃ F', Rl K T F' H s σ ∧ Stp T F0 H0 s0 σ F' H s σ ∧ RO K T H0 F' H s σ v (stl x) := by
  cases x with
  | vl d => exact ⟨F, R, S, r⟩
  | pl i => exact ⟨F, R, S, r⟩
  | fr d =>
    obtain ⟨p, rfl, n0, n, nf, no, sh⟩ := r
    refine ⟨put F H p, R.freeze n nf no sh, ⟨S.le.trans (put_le n), S.keep, fun a h => ?_, S.own, S.kp, S.grow⟩, sh.rep n⟩
    by_cases q : a = p
    · subst q; exact .inr (.inl n0)
    · rw [put_ne q] at h; exact S.new a h
/-- an operand is used: its value is data now -/
theorem RO.used {H0 F0 : Hp} {s0 : Sg G} {v : V} {x : Ov} {d : D} {s' : Sg G} (S : Stp T F0 H0 s0 σ F H s σ) (R0 : Rl K T F0 H0 s0 σ) (R : Rl K T F H s σ) (r : RO K T H0 F H s σ v x) (h : use s x = .ok d s') :
    ∃ F', Rl K T F' H s' σ ∧ Stp T F0 H0 s0 σ F' H s' σ ∧ Rep K F' v d := by
  obtain ⟨F1, R1, S1, r1⟩ := r.settle S R
  rw [← use_stl] at h
  cases x with
  | vl e => cases h; exact ⟨F1, R1, S1, r1⟩
  | fr e => cases h; exact ⟨F1, R1, S1, r1⟩
  | pl i =>
    obtain ⟨h1, ⟨b, e⟩, h2⟩ := r1
    have hl : look s i = some e := by unfold look; rw [h2]
    have h3 : (match look s i with
      | some d => Rs.ok d (frzS s i)
      | none => Rs.no) = Rs.ok d s' := h
    rw [hl] at h3
    cases h3
    cases b with
    | false =>
      obtain ⟨v', q1, q2⟩ := R1.val i _ h2
      rw [h1] at q1; cases q1
      have es : frzS s i = s := by unfold frzS; rw [h2]
      rw [es]
      exact ⟨F1, R1, S1, q2⟩
    | true =>
      obtain ⟨p, q1, _⟩ := R1.own i _ h2
      rw [h1] at q1; cases q1
      obtain ⟨a1, a2, a3⟩ := R1.frz h2 h1
      exact ⟨_, a1, S1.trans a2 R0 a1, a3⟩
end
end BF
set_option Elab.async false
set_option linter.all false
set_option autoImplicit false
set_option maxRecDepth 100000
set_option maxHeartbeats 2000000
namespace BF
open PySem PySem.Spec PyProof.Rows L2

/-! ### readings: what must hold ahead -/
def wpE (X : Cx) (e : Expr) : TE := fun σ H Q => ∀ (pins : List (Addr × Obj)) (s : Shared), Inv X pins σ H s → wpAny (model X.prog X.w) X.A (eval e X.env) (EP X pins σ Q) X.xe s
theorem pe_self (X : Cx) (e : Expr) : PE X e (wpE X e) := ⟨fun pins s σ H Q I h => h pins s I⟩
theorem wpE_of {X : Cx} {e : Expr} {t : TE} {σ : Sl} {H : Hp} {Q : VK} (h : PE X e t) (q : t σ H Q) : wpE X e σ H Q := fun pins s I => h.run pins s σ H Q I q
def wpT (X : Cx) (e : Expr) : TT := fun σ H Q => ∀ (pins : List (Addr × Obj)) (s : Shared), Inv X pins σ H s → wpAny (model X.prog X.w) X.A (isTrue e X.env (eval e X.env)) (TP X pins σ Q) X.xe s
theorem pt_self (X : Cx) (e : Expr) : PT X e (wpT X e) := ⟨fun pins s σ H Q I h => h pins s I⟩
theorem wpT_of {X : Cx} {e : Expr} {t : TT} {σ : Sl} {H : Hp} {Q : Bool → Hp → Prop} (h : PT X e t) (q : t σ H Q) : wpT X e σ H Q := fun pins s I => h.run pins s σ H Q I q
def wpS (X : Cx) (st : Stmt) : TS := fun D σ H => ∀ (pins : List (Addr × Obj)) (s : Shared), Inv X pins σ H s → wpAny (model X.prog X.w) X.A (exec st X.env) (SP X pins D) X.xe s
theorem ps_self (X : Cx) (st : Stmt) : PS X st (wpS X st) := ⟨fun pins s σ H D I h => h pins s I⟩
theorem wpS_of {X : Cx} {st : Stmt} {t : TS} {σ : Sl} {H : Hp} {D : Ends} (h : PS X st t) (q : t D σ H) : wpS X st D σ H := fun pins s I => h.run pins s σ H D I q
def wpB (X : Cx) (st : List Stmt) : TS := fun D σ H => ∀ (pins : List (Addr × Obj)) (s : Shared), Inv X pins σ H s → wpAny (model X.prog X.w) X.A (execs st X.env) (SP X pins D) X.xe s
theorem pss_self (X : Cx) (st : List Stmt) : PSs X st (wpB X st) := ⟨fun pins s σ H D I h => h pins s I⟩
theorem wpB_of {X : Cx} {st : List Stmt} {t : TS} {σ : Sl} {H : Hp} {D : Ends} (h : PSs X st t) (q : t D σ H) : wpB X st D σ H := fun pins s I => h.run pins s σ H D I q
/-- expressions from the left -/
def wpL (X : Cx) : List Expr → TA
  | [] => fun _ H Q => Q [] H
  | e :: es => fun σ H Q => wpE X e σ H fun v H1 => wpL X es σ H1 fun vs H2 => Q (v :: vs) H2
def noStar : Expr → Bool
  | .Starred _ _ => false
  | _ => true
theorem starEach_of {e : Expr} {es : List Expr} {env : Env} (h : noStar e = true) : starEach (e :: es) env = (false, eval e env) :: starEach es env := by
  cases e <;> first | rfl | cases h
theorem pa_self (X : Cx) : ∀ {es : List Expr}, es.all noStar = true → PA X es (wpL X es)
  | [], _ => pa_nil
  | e :: es, h => by
    have h' := Bool.and_eq_true_iff.mp (show (noStar e && es.all noStar) = true from h)
    exact pa_cons (pe_self X e) (pa_self X h'.2) (starEach_of h'.1)
theorem back_of (X : Cx) (pos : Pos) : ∀ {es : List Expr}, es.all noStar = true → (backTo pos (starEach es X.env)).any (·.1) = false
  | [], _ => rfl
  | e :: es, h => by
    have h' := Bool.and_eq_true_iff.mp (show (noStar e && es.all noStar) = true from h)
    rw [starEach_of h'.1]
    have := back_of X pos h'.2
    simpa [backTo] using this

section
variable {G : Type}
/-- an error leaves: what holds then -/
structure Xst (T : Gt G) (F H : Hp) (s : Sg G) (σ : Sl) (F' H' : Hp) (g' : G) : Prop where
  le : Le F F'
  sub : Le F' H'
  keep : ∀ a o, H a = some o → ¬ Ownd s σ a → ¬ T.fp a → H' a = some o
  new : ∀ a, F' a ≠ none → F a ≠ none ∨ H a = none ∨ Ownd s σ a
  gs : T.gr g' H'
  gf : ∀ a, T.fp a → F' a = none
/-- the raised error: its class, its own dict -/
def ErR (K : Env1) (x : Er) (cls : Value) (dd : Option Addr) (F' H' : Hp) : Prop :=
  cls = .ref (K.co x.cls) ∧ ((x.fs = [] ∧ dd = none) ∨ ∃ d fs, dd = some d ∧ H' d = some (.xd fs) ∧ fs.map (·.1) = x.fs.map (·.1) ∧ Reps K F' (fs.map (·.2)) (x.fs.map (·.2)))
/-- what is wanted of errors: class, dict, slots, heap -/
abbrev WX1 := Value → Option Addr → Sl → Hp → Prop
def PstX (K : Env1) (T : Gt G) (W : WX1) (F H : Hp) (s : Sg G) (σ : Sl) (x : Er) (g : G) : Prop := ∀ cls dd F' H' σ', Xst T F H s σ F' H' g → ErR K x cls dd F' H' → W cls dd σ' H'
def PstE (K : Env1) (T : Gt G) (W : WX1) (F H : Hp) (s : Sg G) (σ : Sl) (r : Rs G Ov) (Q : VK) : Prop := match r with
  | .ok x s' => ∀ v F' H', Stp T F H s σ F' H' s' σ → Rl K T F' H' s' σ → RO K T H F' H' s' σ v x → Q v H'
  | .er x g => PstX K T W F H s σ x g
  | .no => False
/-- values of operands, all at one state; new ones are apart -/
inductive ROs (K : Env1) (T : Gt G) (H0 F H : Hp) (s : Sg G) (σ : Sl) : List V → List Ov → Prop
  | nil : ROs K T H0 F H s σ [] []
  | cons {v : V} {vs : List V} {x : Ov} {xs : List Ov} : RO K T H0 F H s σ v x → (∀ d, x = .fr d → ∀ q ∈ vs.zip xs, ∀ e, q.2 = .fr e → q.1 ≠ v) → ROs K T H0 F H s σ vs xs → ROs K T H0 F H s σ (v :: vs) (x :: xs)
def PstL (K : Env1) (T : Gt G) (W : WX1) (F H : Hp) (s : Sg G) (σ : Sl) (r : Rs G (List Ov)) (Q : List V → Hp → Prop) : Prop := match r with
  | .ok xs s' => ∀ vs F' H', Stp T F H s σ F' H' s' σ → Rl K T F' H' s' σ → ROs K T H F' H' s' σ vs xs → Q vs H'
  | .er x g => PstX K T W F H s σ x g
  | .no => False
/-- the judgement of an expression: f is what it does -/
def SE (X : Cx) (K : Env1) (T : Gt G) (W : WX1) (e : Expr) (f : Sg G → Rs G Ov) : Prop := ∀ F H σ s Q, Rl K T F H s σ → PstE K T W F H s σ (f s) Q → wpE X e σ H Q
def SL (X : Cx) (K : Env1) (T : Gt G) (W : WX1) (es : List Expr) (f : Sg G → Rs G (List Ov)) : Prop := ∀ F H σ s Q, Rl K T F H s σ → PstL K T W F H s σ (f s) Q → wpL X es σ H Q
end

section
variable {G : Type} {X : Cx} {K : Env1} {T : Gt G} {W : WX1} {F H F1 H1 : Hp} {s s1 : Sg G} {σ : Sl}
/-- an error behind a step -/
theorem PstX.step {x : Er} {g : G} (S : Stp T F H s σ F1 H1 s1 σ) (R : Rl K T F H s σ) (R1 : Rl K T F1 H1 s1 σ) (h : PstX K T W F H s σ x g) : PstX K T W F1 H1 s1 σ x g := fun cls dd F' H' σ' q e => by
  refine h cls dd F' H' σ' ⟨S.le.trans q.le, q.sub, fun a o e n nf => ?_, fun a n => ?_, q.gs, q.gf⟩ e
  · refine q.keep a o (S.keep a o e n nf) (fun z => ?_) nf
    rcases S.own a z with z | z
    · exact n z
    · rw [e] at z; cases z
  · rcases q.new a n with z | z | z
    · exact S.new a z
    · cases e : H a with
      | none => exact .inr (.inl rfl)
      | some o =>
        refine .inr (.inr ?_)
        apply Classical.byContradiction
        intro no
        by_cases nf : T.fp a
        · exact n (q.gf a nf)
        · rw [S.keep a o e no nf] at z; cases z
    · rcases S.own a z with z | z
      · exact .inr (.inr z)
      · exact .inr (.inl z)
/-- an operand behind a further step -/
theorem RO.step {H0 F2 H2 : Hp} {s2 : Sg G} {v : V} {x : Ov} (S : Stp T F1 H1 s1 σ F2 H2 s2 σ) (r : RO K T H0 F1 H1 s1 σ v x) : RO K T H0 F2 H2 s2 σ v x := by
  cases x with
  | vl d => exact Rep.mono S.le r
  | pl i =>
    obtain ⟨h1, y, h2⟩ := r
    exact ⟨h1, S.kp i y h2⟩
  | fr d =>
    obtain ⟨p, e, n0, n, nf, no, sh⟩ := r
    have hp : H1 p ≠ none := sh.some
    refine ⟨p, e, n0, ?_, nf, fun z => ?_, sh.mono S.le ?_⟩
    · apply Classical.byContradiction
      intro q
      rcases S.new p q with z | z | z
      · exact z n
      · exact hp z
      · exact no z
    · rcases S.own p z with z | z
      · exact no z
      · exact hp z
    · cases e : H1 p with
      | none => exact (hp e).elim
      | some o => rw [S.keep p o e no nf]
end
end BF
set_option Elab.async false
set_option linter.all false
set_option autoImplicit false
set_option maxRecDepth 100000
set_option maxHeartbeats 2000000
namespace BF
open PySem PySem.Spec PyProof.Rows L2
section
variable {G : Type}
def evNil (s : Sg G) : Rs G (List Ov) := .ok [] s
def evCons (f : Sg G → Rs G Ov) (r : Sg G → Rs G (List Ov)) (s : Sg G) : Rs G (List Ov) := (f s).bind fun x s1 => (r s1).bind fun xs s2 => .ok (x :: xs) s2
/-- all operands, used -/
def uses (s : Sg G) : List Ov → Rs G (List D)
  | [] => .ok [] s
  | x :: xs => (use s x).bind fun d s1 => (uses s1 xs).bind fun ds s2 => .ok (d :: ds) s2
def pks (s : Sg G) : List Ov → Option (List D)
  | [] => some []
  | x :: xs => (pk s x).bind fun d => (pks s xs).map fun ds => d :: ds
end
section
variable {G : Type} {X : Cx} {K : Env1} {T : Gt G} {W : WX1} {F H F1 H1 : Hp} {s s1 : Sg G} {σ : Sl}
theorem ROs.new {H0 : Hp} {vs : List V} {xs : List Ov} (r : ROs K T H0 F H s σ vs xs) : ∀ q ∈ vs.zip xs, ∀ e, q.2 = .fr e → ∃ p, q.1 = .ref p ∧ H0 p = none := by
  induction r with
  | nil => intro q h; cases h
  | @cons v vs x xs h1 h2 h3 ih =>
    intro q hq e he
    rcases List.mem_cons.mp hq with rfl | hq
    · cases he
      obtain ⟨p, e1, e2, _⟩ := h1
      exact ⟨p, e1, e2⟩
    · exact ih q hq e he
theorem RO.from {H0 H00 : Hp} {v : V} {x : Ov} (g : ∀ a, H0 a = none → H00 a = none) (r : RO K T H0 F H s σ v x) : RO K T H00 F H s σ v x := by
  cases x with
  | vl d => exact r
  | pl i => exact r
  | fr d => obtain ⟨p, e, n, z⟩ := r; exact ⟨p, e, g p n, z⟩
theorem ROs.from {H0 H00 : Hp} {vs : List V} {xs : List Ov} (g : ∀ a, H0 a = none → H00 a = none) (r : ROs K T H0 F H s σ vs xs) : ROs K T H00 F H s σ vs xs := by
  induction r with
  | nil => exact .nil
  | cons h1 h2 h3 ih => exact .cons (h1.from g) h2 ih
theorem Stp.none (S : Stp T F H s σ F1 H1 s1 σ) (a : Addr) (h : H1 a = none) : H a = none := by
  cases e : H a with
  | none => rfl
  | some o => exact (S.grow a (by rw [e]; exact fun z => nomatch z) h).elim
theorem sl_nil : SL X K T W [] (evNil (G := G)) := fun F H σ s Q R h => h [] F H (Stp.refl ..) R .nil
theorem sl_cons {e : Expr} {es : List Expr} {f : Sg G → Rs G Ov} {r : Sg G → Rs G (List Ov)} (hf : SE X K T W e f) (hr : SL X K T W es r) : SL X K T W (e :: es) (evCons f r) := by
  intro F H σ s Q R h
  show wpE X e σ H fun v H1 => wpL X es σ H1 fun vs H2 => Q (v :: vs) H2
  refine hf F H σ s _ R ?_
  unfold evCons at h
  cases q : f s with
  | no => rw [q] at h; exact h.elim
  | er x g => rw [q] at h; exact h
  | ok x s1 =>
    rw [q] at h
    intro v F1 H1 S1 R1 r1
    refine hr F1 H1 σ s1 _ R1 ?_
    have h : PstL K T W F H s σ ((r s1).bind fun xs s2 => .ok (x :: xs) s2) Q := h
    cases q2 : r s1 with
    | no => rw [q2] at h; exact h.elim
    | er x g => rw [q2] at h; exact PstX.step S1 R R1 h
    | ok xs s2 =>
      rw [q2] at h
      intro vs F2 H2 S2 R2 r2
      refine h (v :: vs) F2 H2 (S1.trans S2 R R2) R2 (.cons (r1.step S2) (fun d hx q hq e he => ?_) (r2.from S1.none))
      obtain ⟨p, e1, e2⟩ := r2.new q hq e he
      subst hx
      obtain ⟨p', e3, _, _, _, _, sh⟩ := r1
      intro z
      rw [e1, e3] at z
      cases z
      exact sh.some e2
/-- another new object is frozen meanwhile -/
theorem RO.put {H0 : Hp} {v : V} {x : Ov} {p : Addr} (n : F p = none) (ne : ∀ d, x = .fr d → v ≠ .ref p) (r : RO K T H0 F H s σ v x) : RO K T H0 (put F H p) H s σ v x := by
  cases x with
  | vl d => exact Rep.mono (put_le n) r
  | pl i => exact r
  | fr d =>
    obtain ⟨a, e, n0, n1, nf, no, sh⟩ := r
    have q : a ≠ p := fun z => ne d rfl (by rw [e, z])
    exact ⟨a, e, n0, (put_ne q).trans n1, nf, no, sh.mono (put_le n) rfl⟩
theorem ROs.put {H0 : Hp} {p : Addr} (n : F p = none) {vs : List V} {xs : List Ov} (r : ROs K T H0 F H s σ vs xs) : (∀ q ∈ vs.zip xs, ∀ e, q.2 = .fr e → q.1 ≠ .ref p) → ROs K T H0 (put F H p) H s σ vs xs := by
  induction r with
  | nil => intro _; exact .nil
  | @cons v vs x xs h1 h2 h3 ih =>
    intro h
    refine .cons (h1.put n fun d e => h (v, x) (List.mem_cons_self ..) d e) h2 (ih fun q hq => h q (List.mem_cons_of_mem _ hq))
theorem mem_stl {vs : List V} {xs : List Ov} {q : V × Ov} (h : q ∈ vs.zip (xs.map stl)) : ∀ e, q.2 ≠ .fr e := by
  intro e he
  obtain ⟨_, h2⟩ := List.of_mem_zip (show (q.1, q.2) ∈ vs.zip (xs.map stl) from h)
  obtain ⟨y, _, hy⟩ := List.mem_map.mp h2
  rw [he] at hy
  cases y <;> cases hy
/-- all settle -/
theorem ROs.settle {H0 F0 : Hp} {s0 : Sg G} {vs : List V} {xs : List Ov} : ∀ {F : Hp}, Stp T F0 H0 s0 σ F H s σ → Rl K T F H s σ → ROs K T H0 F H s σ vs xs → ∃ F', Le F F' ∧ Rl K T F' H s σ ∧ Stp T F0 H0 s0 σ F' H s σ ∧ ROs K T H0 F' H s σ vs (xs.map stl) := by
  induction vs generalizing xs with
  | nil => intro F S R r; cases r; exact ⟨F, Le.refl _, R, S, .nil⟩
  | cons v vs ih =>
    intro F S R r
    cases r with
    | @cons _ _ x xs h1 h2 h3 =>
      cases x with
      | vl d =>
        obtain ⟨F', l, R', S', r'⟩ := ih S R h3
        exact ⟨F', l, R', S', .cons (Rep.mono l h1) (fun d e => nomatch e) r'⟩
      | pl i =>
        obtain ⟨F', l, R', S', r'⟩ := ih S R h3
        exact ⟨F', l, R', S', .cons h1 (fun d e => nomatch e) r'⟩
      | fr d =>
        have h10 := h1
        obtain ⟨p, ev, n0, n, nf, no, sh⟩ := h1
        obtain ⟨F1, R1, S1, r1⟩ := RO.settle S R h10
        have R2 : Rl K T (BF.put F H p) H s σ := R.freeze n nf no sh
        have S2 : Stp T F0 H0 s0 σ (BF.put F H p) H s σ := by
          refine ⟨S.le.trans (put_le n), S.keep, fun a h => ?_, S.own, S.kp, S.grow⟩
          by_cases q : a = p
          · rw [q]; exact .inr (.inl n0)
          · rw [put_ne q] at h; exact S.new a h
        have h3' : ROs K T H0 (BF.put F H p) H s σ vs xs := h3.put n fun q hq e he => by rw [← ev]; exact h2 d rfl q hq e he
        obtain ⟨F', l, R', S', r'⟩ := ih S2 R2 h3'
        refine ⟨F', (put_le n).trans l, R', S', .cons ?_ (fun d e => nomatch e) r'⟩
        rw [ev]
        exact (sh.rep n).mono l
theorem pks_stl (s : Sg G) (xs : List Ov) : pks s (xs.map stl) = pks s xs := by
  induction xs with
  | nil => rfl
  | cons x xs ih => show (pk s (stl x)).bind _ = _; rw [pk_stl, ih]; rfl
theorem uses_stl (xs : List Ov) : ∀ (s : Sg G), uses s (xs.map stl) = uses s xs := by
  induction xs with
  | nil => intro s; rfl
  | cons x xs ih =>
    intro s
    show (use s (stl x)).bind _ = (use s x).bind _
    rw [use_stl]
    congr 1
    funext d s1
    rw [ih]
/-- all are used -/
theorem ROs.used0 {xs : List Ov} : ∀ {vs : List V} {F : Hp} {s s' : Sg G} {ds : List D}, Rl K T F H s σ → ROs K T H F H s σ vs (xs.map stl) → uses s (xs.map stl) = .ok ds s' → ∃ F', Rl K T F' H s' σ ∧ Stp T F H s σ F' H s' σ ∧ Reps K F' vs ds := by
  induction xs with
  | nil => intro vs F s s' ds R r h; cases r; cases h; exact ⟨F, R, Stp.refl .., .nil⟩
  | cons x xs ih =>
    intro vs F s s' ds R r h
    cases r with
    | @cons v vs _ _ h1 h2 h3 =>
      have h : ((use s (stl x)).bind fun d s1 => (uses s1 (xs.map stl)).bind fun ds s2 => .ok (d :: ds) s2) = .ok ds s' := h
      cases q : use s (stl x) with
      | no => rw [q] at h; cases h
      | er y g => rw [q] at h; cases h
      | ok d s1 =>
        rw [q] at h
        have h : ((uses s1 (xs.map stl)).bind fun ds s2 => .ok (d :: ds) s2) = .ok ds s' := h
        cases q2 : uses s1 (xs.map stl) with
        | no => rw [q2] at h; cases h
        | er y g => rw [q2] at h; cases h
        | ok es s2 =>
          rw [q2] at h
          cases h
          obtain ⟨F1, R1, S1, p1⟩ := RO.used (Stp.refl T F H s σ) R R h1 q
          have st : ∀ {vs : List V} {ys : List Ov}, ROs K T H F H s σ vs ys → ROs K T H F1 H s1 σ vs ys := by
            intro vs ys r
            induction r with
            | nil => exact .nil
            | cons a1 a2 a3 ih => exact .cons (a1.step S1) a2 ih
          obtain ⟨F2, R2, S2, p2⟩ := ih R1 (st h3) q2
          exact ⟨F2, R2, S1.trans S2 R R2, .cons (p1.mono S2.le) p2⟩
theorem ROs.used {F0 H0 : Hp} {s0 s' : Sg G} {vs : List V} {xs : List Ov} {ds : List D} (S : Stp T F0 H0 s0 σ F H s σ) (R0 : Rl K T F0 H0 s0 σ) (R : Rl K T F H s σ) (r : ROs K T H0 F H s σ vs xs) (h : uses s xs = .ok ds s') :
    ∃ F', Rl K T F' H s' σ ∧ Stp T F0 H0 s0 σ F' H s' σ ∧ Reps K F' vs ds := by
  obtain ⟨F1, l, R1, S1, r1⟩ := r.settle S R
  rw [← uses_stl] at h
  have fix : ∀ {vs : List V} {ys : List Ov}, (∀ y ∈ ys, ∀ e, y ≠ .fr e) → ROs K T H0 F1 H s σ vs ys → ROs K T H F1 H s σ vs ys := by
    intro vs ys hy r
    induction r with
    | nil => exact .nil
    | @cons v vs x xs a1 a2 a3 ih =>
      refine .cons ?_ a2 (ih fun y hy' => hy y (List.mem_cons_of_mem _ hy'))
      cases x with
      | vl d => exact a1
      | pl i => exact a1
      | fr d => exact (hy _ (List.mem_cons_self ..) d rfl).elim
  obtain ⟨F2, R2, S2, p2⟩ := ROs.used0 R1 (fix (fun y hy e he => by
    obtain ⟨z, _, hz⟩ := List.mem_map.mp hy
    rw [he] at hz
    cases z <;> cases hz) r1) h
  exact ⟨F2, R2, S1.trans S2 R0 R2, p2⟩
inductive RHs (K : Env1) (F H : Hp) : List V → List D → Prop
  | nil : RHs K F H [] []
  | cons {v : V} {vs : List V} {d : D} {ds : List D} : RH K F H v d → RHs K F H vs ds → RHs K F H (v :: vs) (d :: ds)
theorem ROs.rhs {H0 : Hp} {vs : List V} {xs : List Ov} (R : Rl K T F H s σ) (r : ROs K T H0 F H s σ vs xs) : ∀ {ds : List D}, pks s xs = some ds → RHs K F H vs ds := by
  induction r with
  | nil => intro ds h; cases h; exact .nil
  | @cons v vs x xs a1 a2 a3 ih =>
    intro ds h
    have h : ((pk s x).bind fun d => (pks s xs).map fun ds => d :: ds) = some ds := h
    cases q : pk s x with
    | none => rw [q] at h; cases h
    | some d =>
      rw [q] at h
      have h : ((pks s xs).map fun ds => d :: ds) = some ds := h
      cases q2 : pks s xs with
      | none => rw [q2] at h; cases h
      | some es =>
        rw [q2] at h
        cases h
        exact .cons (a1.rh R q) (ih q2)
end
end BF
set_option Elab.async false
set_option linter.all false
set_option autoImplicit false
set_option maxRecDepth 100000
set_option maxHeartbeats 2000000
namespace BF
open PySem PySem.Spec PyProof.Rows L2
section
variable {G : Type} {X : Cx} {K : Env1} {T : Gt G} {W : WX1} {F H F1 H1 : Hp} {s s1 : Sg G} {σ : Sl}
theorem upd_le {p : Addr} {o : HO} (h : H p = none) : Le H (upd H p o) := fun a u e => by rw [upd_ne (ne_of_none e h)]; exact e
theorem Le.none (l : Le F H) {p : Addr} (h : H p = none) : F p = none := by
  cases e : F p with
  | none => rfl
  | some o => rw [l p o e] at h; cases h
theorem Rl.free (R : Rl K T F H s σ) {p : Addr} (h : H p = none) : F p = none ∧ ¬ T.fp p ∧ ¬ Ownd s σ p := by
  refine ⟨R.sub.none h, fun z => T.live _ _ _ R.gs z h, fun z => ?_⟩
  obtain ⟨i, d, h1, h2⟩ := z
  obtain ⟨q, e1, _, _, e2⟩ := R.own i d h1
  rw [h2] at e1; cases e1
  exact e2.some h
/-- any new object, not frozen -/
theorem Rl.new {p : Addr} {o : HO} (R : Rl K T F H s σ) (h : H p = none) : Rl K T F (upd H p o) s σ ∧ Stp T F H s σ F (upd H p o) s σ := by
  obtain ⟨n, nf, no⟩ := R.free h
  refine ⟨⟨R.sub.trans (upd_le h), R.len, R.val, fun i d e => ?_, R.inj, T.dep _ _ _ R.gs fun a ha => upd_ne (fun (z : a = p) => nf (by rw [← z]; exact ha)), R.gf⟩, ⟨Le.refl _, fun a u e _ _ => upd_le h a u e, fun a e => .inl e, fun a e => .inl e, fun i y e => ⟨y, e⟩, fun a e => ?_⟩⟩
  · obtain ⟨q, h1, h2, h3, h4⟩ := R.own i d e
    have ne : q ≠ p := fun z => h4.some (z ▸ h)
    exact ⟨q, h1, h2, h3, h4.mono (Le.refl _) (upd_ne ne)⟩
  · by_cases q : a = p
    · subst q; rw [upd_same]; exact fun z => nomatch z
    · rw [upd_ne q]; exact e
/-- a new object, frozen at once -/
theorem Rl.newF {p : Addr} {o : HO} (R : Rl K T F H s σ) (h : H p = none) : Rl K T (upd F p o) (upd H p o) s σ ∧ Stp T F H s σ (upd F p o) (upd H p o) s σ := by
  obtain ⟨n, nf, no⟩ := R.free h
  obtain ⟨R1, S1⟩ := R.new (o := o) h
  refine ⟨⟨fun a u e => ?_, R.len, fun i d e => ?_, fun i d e => ?_, R.inj, R1.gs, fun a ha => (upd_ne (fun (z : a = p) => nf (by rw [← z]; exact ha))).trans (R.gf a ha)⟩, ⟨upd_le n, S1.keep, fun a e => ?_, S1.own, S1.kp, S1.grow⟩⟩
  · by_cases q : a = p
    · subst q; rw [upd_same] at e ⊢; exact e
    · rw [upd_ne q] at e ⊢; exact R.sub a u e
  · obtain ⟨v, h1, h2⟩ := R.val i d e
    exact ⟨v, h1, h2.mono (upd_le n)⟩
  · obtain ⟨q, h1, h2, h3, h4⟩ := R1.own i d e
    have ne : q ≠ p := fun z => no ⟨i, d, e, by rw [← z]; exact h1⟩
    exact ⟨q, h1, (upd_ne ne).trans h2, h3, h4.mono (upd_le n) rfl⟩
  · by_cases q : a = p
    · rw [q]; exact .inr (.inl h)
    · rw [upd_ne q] at e; exact .inl e
theorem PstE.step {r : Rs G Ov} {Q : VK} (S : Stp T F H s σ F1 H1 s1 σ) (R : Rl K T F H s σ) (R1 : Rl K T F1 H1 s1 σ) (h : PstE K T W F H s σ r Q) : PstE K T W F1 H1 s1 σ r Q := by
  cases r with
  | no => exact h.elim
  | er x g => exact PstX.step S R R1 h
  | ok x s' => exact fun v F' H' S' R' r' => h v F' H' (S.trans S' R R') R' (r'.from S.none)
/-- how a value comes out of an operation -/
def Cont (K : Env1) (F H : Hp) (Q : VK) : Ov → Prop
  | .vl d => (∀ v, Rep K F v d → Q v H) ∧ ∀ ds, d = .tup ds → ∀ p vs, H p = none → Reps K F vs ds → Q (.ref p) (upd H p (.tup vs))
  | .fr d => ∀ ds, d = .lst ds → ∀ p vs, H p = none → Reps K F vs ds → Q (.ref p) (upd H p (.lst vs))
  | .pl _ => False
theorem cont_of {x : Ov} {Q : VK} (R : Rl K T F H s σ) (hx : ∀ i, x ≠ .pl i) (h : PstE K T W F H s σ (.ok x s) Q) : Cont K F H Q x := by
  cases x with
  | pl i => exact (hx i rfl).elim
  | vl d =>
    refine ⟨fun v r => h v F H (Stp.refl ..) R r, fun ds e p vs n r => ?_⟩
    subst e
    obtain ⟨R1, S1⟩ := R.newF (o := .tup vs) n
    exact h (.ref p) _ _ S1 R1 (.tup (.inl upd_same) (r.mono S1.le))
  | fr d =>
    intro ds e p vs n r
    subst e
    obtain ⟨R1, S1⟩ := R.new (o := .lst vs) n
    obtain ⟨n1, nf, no⟩ := R.free n
    exact h (.ref p) _ _ S1 R1 ⟨p, rfl, n, n1, nf, no, vs, upd_same, r⟩
/-- operands peeked at, an operation upon data -/
def evOp (f : Sg G → Rs G (List Ov)) (op : List D → Option Ov) (s : Sg G) : Rs G Ov := (f s).bind fun xs s1 => match pks s1 xs with
  | some ds => (match op ds with
    | some (.pl _) => .no
    | some r => .ok r s1
    | none => .no)
  | none => .no
/-- what an operation upon values must do -/
def Opn (K : Env1) (op : List D → Option Ov) (rr : List V → Hp → VK → Prop) : Prop := ∀ F H vs ds res Q, Le F H → RHs K F H vs ds → op ds = some res → Cont K F H Q res → rr vs H Q
theorem se_op {e : Expr} {es : List Expr} {f : Sg G → Rs G (List Ov)} {op : List D → Option Ov} {rr : List V → Hp → VK → Prop} (hf : SL X K T W es f) (ho : Opn K op rr)
    (hw : ∀ σ H Q, wpL X es σ H (fun vs H1 => rr vs H1 Q) → wpE X e σ H Q) : SE X K T W e (evOp f op) := by
  intro F H σ s Q R h
  refine hw σ H Q (hf F H σ s _ R ?_)
  unfold evOp at h
  cases q : f s with
  | no => rw [q] at h; exact h.elim
  | er x g => rw [q] at h; exact h
  | ok xs s1 =>
    rw [q] at h
    intro vs F1 H1 S1 R1 r1
    simp only [Rs.bind] at h
    cases q2 : pks s1 xs with
    | none => rw [q2] at h; exact h.elim
    | some ds =>
      rw [q2] at h
      simp only at h
      cases q3 : op ds with
      | none => rw [q3] at h; exact h.elim
      | some res =>
        rw [q3] at h
        cases res with
        | pl i => exact h.elim
        | vl d => exact ho F1 H1 vs ds _ Q R1.sub (r1.rhs R1 q2) q3 (cont_of R1 (fun _ z => nomatch z) (PstE.step S1 R R1 h))
        | fr d => exact ho F1 H1 vs ds _ Q R1.sub (r1.rhs R1 q2) q3 (cont_of R1 (fun _ z => nomatch z) (PstE.step S1 R R1 h))
/-! ### reading values -/
theorem RHs.one {vs : List V} {d : D} (h : RHs K F H vs [d]) : ∃ v, vs = [v] ∧ RH K F H v d := by
  cases h with
  | cons h1 h2 => cases h2; exact ⟨_, rfl, h1⟩
theorem RHs.two {vs : List V} {d e : D} (h : RHs K F H vs [d, e]) : ∃ v w, vs = [v, w] ∧ RH K F H v d ∧ RH K F H w e := by
  cases h with
  | cons h1 h2 =>
    obtain ⟨w, rfl, h3⟩ := h2.one
    exact ⟨_, w, rfl, h1, h3⟩
theorem RH.int {v : V} {i : Int} (h : RH K F H v (.int i)) : v = .int i := by
  rcases h with h | ⟨p, _, h⟩
  · cases h; rfl
  · exact h.elim
theorem RH.bl {v : V} {b : Bool} (h : RH K F H v (.bl b)) : v = .bl b := by
  rcases h with h | ⟨p, _, h⟩
  · cases h; rfl
  · exact h.elim
theorem RH.str {v : V} {x : Str} (h : RH K F H v (.str x)) : v = .str x := by
  rcases h with h | ⟨p, _, h⟩
  · cases h; rfl
  · exact h.elim
theorem RH.non {v : V} (h : RH K F H v .non) : v = .non := by
  rcases h with h | ⟨p, _, h⟩
  · cases h; rfl
  · exact h.elim
theorem RH.lst {v : V} {ds : List D} (l : Le F H) (h : RH K F H v (.lst ds)) : ∃ a vs, v = .ref a ∧ H a = some (.lst vs) ∧ Reps K F vs ds := by
  rcases h with h | ⟨p, rfl, vs, h1, h2⟩
  · cases h with
    | lst h1 h2 => exact ⟨_, _, rfl, l _ _ h1, h2⟩
  · exact ⟨p, vs, rfl, h1, h2⟩
theorem RH.tup {v : V} {ds : List D} (l : Le F H) (h : RH K F H v (.tup ds)) : ∃ a vs, v = .ref a ∧ TupAt K.K H a vs ∧ Reps K F vs ds := by
  rcases h with h | ⟨p, rfl, h1⟩
  · cases h with
    | tup h1 h2 => exact ⟨_, _, rfl, l.sqT h1, h2⟩
  · exact h1.elim
theorem Reps.length {vs : List V} {ds : List D} (h : Reps K F vs ds) : vs.length = ds.length := by
  induction ds generalizing vs with
  | nil => cases h; rfl
  | cons d ds ih => cases h with
    | cons h1 h2 => simp [ih h2]
theorem Reps.get {vs : List V} {ds : List D} (h : Reps K F vs ds) : ∀ {i : Nat} {d : D}, ds[i]? = some d → ∃ v, vs[i]? = some v ∧ Rep K F v d := by
  induction ds generalizing vs with
  | nil => intro i d e; simp at e
  | cons d ds ih =>
    intro i x e
    cases h with
    | cons h1 h2 =>
      cases i with
      | zero => simp at e; subst e; exact ⟨_, by simp, h1⟩
      | succ i =>
        obtain ⟨v, e1, e2⟩ := ih h2 (i := i) (by simpa using e)
        exact ⟨v, by simpa using e1, e2⟩
theorem Reps.append {vs ws : List V} {ds es : List D} (h : Reps K F vs ds) (h' : Reps K F ws es) : Reps K F (vs ++ ws) (ds ++ es) := by
  induction ds generalizing vs with
  | nil => cases h; exact h'
  | cons d ds ih => cases h with
    | cons h1 h2 => exact .cons h1 (ih h2)
theorem Reps.take {vs : List V} {ds : List D} (n : Nat) (h : Reps K F vs ds) : Reps K F (vs.take n) (ds.take n) := by
  induction ds generalizing vs n with
  | nil => cases h; simp; exact .nil
  | cons d ds ih => cases h with
    | cons h1 h2 =>
      cases n with
      | zero => exact .nil
      | succ n => exact .cons h1 (ih n h2)
theorem Reps.drop {vs : List V} {ds : List D} (n : Nat) (h : Reps K F vs ds) : Reps K F (vs.drop n) (ds.drop n) := by
  induction ds generalizing vs n with
  | nil => cases h; simp; exact .nil
  | cons d ds ih => cases h with
    | cons h1 h2 =>
      cases n with
      | zero => exact .cons h1 h2
      | succ n => exact ih n h2
theorem Reps.set {vs : List V} {ds : List D} {v : V} {d : D} (n : Nat) (h : Reps K F vs ds) (r : Rep K F v d) : Reps K F (vs.set n v) (ds.set n d) := by
  induction ds generalizing vs n with
  | nil => cases h; exact .nil
  | cons d ds ih => cases h with
    | cons h1 h2 =>
      cases n with
      | zero => exact .cons r h2
      | succ n => exact .cons h1 (ih n h2)
theorem Reps.rep (n : Nat) {vs : List V} {ds : List D} (h : Reps K F vs ds) : Reps K F (List.replicate n vs).flatten (List.replicate n ds).flatten := by
  induction n with
  | zero => exact .nil
  | succ n ih => rw [List.replicate_succ, List.replicate_succ, List.flatten_cons, List.flatten_cons]; exact h.append ih
theorem Reps.ints {vs : List V} : ∀ {ns : List Int}, Reps K F vs (ns.map D.int) → vs = ns.map V.int := by
  intro ns
  induction ns generalizing vs with
  | nil => intro h; cases h; rfl
  | cons n ns ih =>
    intro h
    cases h with
    | cons h1 h2 => cases h1; rw [ih h2]; rfl
theorem Reps.of_ints {ns : List Int} : Reps K F (ns.map V.int) (ns.map D.int) := by
  induction ns with
  | nil => exact .nil
  | cons n ns ih => exact .cons (.int n) ih
theorem Reps.bls {vs : List V} : ∀ {ns : List Bool}, Reps K F vs (ns.map D.bl) → vs = ns.map V.bl := by
  intro ns
  induction ns generalizing vs with
  | nil => intro h; cases h; rfl
  | cons n ns ih =>
    intro h
    cases h with
    | cons h1 h2 => cases h1; rw [ih h2]; rfl
end
end BF
set_option Elab.async false
set_option linter.all false
set_option autoImplicit false
set_option maxRecDepth 100000
set_option maxHeartbeats 2000000
namespace BF
open PySem PySem.Spec PyProof.Rows L2
/-! ### sizes of ints, told so that no big figure meets a variable -/
def rgB : Int → Bool
  | .ofNat n => Nat.ble n 4611686018427387903
  | .negSucc n => Nat.ble n 4611686018427387903
theorem rgB_ok {j : Int} (h : rgB j = true) : -(2 ^ 62) ≤ j ∧ j < 2 ^ 62 := by
  have e : (2 : Int) ^ 62 = 4611686018427387904 := by decide
  rw [e]
  cases j with
  | ofNat n =>
    have := Nat.le_of_ble_eq_true (show Nat.ble n 4611686018427387903 = true from h)
    show -4611686018427387904 ≤ (n : Int) ∧ (n : Int) < 4611686018427387904
    omega
  | negSucc n =>
    have := Nat.le_of_ble_eq_true (show Nat.ble n 4611686018427387903 = true from h)
    omega
theorem rgB_small {j : Int} (h1 : -1000000 ≤ j) (h2 : j ≤ 1000000) : rgB j = true := by
  cases j with
  | ofNat n =>
    have : (n : Int) ≤ 1000000 := h2
    exact Nat.ble_eq_true_of_le (by omega)
  | negSucc n => exact Nat.ble_eq_true_of_le (by omega)
def smB : Int → Bool
  | .ofNat n => Nat.ble n 18446744073709551615
  | .negSucc n => Nat.ble n 18446744073709551614
theorem smB_ok {j : Int} (h : smB j = true) : -(2 ^ 64) < j ∧ j < 2 ^ 64 := by
  have e : (2 : Int) ^ 64 = 18446744073709551616 := by decide
  rw [e]
  cases j with
  | ofNat n =>
    have := Nat.le_of_ble_eq_true (show Nat.ble n 18446744073709551615 = true from h)
    show -18446744073709551616 < (n : Int) ∧ (n : Int) < 18446744073709551616
    omega
  | negSucc n =>
    have := Nat.le_of_ble_eq_true (show Nat.ble n 18446744073709551614 = true from h)
    omega
theorem smB_small {j : Int} (h1 : -1000000 ≤ j) (h2 : j ≤ 1000000) : smB j = true := by
  cases j with
  | ofNat n =>
    have : (n : Int) ≤ 1000000 := h2
    exact Nat.ble_eq_true_of_le (by omega)
  | negSucc n => exact Nat.ble_eq_true_of_le (by omega)
/-! ### operations upon data -/
def intsOf : List D → Option (List Int)
  | [] => some []
  | .int i :: r => (intsOf r).map fun is => i :: is
  | _ => none
def blsOf : List D → Option (List Bool)
  | [] => some []
  | .bl b :: r => (blsOf r).map fun is => b :: is
  | _ => none
theorem intsOf_eq : ∀ {ds : List D} {is : List Int}, intsOf ds = some is → ds = is.map D.int
  | [], is, h => by cases h; rfl
  | d :: r, is, h => by
    cases d with
    | int i =>
      have h : (intsOf r).map (fun is => i :: is) = some is := h
      cases q : intsOf r with
      | none => rw [q] at h; cases h
      | some js => rw [q] at h; cases h; rw [intsOf_eq q]; rfl
    | _ => cases h
theorem blsOf_eq : ∀ {ds : List D} {is : List Bool}, blsOf ds = some is → ds = is.map D.bl
  | [], is, h => by cases h; rfl
  | d :: r, is, h => by
    cases d with
    | bl i =>
      have h : (blsOf r).map (fun is => i :: is) = some is := h
      cases q : blsOf r with
      | none => rw [q] at h; cases h
      | some js => rw [q] at h; cases h; rw [blsOf_eq q]; rfl
    | _ => cases h
theorem intsOf_map (is : List Int) : intsOf (is.map D.int) = some is := by
  induction is with
  | nil => rfl
  | cons i is ih => show (intsOf (is.map D.int)).map _ = _; rw [ih]; rfl
theorem blsOf_map (is : List Bool) : blsOf (is.map D.bl) = some is := by
  induction is with
  | nil => rfl
  | cons i is ih => show (blsOf (is.map D.bl)).map _ = _; rw [ih]; rfl
/-- plain data: no dict, no object; depth at most n -/
def plain : Nat → D → Bool
  | _, .non => true
  | _, .bl _ => true
  | _, .int _ => true
  | _, .str x => PySem.PyData.strOk x
  | n + 1, .lst xs => xs.all (plain n)
  | n + 1, .tup xs => xs.all (plain n)
  | _, _ => false
mutual
def toPy : D → PyData
  | .bl b => .bool b
  | .int i => .int i
  | .str x => .str x
  | .lst xs => .list (toPys xs)
  | .tup xs => .tuple (toPys xs)
  | _ => .none
def toPys : List D → List PyData
  | [] => []
  | d :: ds => toPy d :: toPys ds
end
/-- == of data -/
def eqD (a b : D) : Bool := PyData.eqv (toPy a) (toPy b)
theorem toPys_eq : ∀ ds : List D, toPys ds = ds.map toPy
  | [] => by rw [toPys]; rfl
  | d :: ds => by rw [toPys, toPys_eq ds]; rfl
theorem plain_can : ∀ {n : Nat} {d : D}, plain n d = true → (toPy d).canLay0 = true ∧ (toPy d).depth ≤ n + 1 := by
  intro n
  induction n with
  | zero =>
    intro d h
    cases d with
    | non => simp [toPy, PyData.canLay0, PyData.depth]
    | bl b => simp [toPy, PyData.canLay0, PyData.depth]
    | int i => simp [toPy, PyData.canLay0, PyData.depth]
    | str x => exact ⟨by simpa [toPy, PyData.canLay0, plain] using h, by simp [toPy, PyData.depth]⟩
    | _ => cases h
  | succ n ih =>
    have all : ∀ {xs : List D}, xs.all (plain n) = true → PyData.canLayAll0 (toPys xs) = true ∧ PyData.depthAll (toPys xs) ≤ n + 1 := by
      intro xs h
      induction xs with
      | nil => simp [toPys, PyData.canLayAll0, PyData.depthAll]
      | cons x xs ih2 =>
        rw [List.all_cons, Bool.and_eq_true] at h
        obtain ⟨h1, h2⟩ := ih h.1
        obtain ⟨h3, h4⟩ := ih2 h.2
        refine ⟨by simp [toPys, PyData.canLayAll0, h1, h3], ?_⟩
        simp only [toPys, PyData.depthAll]
        omega
    intro d h
    cases d with
    | non => simp [toPy, PyData.canLay0, PyData.depth]
    | bl b => simp [toPy, PyData.canLay0, PyData.depth]
    | int i => simp [toPy, PyData.canLay0, PyData.depth]
    | str x => exact ⟨by simpa [toPy, PyData.canLay0, plain] using h, by simp [toPy, PyData.depth]⟩
    | lst xs =>
      obtain ⟨h1, h2⟩ := all (show xs.all (plain n) = true from h)
      exact ⟨by simp [toPy, PyData.canLay0, h1], by simp only [toPy, PyData.depth]; omega⟩
    | tup xs =>
      obtain ⟨h1, h2⟩ := all (show xs.all (plain n) = true from h)
      exact ⟨by simp [toPy, PyData.canLay0, h1], by simp only [toPy, PyData.depth]; omega⟩
    | _ => cases h
theorem plain_shaped {d : D} (h : plain 60 d = true) : SeqAt.shaped (toPy d) = true := by
  obtain ⟨h1, h2⟩ := plain_can h
  unfold SeqAt.shaped
  rw [h1, Bool.true_and, decide_eq_true_eq]
  omega
section
variable {K : Env1} {F H : Hp}
theorem Rep.dp : ∀ {n : Nat} {d : D} {v : V}, plain n d = true → Le F H → Rep K F v d → Dp K.K H v (toPy d) := by
  intro n
  induction n with
  | zero =>
    intro d v h l r
    cases d with
    | non => cases r; simp only [toPy]; exact .non
    | bl b => cases r; simp only [toPy]; exact .bl b
    | int i => cases r; simp only [toPy]; exact .int i
    | str x => cases r; simp only [toPy]; exact .str x
    | _ => cases h
  | succ n ih =>
    intro d v h l r
    have all : ∀ {xs : List D} {vs : List V}, xs.all (plain n) = true → Reps K F vs xs → DpAll K.K H vs (toPys xs) := by
      intro xs
      induction xs with
      | nil => intro vs h r; cases r; simp only [toPys]; exact .nil
      | cons x xs ih2 =>
        intro vs h r
        rw [List.all_cons, Bool.and_eq_true] at h
        cases r with
        | cons r1 r2 => simp only [toPys]; exact .cons (ih h.1 l r1) (ih2 h.2 r2)
    cases d with
    | non => cases r; simp only [toPy]; exact .non
    | bl b => cases r; simp only [toPy]; exact .bl b
    | int i => cases r; simp only [toPy]; exact .int i
    | str x => cases r; simp only [toPy]; exact .str x
    | lst xs => cases r with
      | lst h1 h2 => simp only [toPy]; exact .lst (.inl (.inl (l _ _ h1))) (all h h2)
    | tup xs => cases r with
      | tup h1 h2 => simp only [toPy]; exact .tup (l.sqT h1).sq (all h h2)
    | _ => cases h
theorem Reps.dp {n : Nat} (l : Le F H) : ∀ {xs : List D} {vs : List V}, xs.all (plain n) = true → Reps K F vs xs → DpAll K.K H vs (toPys xs) := by
  intro xs
  induction xs with
  | nil => intro vs h r; cases r; simp only [toPys]; exact .nil
  | cons x xs ih2 =>
    intro vs h r
    rw [List.all_cons, Bool.and_eq_true] at h
    cases r with
    | cons r1 r2 => simp only [toPys]; exact .cons (r1.dp h.1 l) (ih2 h.2 r2)
theorem RH.dp {d : D} {v : V} (h : plain 60 d = true) (l : Le F H) (r : RH K F H v d) : Dp K.K H v (toPy d) := by
  rcases r with r | ⟨p, rfl, r⟩
  · exact r.dp h l
  · cases d with
    | lst ds =>
      obtain ⟨vs, h1, h2⟩ := r
      simp only [toPy]
      exact .lst (.inl (.inl h1)) (h2.dp (n := 59) l h)
    | _ => exact r.elim
end
end BF
set_option Elab.async false
set_option linter.all false
set_option autoImplicit false
set_option maxRecDepth 100000
set_option maxHeartbeats 2000000
namespace BF
open PySem PySem.Spec PyProof.Rows L2
def one (o : D → Option Ov) : List D → Option Ov
  | [d] => o d
  | _ => none
def two (o : D → D → Option Ov) : List D → Option Ov
  | [d, e] => o d e
  | _ => none
def sc (d : D) : Option Ov := some (.vl d)
/-! #### operators -/
def addO : D → D → Option Ov
  | .int a, .int b => sc (.int (a + b))
  | .str a, .str b => if a.length + b.length ≤ sizeLine then sc (.str (a ++ b)) else none
  | .lst a, .lst b => if a.length + b.length ≤ sizeLine then some (.fr (.lst (a ++ b))) else none
  | .tup a, .tup b => if a.length + b.length ≤ sizeLine then sc (.tup (a ++ b)) else none
  | _, _ => none
def subO : D → D → Option Ov
  | .int a, .int b => sc (.int (a - b))
  | _, _ => none
def cmul (i j : Int) : Bool := smB i || smB j
def mulO : D → D → Option Ov
  | .int a, .int b => if cmul a b then sc (.int (a * b)) else none
  | .lst a, .int k => if rgB k = true ∧ a.length * k.toNat ≤ sizeLine then some (.fr (.lst (List.replicate k.toNat a).flatten)) else none
  | .tup a, .int k => if a ≠ [] ∧ 2 ≤ k ∧ k ≤ 1000 ∧ a.length ≤ 1000 then sc (.tup (List.replicate k.toNat a).flatten) else none
  | _, _ => none
def fdivO : D → D → Option Ov
  | .int a, .int b => if 0 < b ∧ b < 1073741824 then sc (.int (a / b)) else none
  | _, _ => none
def modO : D → D → Option Ov
  | .int a, .int b => if 0 < b then sc (.int (a % b)) else none
  | _, _ => none
def powO : D → D → Option Ov
  | .int a, .int b => if 0 ≤ b ∧ b ≤ 1000000 ∧ a.natAbs < 2 ^ 64 then sc (.int (a ^ b.toNat)) else none
  | _, _ => none
def isNon : D → Bool
  | .non => true
  | _ => false
def ltO : D → D → Option Ov
  | .int a, .int b => sc (.bl (decide (a < b)))
  | _, _ => none
def leO : D → D → Option Ov
  | .int a, .int b => sc (.bl (decide (a ≤ b)))
  | _, _ => none
def gtO : D → D → Option Ov
  | .int a, .int b => sc (.bl (decide (b < a)))
  | _, _ => none
def geO : D → D → Option Ov
  | .int a, .int b => sc (.bl (decide (b ≤ a)))
  | _, _ => none
def eqB : D → D → Option Bool
  | .int a, .int b => some (decide (a = b))
  | .str a, .str b => some (decide (a = b))
  | d, e => if plain 60 d && plain 60 e then some (eqD d e) else none
def eqO (d e : D) : Option Ov := (eqB d e).map fun b => .vl (.bl b)
def neO (d e : D) : Option Ov := (eqB d e).map fun b => .vl (.bl (!b))
def inB : D → D → Option Bool
  | x, .lst ds => if plain 60 x && plain 60 (.lst ds) then some (ds.any fun z => eqD z x) else none
  | x, .tup ds => if plain 60 x && plain 60 (.tup ds) then some (ds.any fun z => eqD z x) else none
  | _, _ => none
def inO (d e : D) : Option Ov := (inB d e).map fun b => .vl (.bl b)
def ninO (d e : D) : Option Ov := (inB d e).map fun b => .vl (.bl (!b))
def isO : D → D → Option Ov
  | d, .non => sc (.bl (isNon d))
  | _, _ => none
def isnO : D → D → Option Ov
  | d, .non => sc (.bl (!isNon d))
  | _, _ => none
def negO : D → Option Ov
  | .int a => sc (.int (-a))
  | _ => none
def notO : D → Option Ov
  | .bl a => sc (.bl (!a))
  | _ => none
def ixO : D → D → Option Ov
  | .lst ds, .int i => (atI ds i).map .vl
  | .tup ds, .int i => (atI ds i).map .vl
  | _, _ => none
/-! #### built-ins -/
def maxI : List Int → Int
  | [] => 0
  | [x] => x
  | x :: r => if x ≤ maxI r then maxI r else x
def minI : List Int → Int
  | [] => 0
  | [x] => x
  | x :: r => if minI r ≤ x then minI r else x
def lenO : D → Option Ov
  | .lst ds => sc (.int ds.length)
  | .tup ds => sc (.int ds.length)
  | .str x => if x.length ≤ sizeLine then sc (.int x.length) else none
  | _ => none
def intO : D → Option Ov
  | .int i => sc (.int i)
  | .bl b => sc (.int (if b then 1 else 0))
  | _ => none
def sumO : D → Option Ov
  | .lst ds => (intsOf ds).map fun is => .vl (.int is.sum)
  | _ => none
def maxO : D → Option Ov
  | .lst ds => (intsOf ds).bind fun is => if 0 < is.length then sc (.int (maxI is)) else none
  | _ => none
def minO : D → Option Ov
  | .lst ds => (intsOf ds).bind fun is => if 0 < is.length then sc (.int (minI is)) else none
  | _ => none
def max2O : D → D → Option Ov
  | .int i, .int j => sc (.int (if j > i then j else i))
  | _, _ => none
def min2O : D → D → Option Ov
  | .int i, .int j => sc (.int (if j < i then j else i))
  | _, _ => none
def allO : D → Option Ov
  | .lst ds => (blsOf ds).map fun bs => .vl (.bl (bs.all id))
  | _ => none
def anyO : D → Option Ov
  | .lst ds => (blsOf ds).map fun bs => .vl (.bl (bs.any id))
  | _ => none
def tupleO : D → Option Ov
  | .lst ds => sc (.tup ds)
  | .tup ds => sc (.tup ds)
  | _ => none
def listO : D → Option Ov
  | .lst ds => some (.fr (.lst ds))
  | .tup ds => some (.fr (.lst ds))
  | _ => none
def strO : D → Option Ov
  | .int i => if i.natAbs.log2 < 1920 then sc (.str (toString i)) else none
  | _ => none
section
variable {K : Env1}
/-- an operation of two values by an operator's rule -/
def Op2 (K : Env1) (o : D → D → Option Ov) (r : R2) : Prop := ∀ F H v w d e res Q, Le F H → RH K F H v d → RH K F H w e → o d e = some res → Cont K F H Q res → r v w H Q
def Op1 (K : Env1) (o : D → Option Ov) (r : V → Hp → VK → Prop) : Prop := ∀ F H v d res Q, Le F H → RH K F H v d → o d = some res → Cont K F H Q res → r v H Q
theorem Cont.sc {F H : Hp} {Q : VK} {d : D} {res : Ov} {v : V} (h : Cont K F H Q res) (e : BF.sc d = some res) (r : Rep K F v d) : Q v H := by
  cases e; exact h.1 v r
theorem op2_add : Op2 K addO (fun x y H Q => rI0 (fun i j => .int (i + j)) x y H Q ∨ (rCat x y H Q ∨ (rCatA K.K x y H Q ∨ ∃ i j, x = .str i ∧ y = .str j ∧ i.length + j.length ≤ sizeLine ∧ Q (.str (i ++ j)) H))) := by
  intro F H v w d e res Q l hd he ho hc
  cases d <;> cases e <;> first | (cases ho; done) | skip
  · cases hd.int; cases he.int
    exact .inl ⟨_, _, rfl, rfl, hc.sc ho (.int _)⟩
  · cases hd.str; cases he.str
    simp only [addO] at ho
    split at ho
    · rename_i hl
      exact .inr (.inr (.inr ⟨_, _, rfl, rfl, hl, hc.sc ho (.str _)⟩))
    · cases ho
  · simp only [addO] at ho
    split at ho
    · rename_i hl
      cases ho
      obtain ⟨a, vs, rfl, h1, r1⟩ := hd.lst l
      obtain ⟨b, ws, rfl, h2, r2⟩ := he.lst l
      exact .inr (.inl ⟨a, b, vs, ws, rfl, rfl, h1, h2, by rw [r1.length, r2.length]; exact hl, fun p n => hc _ rfl p _ n (r1.append r2)⟩)
    · cases ho
  · simp only [addO] at ho
    split at ho
    · rename_i hl
      cases ho
      obtain ⟨a, vs, rfl, h1, r1⟩ := hd.tup l
      obtain ⟨b, ws, rfl, h2, r2⟩ := he.tup l
      have hr : RH K F H (.ref a) (.tup _) := hd
      have hr2 : RH K F H (.ref b) (.tup _) := he
      refine .inr (.inr (.inl ⟨a, b, vs, ws, rfl, rfl, h1.sq, h2.sq, by rw [r1.length, r2.length]; exact hl, fun e => ?_, fun _ e => ?_, fun _ _ p n => hc.2 _ rfl p _ n (r1.append r2)⟩))
      · subst e
        cases r1
        rcases hr2 with z | ⟨_, _, z⟩
        · exact hc.1 _ z
        · exact z.elim
      · subst e
        cases r2
        rw [List.append_nil] at hc
        rcases hr with z | ⟨_, _, z⟩
        · exact hc.1 _ z
        · exact z.elim
    · cases ho
theorem op2_sub : Op2 K subO (rI0 fun i j => .int (i - j)) := by
  intro F H v w d e res Q l hd he ho hc
  cases d <;> cases e <;> first | (cases ho; done) | skip
  cases hd.int; cases he.int
  exact ⟨_, _, rfl, rfl, hc.sc ho (.int _)⟩
theorem op2_mul : Op2 K mulO (fun x y H Q => rI CMul (fun i j => .int (i * j)) x y H Q ∨ (rRep x y H Q ∨ rRepT K.K x y H Q)) := by
  intro F H v w d e res Q l hd he ho hc
  cases d <;> cases e <;> first | (cases ho; done) | skip
  · cases hd.int; cases he.int
    simp only [mulO] at ho
    split at ho
    · rename_i hl
      refine .inl ⟨_, _, rfl, rfl, ?_, hc.sc ho (.int _)⟩
      rcases Bool.or_eq_true_iff.mp hl with z | z
      · exact .inl (smB_ok z)
      · exact .inr (smB_ok z)
    · cases ho
  · simp only [mulO] at ho
    split at ho
    · rename_i hl
      cases ho
      obtain ⟨a, vs, rfl, h1, r1⟩ := hd.lst l
      cases he.int
      exact .inr (.inl ⟨a, _, vs, rfl, rfl, h1, by have := rgB_ok hl.1; omega, by have := rgB_ok hl.1; omega, by rw [r1.length]; exact hl.2, fun p n => hc _ rfl p _ n (r1.rep _)⟩)
    · cases ho
  · simp only [mulO] at ho
    split at ho
    · rename_i hl
      cases ho
      obtain ⟨a, vs, rfl, h1, r1⟩ := hd.tup l
      cases he.int
      refine .inr (.inr ⟨a, _, vs, rfl, rfl, h1.sq, fun z => ?_, hl.2.1, hl.2.2.1, by rw [r1.length]; exact hl.2.2.2, fun p n => hc.2 _ rfl p _ n (r1.rep _)⟩)
      subst z; cases r1; exact hl.1 rfl
    · cases ho
theorem op2_fdiv : Op2 K fdivO (rI CDiv fun i j => .int (i / j)) := by
  intro F H v w d e res Q l hd he ho hc
  cases d <;> cases e <;> first | (cases ho; done) | skip
  cases hd.int; cases he.int
  simp only [fdivO] at ho
  split at ho
  · rename_i hl; exact ⟨_, _, rfl, rfl, hl, hc.sc ho (.int _)⟩
  · cases ho
theorem op2_mod : Op2 K modO (rI (fun _ j => 0 < j) fun i j => .int (i % j)) := by
  intro F H v w d e res Q l hd he ho hc
  cases d <;> cases e <;> first | (cases ho; done) | skip
  cases hd.int; cases he.int
  simp only [modO] at ho
  split at ho
  · rename_i hl; exact ⟨_, _, rfl, rfl, hl, hc.sc ho (.int _)⟩
  · cases ho
theorem op2_pow : Op2 K powO (rI CPow fun i j => .int (i ^ j.toNat)) := by
  intro F H v w d e res Q l hd he ho hc
  cases d <;> cases e <;> first | (cases ho; done) | skip
  cases hd.int; cases he.int
  simp only [powO] at ho
  split at ho
  · rename_i hl; exact ⟨_, _, rfl, rfl, hl, hc.sc ho (.int _)⟩
  · cases ho
theorem op2_lt : Op2 K ltO (rI0 fun i j => .bl (decide (i < j))) := by
  intro F H v w d e res Q l hd he ho hc
  cases d <;> cases e <;> first | (cases ho; done) | skip
  cases hd.int; cases he.int
  exact ⟨_, _, rfl, rfl, hc.sc ho (.bl _)⟩
theorem op2_le : Op2 K leO (rI0 fun i j => .bl (decide (i ≤ j))) := by
  intro F H v w d e res Q l hd he ho hc
  cases d <;> cases e <;> first | (cases ho; done) | skip
  cases hd.int; cases he.int
  exact ⟨_, _, rfl, rfl, hc.sc ho (.bl _)⟩
theorem op2_gt : Op2 K gtO (rI0 fun i j => .bl (decide (j < i))) := by
  intro F H v w d e res Q l hd he ho hc
  cases d <;> cases e <;> first | (cases ho; done) | skip
  cases hd.int; cases he.int
  exact ⟨_, _, rfl, rfl, hc.sc ho (.bl _)⟩
theorem op2_ge : Op2 K geO (rI0 fun i j => .bl (decide (j ≤ i))) := by
  intro F H v w d e res Q l hd he ho hc
  cases d <;> cases e <;> first | (cases ho; done) | skip
  cases hd.int; cases he.int
  exact ⟨_, _, rfl, rfl, hc.sc ho (.bl _)⟩
theorem eq_core {F H : Hp} {v w : V} {d e : D} {b : Bool} {P : Bool → Prop} (l : Le F H) (hd : RH K F H v d) (he : RH K F H w e) (ho : eqB d e = some b) (hp : P b) :
    (scal v w = true ∧ P (decide (v = w))) ∨ (∃ d e, Dp K.K H v d ∧ Dp K.K H w e ∧ SeqAt.shaped d = true ∧ SeqAt.shaped e = true ∧ P (PyData.eqv d e)) := by
  unfold eqB at ho
  split at ho
  · cases hd.int; cases he.int
    cases ho
    refine .inl ⟨rfl, ?_⟩
    simpa using hp
  · cases hd.str; cases he.str
    cases ho
    refine .inl ⟨rfl, ?_⟩
    simpa using hp
  · split at ho
    · rename_i hq
      rw [Bool.and_eq_true] at hq
      cases ho
      exact .inr ⟨_, _, hd.dp hq.1 l, he.dp hq.2 l, plain_shaped hq.1, plain_shaped hq.2, hp⟩
    · cases ho
theorem op2_eq : Op2 K eqO (fun x y H Q => rEq x y H Q ∨ rEqD K.K x y H Q) := by
  intro F H v w d e res Q l hd he ho hc
  unfold eqO at ho
  cases q : eqB d e with
  | none => rw [q] at ho; cases ho
  | some b =>
    rw [q] at ho
    cases ho
    exact eq_core (P := fun b => Q (.bl b) H) l hd he q (hc.1 _ (.bl b))
theorem op2_ne : Op2 K neO (fun x y H Q => rNe x y H Q ∨ rNeD K.K x y H Q) := by
  intro F H v w d e res Q l hd he ho hc
  unfold neO at ho
  cases q : eqB d e with
  | none => rw [q] at ho; cases ho
  | some b =>
    rw [q] at ho
    cases ho
    exact eq_core (P := fun b => Q (.bl (!b)) H) l hd he q (hc.1 _ (.bl _))
theorem RH.isNon {F H : Hp} {v : V} {d : D} (h : RH K F H v d) : decide (v = V.non) = isNon d := by
  rcases h with h | ⟨p, rfl, h⟩
  · cases h <;> rfl
  · cases d with
    | lst ds => rfl
    | _ => exact h.elim
theorem op2_is : Op2 K isO (fun x y H Q => y = .non ∧ Q (.bl (decide (x = .non))) H) := by
  intro F H v w d e res Q l hd he ho hc
  cases e <;> first | (cases ho; done) | skip
  cases he.non
  refine ⟨rfl, ?_⟩
  rw [hd.isNon]
  exact hc.sc ho (.bl _)
theorem op2_isn : Op2 K isnO (fun x y H Q => y = .non ∧ Q (.bl (!decide (x = .non))) H) := by
  intro F H v w d e res Q l hd he ho hc
  cases e <;> first | (cases ho; done) | skip
  cases he.non
  refine ⟨rfl, ?_⟩
  rw [hd.isNon]
  exact hc.sc ho (.bl _)
theorem op1_neg : Op1 K negO (rU fun i => .int (-i)) := by
  intro F H v d res Q l hd ho hc
  cases d <;> first | (cases ho; done) | skip
  cases hd.int
  exact ⟨_, rfl, hc.sc ho (.int _)⟩
theorem Reps.atI {F : Hp} {vs : List V} {ds : List D} {i : Int} {d : D} (r : Reps K F vs ds) (h : L2.atI ds i = some d) : ∃ v, L2.atI vs i = some v ∧ Rep K F v d := by
  unfold L2.atI at h ⊢
  rw [r.length]
  cases q : ixN ds.length i with
  | none => rw [q] at h; cases h
  | some j =>
    rw [q] at h
    exact r.get h
theorem op2_ix : Op2 K ixO (rIx K.K) := by
  intro F H v w d e res Q l hd he ho hc
  cases d <;> cases e <;> first | (cases ho; done) | skip
  · simp only [ixO] at ho
    rename_i ds i
    cases q : L2.atI ds i with
    | none => rw [q] at ho; cases ho
    | some x =>
      rw [q] at ho
      cases ho
      obtain ⟨a, vs, rfl, h1, r1⟩ := hd.lst l
      cases he.int
      obtain ⟨v, e1, e2⟩ := r1.atI q
      exact .inl ⟨a, vs, _, v, rfl, rfl, .inl (.inl h1), e1, hc.1 _ e2⟩
  · simp only [ixO] at ho
    rename_i ds i
    cases q : L2.atI ds i with
    | none => rw [q] at ho; cases ho
    | some x =>
      rw [q] at ho
      cases ho
      obtain ⟨a, vs, rfl, h1, r1⟩ := hd.tup l
      cases he.int
      obtain ⟨v, e1, e2⟩ := r1.atI q
      exact .inr (.inl ⟨a, vs, _, v, rfl, rfl, h1.sq, e1, hc.1 _ e2⟩)
end
end BF
set_option Elab.async false
set_option linter.all false
set_option autoImplicit false
set_option maxRecDepth 100000
set_option maxHeartbeats 2000000
namespace BF
open PySem PySem.Spec PyProof.Rows L2
/-! ### in, over tuples too -/
section
variable {X : Cx}
def rInT (K : PySem.W.Frag) : R2 := fun x y H Q => ∃ d ds, Dp K H x d ∧ Dp K H y (.tuple ds) ∧ SeqAt.shaped d = true ∧ SeqAt.shaped (.tuple ds) = true ∧ Q (.bl (ds.any fun z => PyData.eqv z d)) H
def rNotInT (K : PySem.W.Frag) : R2 := fun x y H Q => ∃ d ds, Dp K H x d ∧ Dp K H y (.tuple ds) ∧ SeqAt.shaped d = true ∧ SeqAt.shaped (.tuple ds) = true ∧ Q (.bl (!ds.any fun z => PyData.eqv z d)) H
theorem op_inT (hu : X.A.units + 65 < cLine) : OpR X (compareOp .In) (rInT X.K) := by
  intro pins s σ H x y v u Q I rx ry h
  obtain ⟨d, ds, hd, he, sd, se, q⟩ := h
  obtain ⟨as, r1⟩ := Dp.reads I d x v hd rx
  obtain ⟨bs, r2⟩ := Dp.reads I (.tuple ds) y u he ry
  exact SeqAt.in_tuple_reads r2 r1 (SeqAt.canLay_of_shaped se) (SeqAt.canLay_of_shaped sd) (room_in_shaped sd hu) ⟨.bl _, H, I, rfl, q⟩
theorem op_notInT (hu : X.A.units + 65 < cLine) : OpR X (compareOp .NotIn) (rNotInT X.K) := by
  intro pins s σ H x y v u Q I rx ry h
  obtain ⟨d, ds, hd, he, sd, se, q⟩ := h
  obtain ⟨as, r1⟩ := Dp.reads I d x v hd rx
  obtain ⟨bs, r2⟩ := Dp.reads I (.tuple ds) y u he ry
  exact SeqAt.notIn_tuple_reads r2 r1 (SeqAt.canLay_of_shaped se) (SeqAt.canLay_of_shaped sd) (room_in_shaped sd hu) ⟨.bl _, H, I, rfl, q⟩
end
section
variable {K : Env1}
theorem in_core {F H : Hp} {v w : V} {d e : D} {b : Bool} {P : Bool → Prop} (l : Le F H) (hd : RH K F H v d) (he : RH K F H w e) (ho : inB d e = some b) (hp : P b) :
    (∃ d ds, Dp K.K H v d ∧ Dp K.K H w (.list ds) ∧ SeqAt.shaped d = true ∧ SeqAt.shaped (.list ds) = true ∧ P (ds.any fun z => PyData.eqv z d)) ∨ (∃ d ds, Dp K.K H v d ∧ Dp K.K H w (.tuple ds) ∧ SeqAt.shaped d = true ∧ SeqAt.shaped (.tuple ds) = true ∧ P (ds.any fun z => PyData.eqv z d)) := by
  unfold inB at ho
  split at ho
  · split at ho
    · rename_i hq
      rw [Bool.and_eq_true] at hq
      cases ho
      have h1 := he.dp hq.2 l
      have h2 := plain_shaped hq.2
      simp only [toPy] at h1 h2
      refine .inl ⟨_, _, hd.dp hq.1 l, h1, plain_shaped hq.1, h2, ?_⟩
      rw [toPys_eq, List.any_map]
      exact hp
    · cases ho
  · split at ho
    · rename_i hq
      rw [Bool.and_eq_true] at hq
      cases ho
      have h1 := he.dp hq.2 l
      have h2 := plain_shaped hq.2
      simp only [toPy] at h1 h2
      refine .inr ⟨_, _, hd.dp hq.1 l, h1, plain_shaped hq.1, h2, ?_⟩
      rw [toPys_eq, List.any_map]
      exact hp
    · cases ho
  · cases ho
theorem op2_in : Op2 K inO (fun x y H Q => rInD K.K x y H Q ∨ rInT K.K x y H Q) := by
  intro F H v w d e res Q l hd he ho hc
  unfold inO at ho
  cases q : inB d e with
  | none => rw [q] at ho; cases ho
  | some b =>
    rw [q] at ho
    cases ho
    exact in_core (P := fun b => Q (.bl b) H) l hd he q (hc.1 _ (.bl b))
theorem op2_nin : Op2 K ninO (fun x y H Q => rNotInD K.K x y H Q ∨ rNotInT K.K x y H Q) := by
  intro F H v w d e res Q l hd he ho hc
  unfold ninO at ho
  cases q : inB d e with
  | none => rw [q] at ho; cases ho
  | some b =>
    rw [q] at ho
    cases ho
    exact in_core (P := fun b => Q (.bl (!b)) H) l hd he q (hc.1 _ (.bl _))
/-! ### built-ins -/
theorem maxI_mem : ∀ {l : List Int}, 0 < l.length → maxI l ∈ l ∧ ∀ y ∈ l, y ≤ maxI l
  | [], h => by simp at h
  | [x], _ => by simp [maxI]
  | x :: y :: r, _ => by
    obtain ⟨h1, h2⟩ := maxI_mem (l := y :: r) (by simp)
    show (if x ≤ maxI (y :: r) then maxI (y :: r) else x) ∈ _ ∧ ∀ z ∈ _, z ≤ (if x ≤ maxI (y :: r) then maxI (y :: r) else x)
    split
    · rename_i q
      exact ⟨List.mem_cons_of_mem _ h1, fun z hz => by
        rcases List.mem_cons.mp hz with rfl | hz
        · exact q
        · exact h2 z hz⟩
    · rename_i q
      exact ⟨List.mem_cons_self .., fun z hz => by
        rcases List.mem_cons.mp hz with rfl | hz
        · exact Int.le_refl _
        · have := h2 z hz; omega⟩
theorem minI_mem : ∀ {l : List Int}, 0 < l.length → minI l ∈ l ∧ ∀ y ∈ l, minI l ≤ y
  | [], h => by simp at h
  | [x], _ => by simp [minI]
  | x :: y :: r, _ => by
    obtain ⟨h1, h2⟩ := minI_mem (l := y :: r) (by simp)
    show (if minI (y :: r) ≤ x then minI (y :: r) else x) ∈ _ ∧ ∀ z ∈ _, (if minI (y :: r) ≤ x then minI (y :: r) else x) ≤ z
    split
    · rename_i q
      exact ⟨List.mem_cons_of_mem _ h1, fun z hz => by
        rcases List.mem_cons.mp hz with rfl | hz
        · exact q
        · exact h2 z hz⟩
    · rename_i q
      exact ⟨List.mem_cons_self .., fun z hz => by
        rcases List.mem_cons.mp hz with rfl | hz
        · exact Int.le_refl _
        · have := h2 z hz; omega⟩
theorem opn_one {o : D → Option Ov} {rr : List V → Hp → VK → Prop} (h : ∀ F H v d res Q, Le F H → RH K F H v d → o d = some res → Cont K F H Q res → rr [v] H Q) : Opn K (one o) rr := by
  intro F H vs ds res Q l hr ho hc
  match ds, ho, hr with
  | [d], ho, hr =>
    obtain ⟨v, rfl, hv⟩ := hr.one
    exact h F H v d res Q l hv ho hc
theorem opn_two {o : D → D → Option Ov} {rr : List V → Hp → VK → Prop} (h : ∀ F H v w d e res Q, Le F H → RH K F H v d → RH K F H w e → o d e = some res → Cont K F H Q res → rr [v, w] H Q) : Opn K (two o) rr := by
  intro F H vs ds res Q l hr ho hc
  match ds, ho, hr with
  | [d, e], ho, hr =>
    obtain ⟨v, w, rfl, hv, hw⟩ := hr.two
    exact h F H v w d e res Q l hv hw ho hc
theorem opn_len : Opn K (one lenO) (fun xs H Q => (∃ p ys, xs = [.ref p] ∧ (SqL K.K H p ys ∨ SqT K.K H p ys) ∧ Q (.int ys.length) H) ∨ ∃ z, xs = [.str z] ∧ z.length ≤ sizeLine ∧ Q (.int z.length) H) := opn_one fun F H v d res Q l hd ho hc => by
  cases d <;> first | (cases ho; done) | skip
  · cases hd.str
    simp only [lenO] at ho
    split at ho
    · rename_i q; exact .inr ⟨_, rfl, q, hc.sc ho (.int _)⟩
    · cases ho
  · obtain ⟨a, vs, rfl, h1, r1⟩ := hd.lst l
    refine .inl ⟨a, vs, rfl, .inl (.inl (.inl h1)), ?_⟩
    rw [r1.length]
    exact hc.sc ho (.int _)
  · obtain ⟨a, vs, rfl, h1, r1⟩ := hd.tup l
    refine .inl ⟨a, vs, rfl, .inr h1.sq, ?_⟩
    rw [r1.length]
    exact hc.sc ho (.int _)
theorem opn_int : Opn K (one intO) (fun xs H Q => (∃ i, xs = [.int i] ∧ Q (.int i) H) ∨ ∃ k, xs = [.bl k] ∧ Q (.int (if k then 1 else 0)) H) := opn_one fun F H v d res Q l hd ho hc => by
  cases d <;> first | (cases ho; done) | skip
  · cases hd.bl
    exact .inr ⟨_, rfl, hc.sc ho (.int _)⟩
  · cases hd.int
    exact .inl ⟨_, rfl, hc.sc ho (.int _)⟩
theorem opn_str : Opn K (one strO) (fun xs H Q => ∃ i, xs = [.int i] ∧ i.natAbs.log2 < 1920 ∧ Q (.str (toString i)) H) := opn_one fun F H v d res Q l hd ho hc => by
  cases d <;> first | (cases ho; done) | skip
  cases hd.int
  simp only [strO] at ho
  split at ho
  · rename_i q; exact ⟨_, rfl, q, hc.sc ho (.str _)⟩
  · cases ho
theorem opn_sum : Opn K (one sumO) (rSum K.K) := opn_one fun F H v d res Q l hd ho hc => by
  cases d <;> first | (cases ho; done) | skip
  obtain ⟨a, vs, rfl, h1, r1⟩ := hd.lst l
  simp only [sumO] at ho
  rename_i ds
  cases q : intsOf ds with
  | none => rw [q] at ho; cases ho
  | some is =>
    rw [q] at ho
    cases ho
    rw [intsOf_eq q] at r1
    have e := r1.ints
    subst e
    exact ⟨a, is, rfl, .inl (.inl h1), hc.1 _ (.int _)⟩
theorem opn_max : Opn K (one maxO) (rMax K.K) := opn_one fun F H v d res Q l hd ho hc => by
  cases d <;> first | (cases ho; done) | skip
  obtain ⟨a, vs, rfl, h1, r1⟩ := hd.lst l
  simp only [maxO] at ho
  rename_i ds
  cases q : intsOf ds with
  | none => rw [q] at ho; cases ho
  | some is =>
    rw [q] at ho
    simp only [Option.bind_some] at ho
    split at ho
    · rename_i hl
      cases ho
      rw [intsOf_eq q] at r1
      have e := r1.ints
      subst e
      refine ⟨a, is, rfl, .inl (.inl h1), hl, fun m hm hle => ?_⟩
      obtain ⟨e1, e2⟩ := maxI_mem hl
      have e3 : m = maxI is := Int.le_antisymm (e2 m hm) (hle _ e1)
      rw [e3]
      exact hc.1 _ (.int _)
    · cases ho
theorem opn_min : Opn K (one minO) (rMin K.K) := opn_one fun F H v d res Q l hd ho hc => by
  cases d <;> first | (cases ho; done) | skip
  obtain ⟨a, vs, rfl, h1, r1⟩ := hd.lst l
  simp only [minO] at ho
  rename_i ds
  cases q : intsOf ds with
  | none => rw [q] at ho; cases ho
  | some is =>
    rw [q] at ho
    simp only [Option.bind_some] at ho
    split at ho
    · rename_i hl
      cases ho
      rw [intsOf_eq q] at r1
      have e := r1.ints
      subst e
      refine ⟨a, is, rfl, .inl (.inl h1), hl, fun m hm hle => ?_⟩
      obtain ⟨e1, e2⟩ := minI_mem hl
      have e3 : m = minI is := Int.le_antisymm (hle _ e1) (e2 m hm)
      rw [e3]
      exact hc.1 _ (.int _)
    · cases ho
theorem opn_max2 : Opn K (two max2O) (fun xs H Q => ∃ i j, xs = [.int i, .int j] ∧ Q (.int (if j > i then j else i)) H) := opn_two fun F H v w d e res Q l hd he ho hc => by
  cases d <;> cases e <;> first | (cases ho; done) | skip
  cases hd.int; cases he.int
  exact ⟨_, _, rfl, hc.sc ho (.int _)⟩
theorem opn_min2 : Opn K (two min2O) (fun xs H Q => ∃ i j, xs = [.int i, .int j] ∧ Q (.int (if j < i then j else i)) H) := opn_two fun F H v w d e res Q l hd he ho hc => by
  cases d <;> cases e <;> first | (cases ho; done) | skip
  cases hd.int; cases he.int
  exact ⟨_, _, rfl, hc.sc ho (.int _)⟩
theorem opn_all : Opn K (one allO) (rAll K.K) := opn_one fun F H v d res Q l hd ho hc => by
  cases d <;> first | (cases ho; done) | skip
  obtain ⟨a, vs, rfl, h1, r1⟩ := hd.lst l
  simp only [allO] at ho
  rename_i ds
  cases q : blsOf ds with
  | none => rw [q] at ho; cases ho
  | some is =>
    rw [q] at ho
    cases ho
    rw [blsOf_eq q] at r1
    have e := r1.bls
    subst e
    exact ⟨a, is, rfl, .inl (.inl h1), hc.1 _ (.bl _)⟩
theorem opn_any : Opn K (one anyO) (rAny K.K) := opn_one fun F H v d res Q l hd ho hc => by
  cases d <;> first | (cases ho; done) | skip
  obtain ⟨a, vs, rfl, h1, r1⟩ := hd.lst l
  simp only [anyO] at ho
  rename_i ds
  cases q : blsOf ds with
  | none => rw [q] at ho; cases ho
  | some is =>
    rw [q] at ho
    cases ho
    rw [blsOf_eq q] at r1
    have e := r1.bls
    subst e
    exact ⟨a, is, rfl, .inl (.inl h1), hc.1 _ (.bl _)⟩
theorem opn_tuple : Opn K (one tupleO) (fun xs H Q => ∃ p ys, xs = [.ref p] ∧ ((SqL K.K H p ys ∧ ∀ l, H l = none → Q (.ref l) (upd H l (.tup ys))) ∨ (SqT K.K H p ys ∧ Q (.ref p) H))) := opn_one fun F H v d res Q l hd ho hc => by
  cases d <;> first | (cases ho; done) | skip
  · obtain ⟨a, vs, rfl, h1, r1⟩ := hd.lst l
    cases ho
    exact ⟨a, vs, rfl, .inl ⟨.inl (.inl h1), fun p n => hc.2 _ rfl p vs n r1⟩⟩
  · have hd0 := hd
    obtain ⟨a, vs, rfl, h1, r1⟩ := hd.tup l
    cases ho
    refine ⟨a, vs, rfl, .inr ⟨h1.sq, ?_⟩⟩
    rcases hd0 with z | ⟨_, _, z⟩
    · exact hc.1 _ z
    · exact z.elim
theorem opn_list : Opn K (one listO) (fun xs H Q => ∃ p ys, xs = [.ref p] ∧ (SqL K.K H p ys ∨ SqT K.K H p ys) ∧ ∀ l, H l = none → Q (.ref l) (upd H l (.lst ys))) := opn_one fun F H v d res Q l hd ho hc => by
  cases d <;> first | (cases ho; done) | skip
  · obtain ⟨a, vs, rfl, h1, r1⟩ := hd.lst l
    cases ho
    exact ⟨a, vs, rfl, .inl (.inl (.inl h1)), fun p n => hc _ rfl p vs n r1⟩
  · obtain ⟨a, vs, rfl, h1, r1⟩ := hd.tup l
    cases ho
    exact ⟨a, vs, rfl, .inr h1.sq, fun p n => hc _ rfl p vs n r1⟩
end
end BF
set_option Elab.async false
set_option linter.all false
set_option autoImplicit false
set_option maxRecDepth 100000
set_option maxHeartbeats 2000000
namespace BF
open PySem PySem.Spec PyProof.Rows L2
section
variable {G : Type}
/-! ### what expressions do -/
def evVar (i : Nat) (s : Sg G) : Rs G Ov := match s.sl[i]? with
  | some (some _) => .ok (.pl i) s
  | _ => .no
def evC (d : D) (s : Sg G) : Rs G Ov := .ok (.vl d) s
/-- a test's answer -/
def tst (s : Sg G) (x : Ov) : Option Bool := match pk s x with
  | some (.bl b) => some b
  | _ => none
def evIf (c a b : Sg G → Rs G Ov) (s : Sg G) : Rs G Ov := (c s).bind fun x s1 => match tst s1 x with
  | some true => a s1
  | some false => b s1
  | none => .no
def evAnd (a b : Sg G → Rs G Ov) (s : Sg G) : Rs G Ov := (a s).bind fun x s1 => match tst s1 x with
  | some true => b s1
  | some false => .ok (.vl (.bl false)) s1
  | none => .no
def evOr (a b : Sg G → Rs G Ov) (s : Sg G) : Rs G Ov := (a s).bind fun x s1 => match tst s1 x with
  | some true => .ok (.vl (.bl true)) s1
  | some false => b s1
  | none => .no
def evTup (f : Sg G → Rs G (List Ov)) (s : Sg G) : Rs G Ov := (f s).bind fun xs s1 => (uses s1 xs).bind fun ds s2 => .ok (.vl (.tup ds)) s2
def evLst (f : Sg G → Rs G (List Ov)) (s : Sg G) : Rs G Ov := (f s).bind fun xs s1 => (uses s1 xs).bind fun ds s2 => .ok (.fr (.lst ds)) s2
/-- a def's answer -/
inductive Fr (G : Type) where
  | ok (d : D) (g : G)
  | er (x : Er) (g : G)
  | no
abbrev Mir (G : Type) := List D → G → Fr G
def evCall (g : Mir G) (f : Sg G → Rs G (List Ov)) (s : Sg G) : Rs G Ov := (f s).bind fun xs s1 => (uses s1 xs).bind fun ds s2 => match g ds s2.g with
  | .ok d g' => .ok (.vl d) { s2 with g := g' }
  | .er x g' => .er x g'
  | .no => .no
/-- a ? b ? c -/
def evChain (o o' : D → D → Option Ov) (fab : Sg G → Rs G (List Ov)) (fc : Sg G → Rs G Ov) (s : Sg G) : Rs G Ov := (fab s).bind fun xs s1 => match xs, pks s1 xs with
  | [_, y], some [d, e] => (match o d e with
    | some (.vl (.bl true)) => (fc s1).bind fun z s2 => (match pk s2 y, pk s2 z with
      | some e', some c => (match o' e' c with
        | some (.vl (.bl b)) => .ok (.vl (.bl b)) s2
        | _ => .no)
      | _, _ => .no)
    | some (.vl (.bl false)) => .ok (.vl (.bl false)) s1
    | _ => .no)
  | _, _ => .no
end
section
variable {G : Type} {X : Cx} {K : Env1} {T : Gt G} {W : WX1} {a b c e : Expr} {es : List Expr} {fa fb fc : Sg G → Rs G Ov} {fl : Sg G → Rs G (List Ov)} {pos : Pos}
theorem se_var {i : Nat} {x : Str} (hN : X.N[i]? = some x) (hv : Vis X.env.scope x) (hd : (x == ("__debug__" : Str)) = false) (hcd : (x == ("__classdict__" : Str)) = false) : SE X K T W (.Name x pos) (evVar i) := by
  intro F H σ s Q R h
  unfold evVar at h
  split at h
  · rename_i y e
    obtain ⟨b, d⟩ := y
    have : ∃ v, σ[i]? = some (some v) := by
      cases b with
      | false => obtain ⟨v, h1, _⟩ := R.val i d e; exact ⟨v, h1⟩
      | true => obtain ⟨p, h1, _⟩ := R.own i d e; exact ⟨_, h1⟩
    obtain ⟨v, hv'⟩ := this
    exact wpE_of (pe_var hN hv hd hcd) ⟨v, hv', h v F H (Stp.refl ..) R ⟨hv', _, e⟩⟩
  · exact h.elim
theorem se_c {d : D} {v : V} (hp : PE X e (tC v)) (hr : ∀ F, Rep K F v d) : SE X K T W e (evC d) := fun F H σ s Q R h => wpE_of hp (h v F H (Stp.refl ..) R (hr F))
theorem se_int {i : Int} {j : Nat} : SE X K T W (.Constant (.int i) j pos) (evC (.int i)) := se_c pe_int fun _ => .int i
theorem se_bl {i : Bool} {j : Nat} : SE X K T W (.Constant (.bool i) j pos) (evC (.bl i)) := se_c pe_bl fun _ => .bl i
theorem se_non {j : Nat} : SE X K T W (.Constant .none j pos) (evC .non) := se_c pe_non fun _ => .non
theorem se_str {i : Str} {j : Nat} : SE X K T W (.Constant (.str i) j pos) (evC (.str i)) := se_c pe_str fun _ => .str i
/-- a module's constant -/
theorem se_glob {x : Str} {d : D} {v : V} {u : Value} (hg : Gl X x) (hm : X.mg x = some u) (r : RelV v u) (hr : ∀ F, Rep K F v d) (hd : (x == ("__debug__" : Str)) = false) : SE X K T W (.Name x pos) (evC d) := se_c (pe_glob hg hm r hd) hr
theorem se_bltn {x : Str} {d : D} {v : V} {u : Value} (hg : Gl X x) (hm : X.mg x = none) (hv : bootBuiltins x = some u) (r : RelV v u) (hr : ∀ F, Rep K F v d) (hn : x ≠ "__name__") (hd : (x == ("__debug__" : Str)) = false) : SE X K T W (.Name x pos) (evC d) := se_c (pe_bltn hg hm hv r hn hd) hr
/-- operators -/
theorem wp2 {r : R2} {t : TE} {e : Expr} (hp : PE X e (tOp r (wpE X a) (wpE X b))) : ∀ σ H Q, wpL X [a, b] σ H (fun vs H1 => ∃ x y, vs = [x, y] ∧ r x y H1 Q) → wpE X e σ H Q := by
  intro σ H Q h
  refine wpE_of hp ?_
  show wpE X a σ H fun x H1 => wpE X b σ H1 fun y H2 => r x y H2 Q
  have h : wpE X a σ H fun x H1 => wpE X b σ H1 fun y H2 => ∃ x' y', [x, y] = [x', y'] ∧ r x' y' H2 Q := h
  intro pins s I
  refine thn (h pins s I) fun u s1 ⟨x, H1, I1, r1, q1⟩ => ⟨x, H1, I1, r1, fun pins s I => ?_⟩
  refine thn (q1 pins s I) fun u s1 ⟨y, H2, I2, r2, x', y', e, q2⟩ => ⟨y, H2, I2, r2, ?_⟩
  cases e; exact q2
theorem op2_n {o : D → D → Option Ov} {r : R2} (h : Op2 K o r) : Opn K (two o) (fun vs H Q => ∃ x y, vs = [x, y] ∧ r x y H Q) := opn_two fun F H v w d e res Q l hd he ho hc => ⟨v, w, rfl, h F H v w d e res Q l hd he ho hc⟩
theorem se_bin {op : Operator} {o : D → D → Option Ov} {r : R2} (hr : OpR X (binaryOp op) r) (ho : Op2 K o r) (hl : SL X K T W [a, b] fl) : SE X K T W (.BinOp a op b pos) (evOp fl (two o)) :=
  se_op hl (op2_n ho) (wp2 (t := fun _ _ _ => True) (pe_op hr (pe_self X a) (pe_self X b)))
theorem se_cmp {op : CmpOp} {o : D → D → Option Ov} {r : R2} (hr : OpR X (compareOp op) r) (ho : Op2 K o r) (hl : SL X K T W [a, b] fl) (hm : behindInMarks op b = false) : SE X K T W (.Compare a [op] [b] pos) (evOp fl (two o)) :=
  se_op hl (op2_n ho) (wp2 (t := fun _ _ _ => True) (pe_cmpR hr (pe_self X a) (pe_self X b) hm))
theorem se_ix {o : D → D → Option Ov} {r : R2} (hr : IxR X r) (ho : Op2 K o r) (hl : SL X K T W [a, b] fl) (hs : PlainIx b) : SE X K T W (.Subscript a b pos) (evOp fl (two o)) :=
  se_op hl (op2_n ho) (wp2 (t := fun _ _ _ => True) (pe_ix hr (pe_self X a) (pe_self X b) hs))
theorem se_neg (hl : SL X K T W [a] fl) : SE X K T W (.UnaryOp .USub a pos) (evOp fl (one negO)) := by
  refine se_op (rr := fun vs H Q => ∃ x, vs = [x] ∧ rU (fun i => .int (-i)) x H Q) hl (opn_one fun F H v d res Q l hd ho hc => ⟨v, rfl, op1_neg F H v d res Q l hd ho hc⟩) fun σ H Q h => wpE_of (pe_un un_neg (pe_self X a)) ?_
  intro pins s I
  refine thn ((show wpE X a σ H fun x H1 => ∃ x', [x] = [x'] ∧ rU (fun i => .int (-i)) x' H1 Q from h) pins s I) fun u s1 ⟨x, H1, I1, r1, x', e, q⟩ => ⟨x, H1, I1, r1, ?_⟩
  cases e; exact q
theorem wp_mono {Q Q' : VK} {σ : Sl} {H : Hp} (h : wpE X e σ H Q) (q : ∀ v H', Q v H' → Q' v H') : wpE X e σ H Q' := fun pins s I => thn (h pins s I) fun u s1 ⟨x, H1, I1, r1, q1⟩ => ⟨x, H1, I1, r1, q x H1 q1⟩
theorem wpL_mono {Q Q' : List V → Hp → Prop} {σ : Sl} : ∀ {es : List Expr} {H : Hp} {Q Q' : List V → Hp → Prop}, wpL X es σ H Q → (∀ v H', Q v H' → Q' v H') → wpL X es σ H Q'
  | [], _, _, _, h, q => q _ _ h
  | e :: es, _, _, _, h, q => wp_mono (e := e) h fun v H' h' => wpL_mono (Q := Q) (Q' := Q') h' fun vs H'' h'' => q _ _ h''
/-- a built-in function -/
theorem se_blt {x : Str} {p : Pos} {id : String} {o : List D → Option Ov} {r : List V → Hp → VK → Prop} (hc : CallR X (.builtin id) r) (ho : Opn K o r) (hg : Gl X x) (hm : X.mg x = none) (hv : bootBuiltins x = some (.builtin id)) (hn : x ≠ "__name__") (hdb : (x == ("__debug__" : Str)) = false)
    (hst : (e :: es).all noStar = true) (hl : SL X K T W (e :: es) fl) : SE X K T W (.Call (.Name x p) (e :: es) [] pos) (evOp fl o) := by
  have h' := Bool.and_eq_true_iff.mp (show (noStar e && es.all noStar) = true from hst)
  exact se_op hl ho fun σ H Q h => wpE_of (pe_callB hc hg hm hv (pa_self X hst) hn hdb (starEach_of h'.1) (back_of X pos h'.2)) h
theorem se_bty {x : Str} {p : Pos} {id : String} {o : List D → Option Ov} {r : List V → Hp → VK → Prop} (hc : CallR X (.type id) r) (ho : Opn K o r) (hg : Gl X x) (hm : X.mg x = none) (hv : bootBuiltins x = some (.type id)) (hn : x ≠ "__name__") (hdb : (x == ("__debug__" : Str)) = false)
    (hst : (e :: es).all noStar = true) (hl : SL X K T W (e :: es) fl) : SE X K T W (.Call (.Name x p) (e :: es) [] pos) (evOp fl o) := by
  have h' := Bool.and_eq_true_iff.mp (show (noStar e && es.all noStar) = true from hst)
  exact se_op hl ho fun σ H Q h => wpE_of (pe_callTy hc hg hm hv (pa_self X hst) hn hdb (starEach_of h'.1) (back_of X pos h'.2)) h
/-- what comes of used operands -/
theorem sl_used {k : List D → Sg G → Rs G Ov} {P : List V → Hp → VK → Prop} {F H : Hp} {σ : Sl} {s : Sg G} {Q : VK} (hf : SL X K T W es fl) (R : Rl K T F H s σ)
    (hk : ∀ F1 H1 s1 vs ds, Rl K T F1 H1 s1 σ → Stp T F H s σ F1 H1 s1 σ → Reps K F1 vs ds → PstE K T W F1 H1 s1 σ (k ds s1) Q → P vs H1 Q)
    (h : PstE K T W F H s σ ((fl s).bind fun xs s1 => (uses s1 xs).bind fun ds s2 => k ds s2) Q) : wpL X es σ H (fun vs H1 => P vs H1 Q) := by
  refine hf F H σ s _ R ?_
  cases q : fl s with
  | no => rw [q] at h; exact h.elim
  | er x g => rw [q] at h; exact h
  | ok xs s1 =>
    rw [q] at h
    intro vs F1 H1 S1 R1 r1
    have h : PstE K T W F H s σ ((uses s1 xs).bind fun ds s2 => k ds s2) Q := h
    cases q2 : uses s1 xs with
    | no => rw [q2] at h; exact h.elim
    | er x g =>
      exfalso
      have : ∀ (xs : List Ov) (s : Sg G), uses s xs ≠ .er x g := by
        intro xs
        induction xs with
        | nil => intro s e; cases e
        | cons y ys ih =>
          intro s e
          have e : ((use s y).bind fun d s1 => (uses s1 ys).bind fun ds s2 => .ok (d :: ds) s2) = .er x g := e
          cases y with
          | vl d =>
            have e : ((uses s ys).bind fun ds s2 => Rs.ok (d :: ds) s2) = .er x g := e
            cases q : uses s ys with
            | no => rw [q] at e; cases e
            | er x' g' => rw [q] at e; cases e; exact ih s q
            | ok ds s2 => rw [q] at e; cases e
          | fr d =>
            have e : ((uses s ys).bind fun ds s2 => Rs.ok (d :: ds) s2) = .er x g := e
            cases q : uses s ys with
            | no => rw [q] at e; cases e
            | er x' g' => rw [q] at e; cases e; exact ih s q
            | ok ds s2 => rw [q] at e; cases e
          | pl i =>
            have e : ((match look s i with
              | some d => Rs.ok d (frzS s i)
              | none => Rs.no).bind fun d s1 => (uses s1 ys).bind fun ds s2 => .ok (d :: ds) s2) = .er x g := e
            cases q0 : look s i with
            | none => rw [q0] at e; cases e
            | some d =>
              rw [q0] at e
              have e : ((uses (frzS s i) ys).bind fun ds s2 => Rs.ok (d :: ds) s2) = .er x g := e
              cases q : uses (frzS s i) ys with
              | no => rw [q] at e; cases e
              | er x' g' => rw [q] at e; cases e; exact ih _ q
              | ok ds s2 => rw [q] at e; cases e
      exact this xs s1 q2
    | ok ds s2 =>
      rw [q2] at h
      obtain ⟨F2, R2, S2, p2⟩ := r1.used S1 R R1 q2
      exact hk F2 H1 s2 vs ds R2 S2 p2 (PstE.step S2 R R2 h)
theorem Reps.len_es {F : Hp} {vs : List V} {ds : List D} (r : Reps K F vs ds) : ds.length = vs.length := r.length.symm
theorem wpL_len {σ : Sl} : ∀ {es : List Expr} {H : Hp} {Q : List V → Hp → Prop}, wpL X es σ H Q → wpL X es σ H fun vs H' => vs.length = es.length ∧ Q vs H'
  | [], _, _, h => ⟨rfl, h⟩
  | e :: es, _, _, h => wp_mono (e := e) h fun v H' h' => wpL_mono (Q := fun _ _ => True) (Q' := fun _ _ => True) (wpL_len h') fun vs H'' h'' => ⟨by simp [h''.1], h''.2⟩
theorem se_tup {k : Nat} (hst : es.all noStar = true) (hz : es.length ≤ sizeLine) (hl : SL X K T W es fl) : SE X K T W (.Tuple es k pos) (evTup fl) := by
  intro F H σ s Q R h
  refine wpE_of (pe_tup (pa_self X hst)) ?_
  show wpL X es σ H fun xs H1 => xs.length ≤ sizeLine ∧ ∀ p, H1 p = none → Q (.ref p) (upd H1 p (.tup xs))
  refine wpL_mono (Q := fun _ _ => True) (Q' := fun _ _ => True) (wpL_len (sl_used (P := fun vs H1 Q => ∀ p, H1 p = none → Q (.ref p) (upd H1 p (.tup vs))) hl R (fun F1 H1 s1 vs ds R1 S1 r hq p n => ?_) h)) fun vs H1 q => ⟨by rw [q.1]; exact hz, q.2⟩
  obtain ⟨R2, S2⟩ := R1.newF (o := .tup vs) n
  exact hq (.ref p) _ _ S2 R2 (.tup (.inl upd_same) (r.mono S2.le))
theorem se_lst (hst : es.all noStar = true) (hz : es.length ≤ sizeLine) (hl : SL X K T W es fl) : SE X K T W (.List es pos) (evLst fl) := by
  intro F H σ s Q R h
  refine wpE_of (pe_lst (pa_self X hst)) ?_
  show wpL X es σ H fun xs H1 => xs.length ≤ sizeLine ∧ ∀ p, H1 p = none → Q (.ref p) (upd H1 p (.lst xs))
  refine wpL_mono (Q := fun _ _ => True) (Q' := fun _ _ => True) (wpL_len (sl_used (P := fun vs H1 Q => ∀ p, H1 p = none → Q (.ref p) (upd H1 p (.lst vs))) hl R (fun F1 H1 s1 vs ds R1 S1 r hq p n => ?_) h)) fun vs H1 q => ⟨by rw [q.1]; exact hz, q.2⟩
  obtain ⟨R2, S2⟩ := R1.new (o := .lst vs) n
  obtain ⟨n1, nf, no⟩ := R1.free n
  exact hq (.ref p) _ _ S2 R2 ⟨p, rfl, n, n1, nf, no, vs, upd_same, r⟩
end
end BF
set_option Elab.async false
set_option linter.all false
set_option autoImplicit false
set_option maxRecDepth 100000
set_option maxHeartbeats 2000000
namespace BF
open PySem PySem.Spec PyProof.Rows L2
section
variable {G : Type}
def PstT (K : Env1) (T : Gt G) (W : WX1) (F H : Hp) (s : Sg G) (σ : Sl) (r : Rs G Ov) (Q : Bool → Hp → Prop) : Prop := match r with
  | .ok x s' => (match tst s' x with
    | some b => ∀ F' H', Stp T F H s σ F' H' s' σ → Rl K T F' H' s' σ → Q b H'
    | none => False)
  | .er x g => PstX K T W F H s σ x g
  | .no => False
/-- the judgement of a test -/
def ST (X : Cx) (K : Env1) (T : Gt G) (W : WX1) (e : Expr) (f : Sg G → Rs G Ov) : Prop := ∀ F H σ s Q, Rl K T F H s σ → PstT K T W F H s σ (f s) Q → wpT X e σ H Q
end
section
variable {G : Type} {X : Cx} {K : Env1} {T : Gt G} {W : WX1} {a b c e : Expr} {es : List Expr} {fa fb fc : Sg G → Rs G Ov} {fl : Sg G → Rs G (List Ov)} {pos : Pos} {F H F1 H1 : Hp} {s s1 : Sg G} {σ : Sl}
theorem tst_rh {v : V} {x : Ov} {b : Bool} {H0 : Hp} (R : Rl K T F H s σ) (r : RO K T H0 F H s σ v x) (h : tst s x = some b) : v = .bl b := by
  unfold tst at h
  split at h
  · rename_i b' q
    cases h
    exact (r.rh R q).bl
  · cases h
theorem PstT.toE {r : Rs G Ov} {Q : Bool → Hp → Prop} (h : PstT K T W F H s σ r Q) : PstE K T W F H s σ r (fun v H' => ∃ k, v = .bl k ∧ Q k H') := by
  cases r with
  | no => exact h.elim
  | er x g => exact h
  | ok x s' =>
    intro v F' H' S R r
    have h : (match tst s' x with
      | some b => ∀ F' H', Stp T F H s σ F' H' s' σ → Rl K T F' H' s' σ → Q b H'
      | none => False) := h
    cases q : tst s' x with
    | none => rw [q] at h; exact h.elim
    | some b => rw [q] at h; exact ⟨b, tst_rh R r q, h F' H' S R⟩
theorem PstT.step {r : Rs G Ov} {Q : Bool → Hp → Prop} (S : Stp T F H s σ F1 H1 s1 σ) (R : Rl K T F H s σ) (R1 : Rl K T F1 H1 s1 σ) (h : PstT K T W F H s σ r Q) : PstT K T W F1 H1 s1 σ r Q := by
  cases r with
  | no => exact h.elim
  | er x g => exact PstX.step S R R1 h
  | ok x s' =>
    have h : (match tst s' x with
      | some b => ∀ F' H', Stp T F H s σ F' H' s' σ → Rl K T F' H' s' σ → Q b H'
      | none => False) := h
    show (match tst s' x with
      | some b => ∀ F' H', Stp T F1 H1 s1 σ F' H' s' σ → Rl K T F' H' s' σ → Q b H'
      | none => False)
    cases q : tst s' x with
    | none => rw [q] at h; exact h
    | some b => rw [q] at h; exact fun F' H' S' R' => h F' H' (S.trans S' R R') R'
theorem st_val (he : ∀ whole, isTrue e X.env whole = (do let v ← whole; standAt e.pos; holding [v] (truthy v))) (h : SE X K T W e fa) : ST X K T W e fa := fun F H σ s Q R hq => wpT_of (pt_val (pe_self X e) he) (h F H σ s _ R hq.toE)
/-- the core of an operation -/
theorem op_core {op : List D → Option Ov} {rr : List V → Hp → VK → Prop} {Q : VK} (hf : SL X K T W es fl) (ho : Opn K op rr) (R : Rl K T F H s σ) (h : PstE K T W F H s σ (evOp fl op s) Q) : wpL X es σ H (fun vs H1 => rr vs H1 Q) := by
  refine hf F H σ s _ R ?_
  unfold evOp at h
  cases q : fl s with
  | no => rw [q] at h; exact h.elim
  | er x g => rw [q] at h; exact h
  | ok xs s1 =>
    rw [q] at h
    intro vs F1 H1 S1 R1 r1
    simp only [Rs.bind] at h
    cases q2 : pks s1 xs with
    | none => rw [q2] at h; exact h.elim
    | some ds =>
      rw [q2] at h
      simp only at h
      cases q3 : op ds with
      | none => rw [q3] at h; exact h.elim
      | some res =>
        rw [q3] at h
        cases res with
        | pl i => exact h.elim
        | vl d => exact ho F1 H1 vs ds _ Q R1.sub (r1.rhs R1 q2) q3 (cont_of R1 (fun _ z => nomatch z) (PstE.step S1 R R1 h))
        | fr d => exact ho F1 H1 vs ds _ Q R1.sub (r1.rhs R1 q2) q3 (cont_of R1 (fun _ z => nomatch z) (PstE.step S1 R R1 h))
theorem st_cmp {op : CmpOp} {o : D → D → Option Ov} {r : R2} (hr : OpR X (compareOp op) r) (ho : Op2 K o r) (hl : SL X K T W [a, b] fl) (hm : behindInMarks op b = false) : ST X K T W (.Compare a [op] [b] pos) (evOp fl (two o)) := by
  intro F H σ s Q R h
  refine wpT_of (pt_cmpR hr (pe_self X a) (pe_self X b) hm) ?_
  have q := op_core hl (op2_n ho) R h.toE
  show wpE X a σ H fun x H1 => wpE X b σ H1 fun y H2 => r x y H2 (fun x H' => ∃ k, x = .bl k ∧ Q k H')
  have q : wpE X a σ H fun x H1 => wpE X b σ H1 fun y H2 => ∃ x' y', [x, y] = [x', y'] ∧ r x' y' H2 (fun v H' => ∃ k, v = .bl k ∧ Q k H') := q
  exact wp_mono q fun x H1 q => wp_mono q fun y H2 ⟨x', y', e, q⟩ => by cases e; exact q
theorem chain_core {o o' : D → D → Option Ov} {r r' : R2} {Q : VK} (ho : Op2 K o r) (ho' : Op2 K o' r') (hl : SL X K T W [a, b] fl) (hc : SE X K T W c fc) (R : Rl K T F H s σ) (h : PstE K T W F H s σ (evChain o o' fl fc s) Q) :
    tChain r r' (wpE X a) (wpE X b) (wpE X c) σ H Q := by
  have main : wpL X [a, b] σ H fun vs H2 => ∃ x y, vs = [x, y] ∧ r x y H2 fun z H3 => ∃ k, z = .bl k ∧ (if k = true then wpE X c σ H3 fun w' H4 => r' y w' H4 Q else Q (.bl false) H3) := by
    refine hl F H σ s _ R ?_
    unfold evChain at h
    cases q : fl s with
    | no => rw [q] at h; exact h.elim
    | er x g => rw [q] at h; exact h
    | ok xs s1 =>
      rw [q] at h
      intro vs F1 H1 S1 R1 r1
      simp only [Rs.bind] at h
      match xs, h, r1 with
      | [x0, y0], h, r1 =>
       match q2 : pks s1 [x0, y0], h with
       | none, h => exact h.elim
       | some [], h => exact h.elim
       | some [_], h => exact h.elim
       | some (_ :: _ :: _ :: _), h => exact h.elim
       | some [d, e], h =>
        simp only [] at h
        have rr := r1.rhs R1 q2
        obtain ⟨v, w, rfl, hv, hw⟩ := rr.two
        refine ⟨v, w, rfl, ?_⟩
        match q3 : o d e, h with
        | some (.vl (.bl true)), h =>
          refine ho F1 H1 v w d e _ _ R1.sub hv hw q3 ⟨fun z hz => ?_, fun ds e => nomatch e⟩
          cases hz
          refine ⟨true, rfl, ?_⟩
          rw [if_pos rfl]
          refine hc F1 H1 σ s1 _ R1 ?_
          simp only [] at h
          cases q4 : fc s1 with
          | no => rw [q4] at h; exact h.elim
          | er x g => rw [q4] at h; exact PstX.step S1 R R1 h
          | ok z s2 =>
            rw [q4] at h
            intro w' F2 H2 S2 R2 r2
            simp only [Rs.bind] at h
            have ry : RO K T H F1 H1 s1 σ w y0 := by
              cases r1 with
              | cons _ _ t => cases t with
                | cons t _ _ => exact t
            have ry2 := ry.step S2
            match q5 : pk s2 y0, q6 : pk s2 z, h with
            | some e', some c', h =>
              simp only [] at h
              match q7 : o' e' c', h with
              | some (.vl (.bl b)), h => exact ho' F2 H2 w w' e' c' _ Q R2.sub (ry2.rh R2 q5) (r2.rh R2 q6) q7 (cont_of R2 (fun _ z => nomatch z) (PstE.step (S1.trans S2 R R2) R R2 h))
              | none, h => exact h.elim
              | some (.pl i), h => exact h.elim
              | some (.fr d), h => exact h.elim
              | some (.vl .non), h => exact h.elim
              | some (.vl (.int _)), h => exact h.elim
              | some (.vl (.str _)), h => exact h.elim
              | some (.vl (.lst _)), h => exact h.elim
              | some (.vl (.tup _)), h => exact h.elim
              | some (.vl (.dct _)), h => exact h.elim
              | some (.vl (.obj _ _ _)), h => exact h.elim
              | some (.vl (.ref _)), h => exact h.elim
              | some (.vl (.ty _)), h => exact h.elim
            | none, _, h => exact h.elim
            | some _, none, h => exact h.elim
        | some (.vl (.bl false)), h =>
          refine ho F1 H1 v w d e _ _ R1.sub hv hw q3 ⟨fun z hz => ?_, fun ds e => nomatch e⟩
          cases hz
          refine ⟨false, rfl, ?_⟩
          rw [if_neg Bool.false_ne_true]
          exact h (.bl false) F1 H1 S1 R1 (.bl false)
        | none, h => exact h.elim
        | some (.pl i), h => exact h.elim
        | some (.fr d), h => exact h.elim
        | some (.vl .non), h => exact h.elim
        | some (.vl (.int _)), h => exact h.elim
        | some (.vl (.str _)), h => exact h.elim
        | some (.vl (.lst _)), h => exact h.elim
        | some (.vl (.tup _)), h => exact h.elim
        | some (.vl (.dct _)), h => exact h.elim
        | some (.vl (.obj _ _ _)), h => exact h.elim
        | some (.vl (.ref _)), h => exact h.elim
        | some (.vl (.ty _)), h => exact h.elim
      | [], h, _ => exact h.elim
      | [_], h, _ => exact h.elim
      | _ :: _ :: _ :: _, h, _ => exact h.elim
  have main : wpE X a σ H fun x H1 => wpE X b σ H1 fun y H2 => ∃ x' y', [x, y] = [x', y'] ∧ r x' y' H2 fun z H3 => ∃ k, z = .bl k ∧ (if k = true then wpE X c σ H3 fun w' H4 => r' y' w' H4 Q else Q (.bl false) H3) := main
  exact wp_mono main fun x H1 q => wp_mono q fun y H2 ⟨x', y', e, q⟩ => by cases e; exact q
theorem se_chain {op op' : CmpOp} {o o' : D → D → Option Ov} {r r' : R2} (hr : OpR X (compareOp op) r) (hr' : OpR X (compareOp op') r') (ho : Op2 K o r) (ho' : Op2 K o' r') (hl : SL X K T W [a, b] fl) (hc : SE X K T W c fc) (hm : lastMarks [op, op'] [b, c] = false) :
    SE X K T W (.Compare a [op, op'] [b, c] pos) (evChain o o' fl fc) := fun F H σ s Q R h => wpE_of (pe_chain hr hr' (pe_self X a) (pe_self X b) (pe_self X c) hm) (chain_core ho ho' hl hc R h)
theorem st_chain {op op' : CmpOp} {o o' : D → D → Option Ov} {r r' : R2} (hr : OpR X (compareOp op) r) (hr' : OpR X (compareOp op') r') (ho : Op2 K o r) (ho' : Op2 K o' r') (hl : SL X K T W [a, b] fl) (hc : SE X K T W c fc) (hm : lastMarks [op, op'] [b, c] = false) :
    ST X K T W (.Compare a [op, op'] [b, c] pos) (evChain o o' fl fc) := fun F H σ s Q R h => wpT_of (pt_chain hr hr' (pe_self X a) (pe_self X b) (pe_self X c) hm) (chain_core ho ho' hl hc R h.toE)
/-! ### if, and, or, not -/
theorem bind_tst {f : Sg G → Rs G Ov} {k : Bool → Sg G → Rs G Ov} {Q : VK} (h : PstE K T W F H s σ ((f s).bind fun x s1 => match tst s1 x with
    | some b => k b s1
    | none => .no) Q) (R : Rl K T F H s σ) : PstT K T W F H s σ (f s) (fun b H1 => ∃ F1 s1, Rl K T F1 H1 s1 σ ∧ PstE K T W F1 H1 s1 σ (k b s1) Q) := by
  cases q : f s with
  | no => rw [q] at h; exact h.elim
  | er x g => rw [q] at h; exact h
  | ok x s1 =>
    rw [q] at h
    have h : PstE K T W F H s σ (match tst s1 x with
      | some b => k b s1
      | none => .no) Q := h
    show (match tst s1 x with
      | some b => ∀ F' H', Stp T F H s σ F' H' s1 σ → Rl K T F' H' s1 σ → ∃ F1 s1, Rl K T F1 H' s1 σ ∧ PstE K T W F1 H' s1 σ (k b s1) Q
      | none => False)
    cases q2 : tst s1 x with
    | none => rw [q2] at h; exact h.elim
    | some b => rw [q2] at h; exact fun F' H' S' R' => ⟨F', s1, R', PstE.step S' R R' h⟩
theorem bind_tstT {f : Sg G → Rs G Ov} {k : Bool → Sg G → Rs G Ov} {Q : Bool → Hp → Prop} (h : PstT K T W F H s σ ((f s).bind fun x s1 => match tst s1 x with
    | some b => k b s1
    | none => .no) Q) (R : Rl K T F H s σ) : PstT K T W F H s σ (f s) (fun b H1 => ∃ F1 s1, Rl K T F1 H1 s1 σ ∧ PstT K T W F1 H1 s1 σ (k b s1) Q) := by
  cases q : f s with
  | no => rw [q] at h; exact h.elim
  | er x g => rw [q] at h; exact h
  | ok x s1 =>
    rw [q] at h
    have h : PstT K T W F H s σ (match tst s1 x with
      | some b => k b s1
      | none => .no) Q := h
    show (match tst s1 x with
      | some b => ∀ F' H', Stp T F H s σ F' H' s1 σ → Rl K T F' H' s1 σ → ∃ F1 s1, Rl K T F1 H' s1 σ ∧ PstT K T W F1 H' s1 σ (k b s1) Q
      | none => False)
    cases q2 : tst s1 x with
    | none => rw [q2] at h; exact h.elim
    | some b => rw [q2] at h; exact fun F' H' S' R' => ⟨F', s1, R', PstT.step S' R R' h⟩
theorem evIf_eq (c a b : Sg G → Rs G Ov) (s : Sg G) : evIf c a b s = (c s).bind fun x s1 => match tst s1 x with
    | some q => (if q = true then a s1 else b s1)
    | none => .no := by
  unfold evIf; congr 1; funext x s1; cases tst s1 x with
  | none => rfl
  | some q => cases q <;> rfl
theorem evAnd_eq (a b : Sg G → Rs G Ov) (s : Sg G) : evAnd a b s = (a s).bind fun x s1 => match tst s1 x with
    | some q => (if q = true then b s1 else .ok (.vl (.bl false)) s1)
    | none => .no := by
  unfold evAnd; congr 1; funext x s1; cases tst s1 x with
  | none => rfl
  | some q => cases q <;> rfl
theorem evOr_eq (a b : Sg G → Rs G Ov) (s : Sg G) : evOr a b s = (a s).bind fun x s1 => match tst s1 x with
    | some q => (if q = true then .ok (.vl (.bl true)) s1 else b s1)
    | none => .no := by
  unfold evOr; congr 1; funext x s1; cases tst s1 x with
  | none => rfl
  | some q => cases q <;> rfl
theorem se_if (hc : ST X K T W c fc) (ha : SE X K T W a fa) (hb : SE X K T W b fb) : SE X K T W (.IfExp c a b pos) (evIf fc fa fb) := by
  intro F H σ s Q R h
  refine wpE_of (pe_ifExp (pt_self X c) (pe_self X a) (pe_self X b)) ?_
  rw [evIf_eq] at h
  refine hc F H σ s _ R ?_
  have q := bind_tst (k := fun q s1 => if q = true then fa s1 else fb s1) h R
  refine (show ∀ {r : Rs G Ov} {Q Q' : Bool → Hp → Prop}, PstT K T W F H s σ r Q → (∀ b H, Q b H → Q' b H) → PstT K T W F H s σ r Q' from ?_) q fun b H1 ⟨F1, s1, R1, q⟩ => ?_
  · intro r Q Q' h i
    cases r with
    | no => exact h
    | er x g => exact h
    | ok x s' =>
      show (match tst s' x with
        | some b => ∀ F' H', Stp T F H s σ F' H' s' σ → Rl K T F' H' s' σ → Q' b H'
        | none => False)
      have h : (match tst s' x with
        | some b => ∀ F' H', Stp T F H s σ F' H' s' σ → Rl K T F' H' s' σ → Q b H'
        | none => False) := h
      cases q : tst s' x with
      | none => rw [q] at h; exact h
      | some b => rw [q] at h; exact fun F' H' S' R' => i b H' (h F' H' S' R')
  · cases b with
    | true => rw [if_pos rfl] at q ⊢; exact ha F1 H1 σ s1 Q R1 q
    | false => rw [if_neg Bool.false_ne_true] at q ⊢; exact hb F1 H1 σ s1 Q R1 q
theorem PstT.mono {r : Rs G Ov} {Q Q' : Bool → Hp → Prop} (h : PstT K T W F H s σ r Q) (i : ∀ b H, Q b H → Q' b H) : PstT K T W F H s σ r Q' := by
  cases r with
  | no => exact h
  | er x g => exact h
  | ok x s' =>
    show (match tst s' x with
      | some b => ∀ F' H', Stp T F H s σ F' H' s' σ → Rl K T F' H' s' σ → Q' b H'
      | none => False)
    have h : (match tst s' x with
      | some b => ∀ F' H', Stp T F H s σ F' H' s' σ → Rl K T F' H' s' σ → Q b H'
      | none => False) := h
    cases q : tst s' x with
    | none => rw [q] at h; exact h
    | some b => rw [q] at h; exact fun F' H' S' R' => i b H' (h F' H' S' R')
/-- the value of a BoolOp: the last one, or one ahead -/
theorem se_and1 {op : BoolOp} (ha : SE X K T W a fa) : SE X K T W (.BoolOp op [a] pos) fa := fun F H σ s Q R h => wpE_of (pe_one (pe_self X a)) (ha F H σ s Q R h)
theorem se_and {rest : List Expr} (ha : SE X K T W a fa) (hb : SE X K T W (.BoolOp .And (b :: rest) pos) fb) : SE X K T W (.BoolOp .And (a :: b :: rest) pos) (evAnd fa fb) := by
  intro F H σ s Q R h
  refine wpE_of (pe_and (pe_self X a) (pe_self X _)) ?_
  rw [evAnd_eq] at h
  have q := bind_tst (k := fun q s1 => if q = true then fb s1 else .ok (.vl (.bl false)) s1) h R
  refine ha F H σ s _ R ((PstT.mono (Q' := fun c H1 => if c = true then wpE X (.BoolOp .And (b :: rest) pos) σ H1 Q else Q (.bl false) H1) q fun c H1 ⟨F1, s1, R1, q⟩ => ?_).toE)
  cases c with
  | true => rw [if_pos rfl] at q ⊢; exact hb F1 H1 σ s1 Q R1 q
  | false => rw [if_neg Bool.false_ne_true] at q ⊢; exact q (.bl false) F1 H1 (Stp.refl ..) R1 (.bl false)
theorem se_or {rest : List Expr} (ha : SE X K T W a fa) (hb : SE X K T W (.BoolOp .Or (b :: rest) pos) fb) : SE X K T W (.BoolOp .Or (a :: b :: rest) pos) (evOr fa fb) := by
  intro F H σ s Q R h
  refine wpE_of (pe_or (pe_self X a) (pe_self X _)) ?_
  rw [evOr_eq] at h
  have q := bind_tst (k := fun q s1 => if q = true then .ok (.vl (.bl true)) s1 else fb s1) h R
  refine ha F H σ s _ R ((PstT.mono (Q' := fun c H1 => if c = true then Q (.bl true) H1 else wpE X (.BoolOp .Or (b :: rest) pos) σ H1 Q) q fun c H1 ⟨F1, s1, R1, q⟩ => ?_).toE)
  cases c with
  | true => rw [if_pos rfl] at q ⊢; exact q (.bl true) F1 H1 (Stp.refl ..) R1 (.bl true)
  | false => rw [if_neg Bool.false_ne_true] at q ⊢; exact hb F1 H1 σ s1 Q R1 q
/-- a BoolOp as a test, whatever its whole -/
def wpW (X : Cx) (e : Expr) : TT := fun σ H Q => ∀ (whole : Sem Value) (pins : List (Addr × Obj)) (s : Shared), Inv X pins σ H s → wpAny (model X.prog X.w) X.A (isTrue e X.env whole) (TP X pins σ Q) X.xe s
theorem pw_self (X : Cx) (e : Expr) : PW X e (wpW X e) := ⟨fun wh pins s σ H Q I h => h wh pins s I⟩
def SW (X : Cx) (K : Env1) (T : Gt G) (W : WX1) (e : Expr) (f : Sg G → Rs G Ov) : Prop := ∀ F H σ s Q, Rl K T F H s σ → PstT K T W F H s σ (f s) Q → wpW X e σ H Q
theorem SW.st (h : SW X K T W e fa) : ST X K T W e fa := fun F H σ s Q R q pins s0 I => h F H σ s Q R q _ pins s0 I
theorem sw_and1 (ha : ST X K T W a fa) : SW X K T W (.BoolOp .And [a] pos) fa := fun F H σ s Q R h wh pins s0 I => (pw_and1 (pt_self X a)).run wh pins s0 σ H Q I (ha F H σ s Q R h)
theorem sw_or1 (ha : ST X K T W a fa) : SW X K T W (.BoolOp .Or [a] pos) fa := fun F H σ s Q R h wh pins s0 I => (pw_or1 (pt_self X a)).run wh pins s0 σ H Q I (ha F H σ s Q R h)
theorem sw_and {rest : List Expr} (ha : ST X K T W a fa) (hb : SW X K T W (.BoolOp .And (b :: rest) pos) fb) : SW X K T W (.BoolOp .And (a :: b :: rest) pos) (evAnd fa fb) := by
  intro F H σ s Q R h wh pins s0 I
  refine (pw_and (pt_self X a) (pw_self X _)).run wh pins s0 σ H Q I ?_
  rw [evAnd_eq] at h
  have q := bind_tstT (k := fun q s1 => if q = true then fb s1 else .ok (.vl (.bl false)) s1) h R
  refine ha F H σ s _ R (q.mono fun c H1 ⟨F1, s1, R1, q⟩ => ?_)
  cases c with
  | true => rw [if_pos rfl] at q ⊢; exact hb F1 H1 σ s1 Q R1 q
  | false => rw [if_neg Bool.false_ne_true] at q ⊢; exact q F1 H1 (Stp.refl ..) R1
theorem sw_or {rest : List Expr} (ha : ST X K T W a fa) (hb : SW X K T W (.BoolOp .Or (b :: rest) pos) fb) : SW X K T W (.BoolOp .Or (a :: b :: rest) pos) (evOr fa fb) := by
  intro F H σ s Q R h wh pins s0 I
  refine (pw_or (pt_self X a) (pw_self X _)).run wh pins s0 σ H Q I ?_
  rw [evOr_eq] at h
  have q := bind_tstT (k := fun q s1 => if q = true then .ok (.vl (.bl true)) s1 else fb s1) h R
  refine ha F H σ s _ R (q.mono fun c H1 ⟨F1, s1, R1, q⟩ => ?_)
  cases c with
  | true => rw [if_pos rfl] at q ⊢; exact q F1 H1 (Stp.refl ..) R1
  | false => rw [if_neg Bool.false_ne_true] at q ⊢; exact hb F1 H1 σ s1 Q R1 q
def evNot (a : Sg G → Rs G Ov) (s : Sg G) : Rs G Ov := (a s).bind fun x s1 => match tst s1 x with
  | some b => .ok (.vl (.bl (!b))) s1
  | none => .no
theorem se_not (ha : SE X K T W a fa) : SE X K T W (.UnaryOp .Not a pos) (evNot fa) := by
  intro F H σ s Q R h
  refine wpE_of (pe_not (pe_self X a)) ?_
  have q := bind_tst (k := fun q s1 => .ok (.vl (.bl (!q))) s1) h R
  exact ha F H σ s _ R ((PstT.mono (Q' := fun c H1 => Q (.bl (!c)) H1) q fun c H1 ⟨F1, s1, R1, q⟩ => q (.bl (!c)) F1 H1 (Stp.refl ..) R1 (.bl _)).toE)
theorem st_not (ha : ST X K T W a fa) : ST X K T W (.UnaryOp .Not a pos) (evNot fa) := by
  intro F H σ s Q R h
  refine wpT_of (pt_not (pt_self X a)) ?_
  have q := bind_tstT (k := fun q s1 => .ok (.vl (.bl (!q))) s1) h R
  exact ha F H σ s _ R (q.mono fun c H1 ⟨F1, s1, R1, q⟩ => q F1 H1 (Stp.refl ..) R1)
end
end BF
set_option Elab.async false
set_option linter.all false
set_option autoImplicit false
set_option maxRecDepth 100000
set_option maxHeartbeats 2000000
namespace BF
open PySem PySem.Spec PyProof.Rows L2
section
variable {G : Type}
/-- behind a call -/
structure Fst (T : Gt G) (F H F' H' : Hp) (g' : G) : Prop where
  le : Le F F'
  sub : Le F' H'
  keep : ∀ a o, H a = some o → ¬ T.fp a → H' a = some o
  new : ∀ a, F' a ≠ none → F a ≠ none ∨ H a = none
  gs : T.gr g' H'
  gf : ∀ a, T.fp a → F' a = none
/-- the promise of a def that does upon data what m says -/
def spD (K : Env1) (T : Gt G) (n : Nat) (m : Mir G) : Sp := fun vs H Q E => ∃ (F : Hp) (ds : List D) (g : G), vs.length = n ∧ Le F H ∧ Reps K F vs ds ∧ T.gr g H ∧ (∀ a, T.fp a → F a = none) ∧ (match m ds g with
  | .ok d g' => ∀ v F' H', Fst T F H F' H' g' → Rep K F' v d → Q v H'
  | .er x g' => ∀ cls dd F' H', Fst T F H F' H' g' → ErR K x cls dd F' H' → E cls dd H'
  | .no => False)
/-- where one stands -/
structure Ctx (X : Cx) (K : Env1) (W : WX1) (k : Nat) : Prop where
  kk : K.K = X.K
  calm : X.calm = true
  nd : X.N.Nodup
  room : Room k X.A
  pass : Passes (L2.CX X.prog X.w) X (fun cls dd H => ∀ σ, W cls dd σ H)
  own : PassesOwn (model X.prog X.w) X.A X.env X.xe
  take : Takes X W
end
section
variable {G : Type} {X : Cx} {K : Env1} {T : Gt G} {W : WX1} {a b c e : Expr} {es : List Expr} {fa fb fc : Sg G → Rs G Ov} {fl : Sg G → Rs G (List Ov)} {pos : Pos} {F H F1 H1 : Hp} {s s1 : Sg G} {σ : Sl}
theorem Rl.after {F' H' : Hp} {g' : G} (R : Rl K T F H s σ) (q : Fst T F H F' H' g') : Rl K T F' H' { s with g := g' } σ ∧ Stp T F H s σ F' H' { s with g := g' } σ := by
  refine ⟨⟨q.sub, R.len, fun i d e => ?_, fun i d e => ?_, R.inj, q.gs, q.gf⟩, ⟨q.le, fun a o e _ nf => q.keep a o e nf, fun a n => ?_, fun a h => .inl h, fun i y h => ⟨y, h⟩, fun a n => ?_⟩⟩
  · obtain ⟨v, h1, h2⟩ := R.val i d e
    exact ⟨v, h1, h2.mono q.le⟩
  · obtain ⟨p, h1, h2, h3, h4⟩ := R.own i d e
    have n4 := h4.some
    refine ⟨p, h1, ?_, h3, h4.mono q.le ?_⟩
    · apply Classical.byContradiction
      intro z
      rcases q.new p z with z | z
      · exact z h2
      · exact n4 z
    · cases e2 : H p with
      | none => exact (n4 e2).elim
      | some o => exact q.keep p o e2 h3
  · rcases q.new a n with z | z
    · exact .inl z
    · exact .inr (.inl z)
  · by_cases f : T.fp a
    · exact T.live _ _ _ q.gs f
    · cases e : H a with
      | none => exact (n e).elim
      | some o => rw [q.keep a o e f]; exact fun z => nomatch z
theorem Fst.xst {F' H' : Hp} {g' : G} (q : Fst T F H F' H' g') : Xst T F H s σ F' H' g' := ⟨q.le, q.sub, fun a o e _ nf => q.keep a o e nf, fun a n => (q.new a n).elim .inl fun z => .inr (.inl z), q.gs, q.gf⟩
/-- what a promise asks, from used operands -/
theorem sp_of {n : Nat} {m : Mir G} {vs : List V} {ds : List D} {Q : VK} (hn : vs.length = n) (R : Rl K T F H s σ) (r : Reps K F vs ds) (h : PstE K T W F H s σ (match m ds s.g with
    | .ok d g' => .ok (.vl d) { s with g := g' }
    | .er x g' => .er x g'
    | .no => .no) Q) : spD K T n m vs H Q (fun cls dd H => ∀ σ, W cls dd σ H) := by
  refine ⟨F, ds, s.g, hn, R.sub, r, R.gs, R.gf, ?_⟩
  cases q : m ds s.g with
  | no => rw [q] at h; exact h.elim
  | ok d g' =>
    rw [q] at h
    intro v F' H' fs rv
    obtain ⟨R', S'⟩ := R.after fs
    exact h v F' H' S' R' rv
  | er x g' =>
    rw [q] at h
    intro cls dd F' H' fs er σ'
    exact h cls dd F' H' σ' fs.xst er
theorem se_call {x : Str} {p : Pos} {k k0 n : Nat} {f : Addr} {fd : FuncData} {ps : List Str} {m : Mir G} (C : Ctx X K W k0) (Fn : FnOk X.prog X.w X.K X.mg X.base (L2.CX X.prog X.w) k f fd ps (spD K T n m)) (hk0 : k ≤ k0) (hg : Gl X x) (hm : X.mg x = some (.ref f)) (hk : PySem.W.keepIn X.K (.ref f) = true) (hb : Binds X.K fd ps [])
    (hdb : (x == ("__debug__" : Str)) = false) (hst : (e :: es).all noStar = true) (hn : (e :: es).length = n) (hl : SL X K T W (e :: es) fl) : SE X K T W (.Call (.Name x p) (e :: es) [] pos) (evCall m fl) := by
  intro F H σ s Q R h
  have h' := Bool.and_eq_true_iff.mp (show (noStar e && es.all noStar) = true from hst)
  refine wpE_of (pe_call Fn (C.room.mono hk0) hg hm hk hb .nil C.pass (pa_self X hst) hdb (starEach_of h'.1) (back_of X pos h'.2)) ?_
  refine wpL_mono (Q := fun _ _ => True) (Q' := fun _ _ => True) (wpL_len (sl_used (P := fun vs H1 Q => vs.length = n → spD K T n m vs H1 Q (fun cls dd H => ∀ σ, W cls dd σ H)) hl R (fun F1 H1 s1 vs ds R1 S1 r hq hl => sp_of hl R1 r hq) h)) fun vs H1 q => ?_
  rw [List.append_nil]
  exact q.2 (q.1.trans hn)
theorem se_call0 {x : Str} {p : Pos} {k k0 : Nat} {f : Addr} {fd : FuncData} {ps : List Str} {m : Mir G} (C : Ctx X K W k0) (Fn : FnOk X.prog X.w X.K X.mg X.base (L2.CX X.prog X.w) k f fd ps (spD K T 0 m)) (hk0 : k ≤ k0) (hg : Gl X x) (hm : X.mg x = some (.ref f)) (hk : PySem.W.keepIn X.K (.ref f) = true) (hb : Binds X.K fd ps [])
    (hdb : (x == ("__debug__" : Str)) = false) : SE X K T W (.Call (.Name x p) [] [] pos) (evCall m evNil) := by
  intro F H σ s Q R h
  refine wpE_of (pe_call0 Fn (C.room.mono hk0) hg hm hk hb .nil C.pass hdb) ?_
  exact sp_of rfl R .nil h
/-! ### isinstance -/
/-- the built-in type of data -/
def tyD : D → Option String
  | .non => some "NoneType"
  | .bl _ => some "bool"
  | .int _ => some "int"
  | .str _ => some "str"
  | .lst _ => some "list"
  | .tup _ => some "tuple"
  | _ => none
theorem RH.ty {v : V} {d : D} {t : String} (l : Le F H) (h : RH K F H v d) (e : tyD d = some t) : TyX K.K H v (.type t) := by
  cases d <;> first | (cases e; done) | skip
  · cases h.non; cases e; exact .base .non
  · cases h.bl; cases e; exact .base (.bl _)
  · cases h.int; cases e; exact .base (.int _)
  · cases h.str; cases e; exact .base (.str _)
  · obtain ⟨a, vs, rfl, h1, _⟩ := h.lst l; cases e; exact .base (.lst h1)
  · obtain ⟨a, vs, rfl, h1, _⟩ := h.tup l
    cases e
    rcases h1 with h1 | ⟨o, its, n, h1, h2, _⟩
    · exact .base (.tup h1)
    · exact .kTuple h1 h2
/-- a class that is asked for: built-in, or one's own -/
inductive Cl where
  | bty (n : String) | own (c : Str)
/-- what is known of one's own classes -/
structure ClsOk (K : Env1) (c : Str) : Prop where
  cl : Cls K.K (K.co c)
  c1 : PySem.W.findIn K.K (.ref (K.co c)) "__class__" = some (some (.builtin "object.__class__"))
  c2 : PySem.W.specialIn K.K (.builtin "object.__class__") "__get__" = some (some (.builtin "getset_descriptor.__get__"))
  c3 : PySem.W.takesIn K.K (.builtin "object.__class__") = some true
  c4 : PySem.W.mroIn K.K (K.co c) (.type "object") = some true
  own : PySem.W.kitOne K.K (.ref (K.co c)) (.ref (K.co c)) = some true
  bty : ∀ t ∈ ["NoneType", "bool", "int", "str", "list", "tuple"], PySem.W.kitOne K.K (.type t) (.ref (K.co c)) = some false
  ofb : ∀ t ∈ ["bool", "int", "str", "list", "tuple"], PySem.W.kitOne K.K (.ref (K.co c)) (.type t) = some false
def isi1 (K : Env1) (d : D) : Cl → Option Bool
  | .bty n => (match d with
    | .obj c _ _ => if K.cs.contains c && ["bool", "int", "str", "list", "tuple"].contains n then some false else none
    | d => (tyD d).bind fun t => kitB t n)
  | .own c => (match d with
    | .obj c' _ _ => if K.cs.contains c && decide (c' = c) then some true else none
    | d => if K.cs.contains c then (tyD d).bind fun t => if ["NoneType", "bool", "int", "str", "list", "tuple"].contains t then some false else none else none)
def ClV (K : Env1) : Cl → V → Value → Prop
  | .bty n, v, u => v = .ty n ∧ u = .type n
  | .own c, v, u => v = .ref (K.co c) ∧ u = .ref (K.co c)
theorem ty_of {v : V} {d : D} {q0 : Cl} {r0 : Bool} (hc : ∀ c ∈ K.cs, ClsOk K c) (l : Le F H) (h : RH K F H v d) (e0 : isi1 K d q0 = some r0) :
    ∃ t, TyX K.K H v t ∧ ∀ q r w u, isi1 K d q = some r → ClV K q w u → ClsV w u ∧ PySem.W.kitOne K.K t u = some r := by
  have plain : (∀ c f x, d ≠ .obj c f x) → ∃ t, TyX K.K H v t ∧ ∀ q r w u, isi1 K d q = some r → ClV K q w u → ClsV w u ∧ PySem.W.kitOne K.K t u = some r := by
    intro no
    have : ∃ t, tyD d = some t := by
      cases d with
      | obj c f x => exact (no c f x rfl).elim
      | dct _ => cases q0 <;> simp [isi1, tyD] at e0
      | ref _ => cases q0 <;> simp [isi1, tyD] at e0
      | ty _ => cases q0 <;> simp [isi1, tyD] at e0
      | _ => exact ⟨_, rfl⟩
    obtain ⟨t, et⟩ := this
    refine ⟨.type t, h.ty l et, fun q r w u e k => ?_⟩
    cases q with
    | bty n =>
      obtain ⟨rfl, rfl⟩ := k
      refine ⟨.ty n, ?_⟩
      have e : (tyD d).bind (fun t => kitB t n) = some r := by
        cases d with
        | obj c f x => exact (no c f x rfl).elim
        | _ => exact e
      rw [et] at e
      exact kit_ty e
    | own c =>
      obtain ⟨rfl, rfl⟩ := k
      refine ⟨.own _, ?_⟩
      have e : (if K.cs.contains c then (tyD d).bind (fun t => if ["NoneType", "bool", "int", "str", "list", "tuple"].contains t then some false else none) else none) = some r := by
        cases d with
        | obj c f x => exact (no c f x rfl).elim
        | _ => exact e
      split at e
      · rename_i hn
        rw [et] at e
        simp only [Option.bind_some] at e
        split at e
        · rename_i hm
          cases e
          exact (hc c (by simpa using hn)).bty t (by simpa using hm)
        · cases e
      · cases e
  cases d with
  | obj c f x =>
    have hcc : c ∈ K.cs := by
      cases q0 with
      | bty n =>
        simp only [isi1] at e0
        split at e0
        · rename_i hn; rw [Bool.and_eq_true] at hn; simpa using hn.1
        · cases e0
      | own c' =>
        simp only [isi1] at e0
        split at e0
        · rename_i hn
          rw [Bool.and_eq_true] at hn
          have e1 : c = c' := of_decide_eq_true hn.2
          rw [e1]; simpa using hn.1
        · cases e0
    have o := hc c hcc
    have ty : TyX K.K H v (.ref (K.co c)) := by
      rcases h with h | ⟨p, _, h⟩
      · cases h with
        | obj h1 h2 => exact .base (.ins (l _ _ h1) o.cl o.c1 o.c2 o.c3 o.c4)
      · exact h.elim
    refine ⟨_, ty, fun q r w u e k => ?_⟩
    cases q with
    | bty n =>
      obtain ⟨rfl, rfl⟩ := k
      refine ⟨.ty n, ?_⟩
      simp only [isi1] at e
      split at e
      · rename_i hn
        rw [Bool.and_eq_true] at hn
        cases e
        exact o.ofb n (by simpa using hn.2)
      · cases e
    | own c' =>
      obtain ⟨rfl, rfl⟩ := k
      refine ⟨.own _, ?_⟩
      simp only [isi1] at e
      split at e
      · rename_i hn
        rw [Bool.and_eq_true] at hn
        cases e
        have e1 : c = c' := of_decide_eq_true hn.2
        subst e1
        exact o.own
      · cases e
  | _ => exact plain (fun c f x z => nomatch z)
/-- isinstance(x, c) -/
def isiO (K : Env1) (q : Cl) : List D → Option Ov := two fun d e => match q, e with
  | .bty n, .ty m => if m = n then (isi1 K d q).map fun b => .vl (.bl b) else none
  | .own c, .ref a => if a = K.co c then (isi1 K d q).map fun b => .vl (.bl b) else none
  | _, _ => none
theorem opn_isi {q : Cl} (hc : ∀ c ∈ K.cs, ClsOk K c) : Opn K (isiO K q) (rIsi K.K) := opn_two fun F H v w d e res Q l hd he ho hc' => by
  cases q with
  | bty n =>
    cases e <;> first | (cases ho; done) | skip
    rename_i m
    simp only at ho
    split at ho
    · rename_i em
      subst em
      cases q2 : isi1 K d (.bty m) with
      | none => rw [q2] at ho; cases ho
      | some b =>
        rw [q2] at ho
        cases ho
        have ew : w = .ty m := by
          rcases he with h | ⟨p, _, h⟩
          · cases h; rfl
          · exact h.elim
        obtain ⟨t, k1, k2⟩ := ty_of hc l hd q2
        obtain ⟨k3, k4⟩ := k2 _ _ w (.type m) q2 ⟨ew, rfl⟩
        exact ⟨v, w, t, _, b, rfl, k3, k1, k4, hc'.1 _ (.bl b)⟩
    · cases ho
  | own c =>
    cases e <;> first | (cases ho; done) | skip
    rename_i a
    simp only at ho
    split at ho
    · rename_i em
      subst em
      cases q2 : isi1 K d (.own c) with
      | none => rw [q2] at ho; cases ho
      | some b =>
        rw [q2] at ho
        cases ho
        have ew : w = .ref (K.co c) := by
          rcases he with h | ⟨p, _, h⟩
          · cases h; rfl
          · exact h.elim
        obtain ⟨t, k1, k2⟩ := ty_of hc l hd q2
        obtain ⟨k3, k4⟩ := k2 _ _ w (.ref (K.co c)) q2 ⟨ew, rfl⟩
        exact ⟨v, w, t, _, b, rfl, k3, k1, k4, hc'.1 _ (.bl b)⟩
    · cases ho
/-- isinstance(x, (c1, c2)), built-in types -/
def isiT2 (K : Env1) (n1 n2 : String) (d : D) : Option Bool := (isi1 K d (.bty n1)).bind fun b => if b then some true else isi1 K d (.bty n2)
def isiTO (K : Env1) (n1 n2 : String) : List D → Option Ov := two fun d e => match e with
  | .tup [.ty a, .ty b] => if a = n1 ∧ b = n2 then (isiT2 K n1 n2 d).map fun b => .vl (.bl b) else none
  | _ => none
theorem opn_isiT {n1 n2 : String} (hc : ∀ c ∈ K.cs, ClsOk K c) : Opn K (isiTO K n1 n2) (fun xs H Q => rIsiT K.K xs H Q ∨ rIsiK K.K xs H Q) := opn_two fun F H v w d e res Q l hd he ho hc' => by
  split at ho
  · rename_i a b
    split at ho
    · rename_i em
      obtain ⟨rfl, rfl⟩ := em
      cases q2 : isiT2 K a b d with
      | none => rw [q2] at ho; cases ho
      | some r =>
        rw [q2] at ho
        cases ho
        unfold isiT2 at q2
        cases q3 : isi1 K d (.bty a) with
        | none => rw [q3] at q2; cases q2
        | some r1 =>
          rw [q3] at q2
          obtain ⟨t, k1, k2⟩ := ty_of hc l hd q3
          obtain ⟨_, k4⟩ := k2 _ _ (.ty a) (.type a) q3 ⟨rfl, rfl⟩
          have any : PySem.W.kitAny K.K t [.type a, .type b] = some r := by
            refine kitAny_cons k4 (fun e => ?_) (fun e => ?_)
            · subst e
              have q2 : isi1 K d (.bty b) = some r := q2
              obtain ⟨_, k5⟩ := k2 _ _ (.ty b) (.type b) q2 ⟨rfl, rfl⟩
              exact kitAny_cons k5 (fun e => by subst e; exact kitAny_nil) (fun e => e)
            · subst e
              have q2 : some true = some r := q2
              cases q2; rfl
          obtain ⟨p, vs, rfl, h1, r1⟩ := he.tup l
          have ev : vs = [.ty a, .ty b] := by
            cases r1 with
            | cons x1 x2 => cases x2 with
              | cons x2 x3 => cases x3; cases x1; cases x2; rfl
          subst ev
          rcases h1 with h1 | ⟨o, its, n, h1, h2, h3, h4, h5⟩
          · exact .inl ⟨v, p, _, t, _, r, rfl, h1, .cons (.ty a) (.cons (.ty b) .nil), k1, any, hc'.1 _ (.bl r)⟩
          · obtain ⟨oc, od, dt, sl⟩ := o
            simp only at h2 h3
            subst h2 h3
            have e5 : its.toList = [.type a, .type b] := ClsV.all (.cons (.ty a) (.cons (.ty b) .nil)) h5
            have e6 : its = ([.type a, .type b] : List Value).toArray := by
              rw [← e5]
            subst e6
            exact .inr ⟨v, p, od, _, n, sl, t, r, rfl, h1, k1, any, hc'.1 _ (.bl r)⟩
    · cases ho
  · cases ho
end
end BF
set_option Elab.async false
set_option linter.all false
set_option autoImplicit false
set_option maxRecDepth 100000
set_option maxHeartbeats 2000000
namespace BF
open PySem PySem.Spec PyProof.Rows L2
section
variable {G : Type} {X : Cx} {K : Env1} {T : Gt G} {W : WX1} {a b c e : Expr} {es : List Expr} {fa fb fc : Sg G → Rs G Ov} {fl : Sg G → Rs G (List Ov)} {pos : Pos} {F H F1 H1 : Hp} {s s1 : Sg G} {σ : Sl}
/-! ### a field -/
def attrO (c f : Str) : D → Option Ov
  | .obj c' f' d => if c' = c ∧ f' = f then some (.vl d) else none
  | _ => none
theorem se_attr {c f : Str} (hk : K.K = X.K) (hc : Cls K.K (K.co c)) (hn : NoAttr K.K (K.co c) f) (hb : attributeBase e f X.env (eval e X.env) = eval e X.env) (hl : SL X K T W [e] fl) : SE X K T W (.Attribute e f pos) (evOp fl (one (attrO c f))) := by
  rw [hk] at hc hn
  refine se_op (rr := fun vs H1 Q => ∃ x, vs = [x] ∧ ∃ a C dx fs v, x = .ref a ∧ H1 a = some (.ins C dx fs) ∧ Cls X.K C ∧ NoAttr X.K C f ∧ fs.lookup f = some v ∧ Q v H1) hl (opn_one fun F H v d res Q l hd ho hc' => ?_) fun σ H Q h => wpE_of (pe_fld (pe_self X e) hb) ?_
  · unfold attrO at ho
    split at ho
    · split at ho
      · rename_i em
        obtain ⟨rfl, rfl⟩ := em
        cases ho
        rcases hd with hd | ⟨p, _, hd⟩
        · cases hd with
          | obj h1 h2 => exact ⟨_, rfl, _, _, _, _, _, rfl, l _ _ h1, hc, hn, by simp [List.lookup], hc'.1 _ h2⟩
        · exact hd.elim
      · cases ho
    · cases ho
  · exact wp_mono (show wpE X e σ H fun x H1 => ∃ x', [x] = [x'] ∧ _ from h) fun x H1 ⟨x', e, q⟩ => by cases e; exact q
/-! ### slices -/
def cutD (xs : List D) (lo hi : Option Int) : List D := (xs.drop (HT.sIx xs.length 0 lo)).take (HT.sIx xs.length xs.length hi - HT.sIx xs.length 0 lo)
theorem Reps.cut {vs : List V} {ds : List D} (lo hi : Option Int) (r : Reps K F vs ds) : Reps K F (cutV vs lo hi) (cutD ds lo hi) := by
  unfold cutV cutD
  rw [r.length]
  exact (r.drop _).take _
def slcO (lo hi : Option Int) : D → Option Ov
  | .lst ds => some (.fr (.lst (cutD ds lo hi)))
  | .tup ds => some (.vl (.tup (cutD ds lo hi)))
  | _ => none
def slLo : D → D → Option Ov
  | d, .int i => slcO (some i) none d
  | _, _ => none
def slHi : D → D → Option Ov
  | d, .int i => slcO none (some i) d
  | _, _ => none
def slBo : List D → Option Ov
  | [d, .int i, .int j] => slcO (some i) (some j) d
  | _ => none
abbrev rSl2 (K : PySem.W.Frag) : V → Option Int → Option Int → Hp → VK → Prop := fun x lo hi H Q => rSlL K x lo hi H Q ∨ rSlA K x lo hi H Q
theorem slc_core {v : V} {d : D} {lo hi : Option Int} {res : Ov} {Q : VK} (l : Le F H) (hd : RH K F H v d) (ho : slcO lo hi d = some res) (hc : Cont K F H Q res) : rSl2 K.K v lo hi H Q := by
  cases d <;> first | (cases ho; done) | skip
  · cases ho
    obtain ⟨a, vs, rfl, h1, r1⟩ := hd.lst l
    exact .inl ⟨a, vs, rfl, .inl (.inl h1), fun p n => hc _ rfl p _ n (r1.cut lo hi)⟩
  · cases ho
    have hd0 := hd
    obtain ⟨a, vs, rfl, h1, r1⟩ := hd.tup l
    rename_i ds
    refine .inr ⟨a, vs, rfl, h1.sq, fun z => ?_, fun _ p n => hc.2 _ rfl p _ n (r1.cut lo hi)⟩
    have e : cutD ds lo hi = ds := by
      unfold cutD
      rw [← r1.length, z.1, z.2, List.drop_zero, Nat.sub_zero]
      exact List.take_of_length_le (by rw [r1.length]; exact Nat.le_refl _)
    rw [e] at hc
    rcases hd0 with q | ⟨_, _, q⟩
    · exact hc.1 _ q
    · exact q.elim
theorem se_slLo {lo : Expr} {p2 : Pos} (hk : K.K = X.K) (hl : SL X K T W [a, lo] fl) : SE X K T W (.Subscript a (.Slice (some lo) none none p2) pos) (evOp fl (two slLo)) := by
  refine se_op (rr := fun vs H1 Q => ∃ x y i, vs = [x, y] ∧ y = .int i ∧ rSl2 X.K x (some i) none H1 Q) hl (opn_two fun F H v w d e res Q l hd he ho hc' => ?_) fun σ H Q h => wpE_of (pe_slice (sl_list.or sl_tupA) (pe_self X a) (po_some (pe_self X lo)) po_none) ?_
  · cases e <;> first | (cases ho; done) | skip
    cases he.int
    exact ⟨v, _, _, rfl, rfl, by rw [← hk]; exact slc_core l hd ho hc'⟩
  · exact wp_mono (show wpE X a σ H fun x H1 => wpE X lo σ H1 fun y H2 => ∃ x' y' i, [x, y] = [x', y'] ∧ y' = .int i ∧ rSl2 X.K x' (some i) none H2 Q from h) fun x H1 q => wp_mono q fun y H2 ⟨x', y', i, e, e2, q⟩ => by
      cases e; exact ⟨i, e2, q⟩
theorem se_slHi {hi : Expr} {p2 : Pos} (hk : K.K = X.K) (hl : SL X K T W [a, hi] fl) : SE X K T W (.Subscript a (.Slice none (some hi) none p2) pos) (evOp fl (two slHi)) := by
  refine se_op (rr := fun vs H1 Q => ∃ x y i, vs = [x, y] ∧ y = .int i ∧ rSl2 X.K x none (some i) H1 Q) hl (opn_two fun F H v w d e res Q l hd he ho hc' => ?_) fun σ H Q h => wpE_of (pe_slice (sl_list.or sl_tupA) (pe_self X a) po_none (po_some (pe_self X hi))) ?_
  · cases e <;> first | (cases ho; done) | skip
    cases he.int
    exact ⟨v, _, _, rfl, rfl, by rw [← hk]; exact slc_core l hd ho hc'⟩
  · exact wp_mono (show wpE X a σ H fun x H1 => wpE X hi σ H1 fun y H2 => ∃ x' y' i, [x, y] = [x', y'] ∧ y' = .int i ∧ rSl2 X.K x' none (some i) H2 Q from h) fun x H1 q => wp_mono q fun y H2 ⟨x', y', i, e, e2, q⟩ => by
      cases e; exact ⟨i, e2, q⟩
theorem RHs.three {vs : List V} {d e f : D} (h : RHs K F H vs [d, e, f]) : ∃ v w z, vs = [v, w, z] ∧ RH K F H v d ∧ RH K F H w e ∧ RH K F H z f := by
  cases h with
  | cons h1 h2 =>
    obtain ⟨w, z, rfl, h3, h4⟩ := h2.two
    exact ⟨_, w, z, rfl, h1, h3, h4⟩
def evSlBo (f : Sg G → Rs G (List Ov)) (fh : Sg G → Rs G Ov) (s : Sg G) : Rs G Ov := (f s).bind fun xs s1 => match xs, pks s1 xs with
  | [x, _], some [_, .int i] => (fh s1).bind fun z s2 => (match pk s2 x, pk s2 z with
    | some d, some (.int j) => (match slcO (some i) (some j) d with
      | some (.vl r) => .ok (.vl r) s2
      | some (.fr r) => .ok (.fr r) s2
      | _ => .no)
    | _, _ => .no)
  | _, _ => .no
theorem se_slBo {lo hi : Expr} {p2 : Pos} (hk : K.K = X.K) (hl : SL X K T W [a, lo] fl) (hh : SE X K T W hi fc) : SE X K T W (.Subscript a (.Slice (some lo) (some hi) none p2) pos) (evSlBo fl fc) := by
  intro F H σ s Q R h
  refine wpE_of (pe_slice (sl_list.or sl_tupA) (pe_self X a) (po_some (pe_self X lo)) (po_some (pe_self X hi))) ?_
  have main : wpL X [a, lo] σ H fun vs H2 => ∃ x i, vs = [x, .int i] ∧ wpE X hi σ H2 fun z H3 => ∃ j, z = .int j ∧ rSl2 X.K x (some i) (some j) H3 Q := by
    refine hl F H σ s _ R ?_
    unfold evSlBo at h
    cases q : fl s with
    | no => rw [q] at h; exact h.elim
    | er x g => rw [q] at h; exact h
    | ok xs s1 =>
      rw [q] at h
      intro vs F1 H1 S1 R1 r1
      simp only [Rs.bind] at h
      match xs, h, r1 with
      | [x0, y0], h, r1 =>
        cases q2 : pks s1 [x0, y0] with
        | none => rw [q2] at h; exact h.elim
        | some ds =>
          rw [q2] at h
          have rr := r1.rhs R1 q2
          split at h
          · rename_i x y d i e1 e2
            cases e1
            cases e2
            obtain ⟨v, w, rfl, hv, hw⟩ := rr.two
            cases hw.int
            refine ⟨v, i, rfl, hh F1 H1 σ s1 _ R1 ?_⟩
            cases q4 : fc s1 with
            | no => rw [q4] at h; exact h.elim
            | er x g => rw [q4] at h; exact PstX.step S1 R R1 h
            | ok z s2 =>
              rw [q4] at h
              intro w' F2 H2 S2 R2 r2
              simp only [Rs.bind] at h
              have rx : RO K T H F1 H1 s1 σ v x0 := by
                cases r1 with
                | cons t _ _ => exact t
              have rx2 := rx.step S2
              split at h
              · rename_i d' j q5 q6
                cases (r2.rh R2 q6).int
                refine ⟨j, rfl, ?_⟩
                rw [← hk]
                split at h
                · rename_i r q7
                  exact slc_core R2.sub (rx2.rh R2 q5) q7 (cont_of R2 (fun _ z => nomatch z) (PstE.step (S1.trans S2 R R2) R R2 h))
                · rename_i r q7
                  exact slc_core R2.sub (rx2.rh R2 q5) q7 (cont_of R2 (fun _ z => nomatch z) (PstE.step (S1.trans S2 R R2) R R2 h))
                · exact h.elim
              · exact h.elim
          · exact h.elim
      | [], h, _ => exact h.elim
      | [_], h, _ => exact h.elim
      | _ :: _ :: _ :: _, h, _ => exact h.elim
  exact wp_mono (show wpE X a σ H fun x H1 => wpE X lo σ H1 fun y H2 => ∃ x' i, [x, y] = [x', .int i] ∧ wpE X hi σ H2 fun z H3 => ∃ j, z = .int j ∧ rSl2 X.K x' (some i) (some j) H3 Q from main) fun x H1 q => wp_mono q fun y H2 ⟨x', i, e, q⟩ => by
    cases e; exact ⟨i, rfl, q⟩
/-! ### own lists are changed -/
def setS (s : Sg G) (i : Nat) (x : Option (Bool × D)) : Sg G := { s with sl := s.sl.set i x }
theorem setS_get (s : Sg G) (i j : Nat) (x : Option (Bool × D)) (hi : i < s.sl.length) : (setS s i x).sl[j]? = if j = i then some x else s.sl[j]? := by
  unfold setS
  by_cases q : j = i
  · subst q; rw [if_pos rfl]; show (s.sl.set j x)[j]? = _; rw [List.getElem?_set_self hi]
  · rw [if_neg q]; show (s.sl.set i x)[j]? = _; rw [List.getElem?_set_ne (Ne.symm q)]
theorem lt_of_get {α : Type} {l : List α} {i : Nat} {x : α} (h : l[i]? = some x) : i < l.length := by
  rcases Nat.lt_or_ge i l.length with q | q
  · exact q
  · rw [List.getElem?_eq_none q] at h; cases h
theorem Rl.mut {i : Nat} {p : Addr} {d : D} {ds' : List D} {vs' : List V} (R : Rl K T F H s σ) (e : s.sl[i]? = some (some (true, d))) (hp : σ[i]? = some (some (.ref p))) (r : Reps K F vs' ds') :
    Rl K T F (upd H p (.lst vs')) (setS s i (some (true, .lst ds'))) σ ∧ Stp T F H s σ F (upd H p (.lst vs')) (setS s i (some (true, .lst ds'))) σ := by
  have hi := lt_of_get e
  obtain ⟨p', h1, n, nf, sh⟩ := R.own i d e
  rw [hp] at h1; cases h1
  have ow : Ownd s σ p := ⟨i, d, e, hp⟩
  have back : ∀ {j z}, (setS s i (some (true, .lst ds'))).sl[j]? = some (some (true, z)) → ∃ z', s.sl[j]? = some (some (true, z')) := fun {j z} h => by
    rw [setS_get _ _ _ _ hi] at h
    by_cases q : j = i
    · subst q; exact ⟨d, e⟩
    · rw [if_neg q] at h; exact ⟨z, h⟩
  have bown : ∀ {a}, Ownd (setS s i (some (true, .lst ds'))) σ a → Ownd s σ a := fun {a} ⟨j, z, h1, h2⟩ => by
    obtain ⟨z', h⟩ := back h1
    exact ⟨j, z', h, h2⟩
  refine ⟨⟨fun a o h => ?_, ?_, fun j x h => ?_, fun j x h => ?_, fun j k x y q h1 h2 => ?_, ?_, R.gf⟩, ⟨Le.refl _, fun a o h no nf' => ?_, fun a h => .inl h, fun a h => .inl (bown h), fun j y h => ?_, fun a h => ?_⟩⟩
  · by_cases q : a = p
    · subst q; rw [n] at h; cases h
    · rw [upd_ne q]; exact R.sub a o h
  · show (s.sl.set i _).length = _
    rw [List.length_set]; exact R.len
  · rw [setS_get _ _ _ _ hi] at h
    by_cases q : j = i
    · rw [if_pos q] at h; cases h
    · rw [if_neg q] at h; exact R.val j x h
  · rw [setS_get _ _ _ _ hi] at h
    by_cases q : j = i
    · subst q
      rw [if_pos rfl] at h
      cases h
      exact ⟨p, hp, n, nf, vs', upd_same, r⟩
    · rw [if_neg q] at h
      obtain ⟨p2, h1, h2, h3, h4⟩ := R.own j x h
      have ne : p2 ≠ p := fun z => q (R.inj j i x d p h e (z ▸ h1) hp)
      exact ⟨p2, h1, h2, h3, h4.mono (Le.refl _) (upd_ne ne)⟩
  · obtain ⟨x', h1'⟩ := back h1
    obtain ⟨y', h2'⟩ := back h2
    exact R.inj j k x' y' q h1' h2'
  · exact T.dep _ _ _ R.gs fun a ha => upd_ne (fun (z : a = p) => nf (by rw [← z]; exact ha))
  · have ne : a ≠ p := fun z => no (z ▸ ow)
    rw [upd_ne ne]; exact h
  · rw [setS_get _ _ _ _ hi]
    by_cases q : j = i
    · exact ⟨_, if_pos q⟩
    · rw [if_neg q]; exact ⟨y, h⟩
  · by_cases q : a = p
    · subst q; rw [upd_same]; exact fun z => nomatch z
    · rw [upd_ne q]; exact h
/-- a slot is given data -/
theorem Rl.setV {i : Nat} {v : V} {d : D} (R : Rl K T F H s σ) (hi : i < s.sl.length) (r : Rep K F v d) : Rl K T F H (setS s i (some (false, d))) (σ.set i (some v)) ∧ Stp T F H s σ F H (setS s i (some (false, d))) (σ.set i (some v)) := by
  have hi2 : i < σ.length := by rw [← R.len]; exact hi
  have gσ : ∀ j, (σ.set i (some v))[j]? = if j = i then some (some v) else σ[j]? := fun j => by
    by_cases q : j = i
    · subst q; rw [if_pos rfl, List.getElem?_set_self hi2]
    · rw [if_neg q, List.getElem?_set_ne (Ne.symm q)]
  have back : ∀ {j z}, (setS s i (some (false, d))).sl[j]? = some (some (true, z)) → j ≠ i ∧ s.sl[j]? = some (some (true, z)) := fun {j z} h => by
    rw [setS_get _ _ _ _ hi] at h
    by_cases q : j = i
    · rw [if_pos q] at h; cases h
    · rw [if_neg q] at h; exact ⟨q, h⟩
  refine ⟨⟨R.sub, ?_, fun j x h => ?_, fun j x h => ?_, fun j k x y q h1 h2 h3 h4 => ?_, R.gs, R.gf⟩, ⟨Le.refl _, fun a o h _ _ => h, fun a h => .inl h, fun a h => .inl ?_, fun j y h => ?_, fun a h => h⟩⟩
  · show (s.sl.set i _).length = _
    rw [List.length_set, List.length_set]; exact R.len
  · rw [setS_get _ _ _ _ hi] at h
    rw [gσ]
    by_cases q : j = i
    · rw [if_pos q] at h ⊢; cases h; exact ⟨v, rfl, r⟩
    · rw [if_neg q] at h ⊢; exact R.val j x h
  · obtain ⟨q, h⟩ := back h
    rw [gσ, if_neg q]; exact R.own j x h
  · obtain ⟨q1, h1⟩ := back h1
    obtain ⟨q2, h2⟩ := back h2
    rw [gσ, if_neg q1] at h3
    rw [gσ, if_neg q2] at h4
    exact R.inj j k x y q h1 h2 h3 h4
  · obtain ⟨j, x, h1, h2⟩ := h
    obtain ⟨q1, h1⟩ := back h1
    rw [gσ, if_neg q1] at h2
    exact ⟨j, x, h1, h2⟩
  · rw [setS_get _ _ _ _ hi]
    by_cases q : j = i
    · exact ⟨_, if_pos q⟩
    · rw [if_neg q]; exact ⟨y, h⟩
/-- a slot is given a new object as its own -/
theorem Rl.setO {i : Nat} {p : Addr} {d : D} {H0 F0 : Hp} {s0 : Sg G} {σ0 : Sl} (R : Rl K T F H s σ) (hi : i < s.sl.length) (n0 : H0 p = none) (S : Stp T F0 H0 s0 σ0 F H s σ) (n : F p = none) (nf : ¬ T.fp p) (no : ¬ Ownd s σ p) (sh : Shl K F H p d) :
    Rl K T F H (setS s i (some (true, d))) (σ.set i (some (.ref p))) ∧ Stp T F0 H0 s0 σ0 F H (setS s i (some (true, d))) (σ.set i (some (.ref p))) := by
  have hi2 : i < σ.length := by rw [← R.len]; exact hi
  have gσ : ∀ j, (σ.set i (some (V.ref p)))[j]? = if j = i then some (some (V.ref p)) else σ[j]? := fun j => by
    by_cases q : j = i
    · subst q; rw [if_pos rfl, List.getElem?_set_self hi2]
    · rw [if_neg q, List.getElem?_set_ne (Ne.symm q)]
  have ownB : ∀ {a}, Ownd (setS s i (some (true, d))) (σ.set i (some (V.ref p))) a → Ownd s σ a ∨ a = p := fun {a} ⟨j, x, h1, h2⟩ => by
    rw [setS_get _ _ _ _ hi] at h1
    rw [gσ] at h2
    by_cases q : j = i
    · rw [if_pos q] at h2; cases h2; exact .inr rfl
    · rw [if_neg q] at h1 h2; exact .inl ⟨j, x, h1, h2⟩
  refine ⟨⟨R.sub, ?_, fun j x h => ?_, fun j x h => ?_, fun j k x y q h1 h2 h3 h4 => ?_, R.gs, R.gf⟩, ⟨S.le, S.keep, S.new, fun a h => ?_, fun j y h => ?_, S.grow⟩⟩
  · show (s.sl.set i _).length = _
    rw [List.length_set, List.length_set]; exact R.len
  · rw [setS_get _ _ _ _ hi] at h
    rw [gσ]
    by_cases q : j = i
    · rw [if_pos q] at h; cases h
    · rw [if_neg q] at h ⊢; exact R.val j x h
  · rw [setS_get _ _ _ _ hi] at h
    rw [gσ]
    by_cases q : j = i
    · rw [if_pos q] at h ⊢; cases h; exact ⟨p, rfl, n, nf, sh⟩
    · rw [if_neg q] at h ⊢; exact R.own j x h
  · rw [setS_get _ _ _ _ hi] at h1 h2
    rw [gσ] at h3 h4
    by_cases q1 : j = i
    · by_cases q2 : k = i
      · rw [q1, q2]
      · rw [if_pos q1] at h3
        rw [if_neg q2] at h2 h4
        cases h3
        exact (no ⟨k, y, h2, h4⟩).elim
    · by_cases q2 : k = i
      · rw [if_pos q2] at h4
        rw [if_neg q1] at h1 h3
        cases h4
        exact (no ⟨j, x, h1, h3⟩).elim
      · rw [if_neg q1] at h1 h3
        rw [if_neg q2] at h2 h4
        exact R.inj j k x y q h1 h2 h3 h4
  · rcases ownB h with z | z
    · exact S.own a z
    · rw [z]; exact .inr n0
  · rw [setS_get _ _ _ _ hi]
    by_cases q : j = i
    · exact ⟨_, if_pos q⟩
    · rw [if_neg q]; exact S.kp j y h
end
end BF
set_option Elab.async false
set_option linter.all false
set_option autoImplicit false
set_option maxRecDepth 100000
set_option maxHeartbeats 2000000
namespace BF
open PySem PySem.Spec PyProof.Rows L2
/-! ### enumerate(v), enumerate(v, k): a list or a tuple -/
theorem meets_enum1 {v : Value} {o : Obj} {H : Heap → Prop} (B : Begins v o H) :
    Meets (Builtin.«enumerate.__new__» ⟨[.type "enumerate", v], []⟩) (fun _ R s => H s.heap ∧
      R (.ok (.ret (.ref (s.heap.push o).objs.size))) { s with heap := (s.heap.push o).push { cls := .type "enumerate", data := .fields #[.none, .bool false, .ref s.heap.objs.size, rawInt 0, .none, .none] } }) :=
  .of_wp fun prog w A R s h => by
    obtain ⟨hp, g, d, tk, os⟩ := s; obtain ⟨h1, h⟩ := h
    have hsub := sub_enumerate
    have q1 : ∀ {A' : Around} {E : Value → Shared → Prop} {Q : Value → Shared → Prop}, Q (.ref hp.objs.size) ⟨hp.push o, g, d, tk, os⟩ → wpAny (model prog w) A' (pyIter v) Q E ⟨hp, g, d, tk, os⟩ :=
      fun q => B.iter prog w _ _ ⟨hp, g, d, tk, os⟩ _ h1 q
    wp_walk using q1
    refine wpAny_stack_any fun st => wpAny_pure ?_
    split
    · rename_i c _ _ _ _ _
      cases (c == Value.type "enumerate")
      · wp_walk using q1
        exact ⟨_, rfl, h⟩
      · wp_walk using q1
        exact ⟨_, rfl, h⟩
    · wp_walk using q1
      exact ⟨_, rfl, h⟩
section
variable {prog : Program} {w : World} {A : Around} {E : Value → Shared → Prop} {s : Shared}
theorem enum_begins1 {v : Value} {o : Obj} {H : Heap → Prop} {Q : Value → Shared → Prop} (B : Begins v o H) (h1 : H s.heap)
    (h : ∀ h', IsEnum h' (s.heap.objs.size + 1) s.heap.objs.size 0 .none → h'.get? s.heap.objs.size = some o → h'.objs.size = s.heap.objs.size + 2 →
      (∀ b o, s.heap.get? b = some o → h'.get? b = some o) → Q (.ref (s.heap.objs.size + 1)) { s with heap := h' }) :
    wpAny (model prog w) A (call (.type "enumerate") [v]) Q E s := by
  refine callType_new F.called_enumerate (by decide) (F.typeCall_enumerate_1 _) (F.newCall_enumerate_1 _) (fun obj => F.args_object_init_2 obj _) F.entry_enumerate_new
    (meets_enum1 B) ⟨h1, ?_⟩
  have hz : (s.heap.push o).objs.size = s.heap.objs.size + 1 := Heap.size_push ..
  show _ ∧ _
  rw [hz]
  have he : IsEnum ((s.heap.push o).push { cls := .type "enumerate", data := .fields #[.none, .bool false, .ref s.heap.objs.size, rawInt 0, .none, .none] }) (s.heap.objs.size + 1) s.heap.objs.size 0 .none := by
    have := Heap.get?_push_size (s.heap.push o) (o := { cls := .type "enumerate", data := .fields #[.none, .bool false, .ref s.heap.objs.size, rawInt 0, .none, .none] }) rfl
    rw [hz] at this; exact this
  refine ⟨⟨_, he, rfl⟩, h _ he (Heap.get?_push_of_some _ (Heap.get?_push_size _ B.free)) (by rw [Heap.size_push, hz]) fun b o x => Heap.get?_push_of_some _ (Heap.get?_push_of_some _ x)⟩
end

theorem enum_endL {prog : Program} {w : World} {A : Around} {E : Value → Shared → Prop} {s : Shared} {e it l : Addr} {c : Int} {i : Nat} {items : Array Value} {old : Value} {Q : Option Value → Shared → Prop} (hh : A.handled = none)
    (he : IsEnum s.heap e it c old) (hit : s.heap.IsListIter it l i) (hL : s.heap.IsList l items) (hi : items.size ≤ i) (hQ : ∀ h', Heap.ExtBut it s.heap h' → Q none { s with heap := h' }) : wpAny (model prog w) A (pyNext (.ref e)) Q E s := by
  have hx : items[i]? = none := Array.getElem?_eq_none hi
  have hT : s.TypeIs (.ref e) "enumerate" := ⟨_, he, rfl⟩
  unfold pyNext
  refine wpAny_bind (wpAny_attempt (wpAny_callSpecial?_slot (name := Str.ofString "__next__") hT F.slot_enumerate_next
    (wpAny_call_entry F.slot_enumerate_next hT F.entry_enumerate_next ?_ (F.args_enumerate_next_1 _))))
  show wpAny _ _ (field (.ref e) 2 >>= _) _ _ _
  refine wpAny_bind (wpAny_field he rfl (x := .ref it) rfl ?_)
  refine wpAny_bind (wpAny_nextOf_list_end (show A.in1.handled = none from hh) hit hL hx fun h' x he' hx' => ?_)
  obtain ⟨o, ho, hc⟩ := hx'
  refine wpAny_bind (wpAny_isInstance (T := "StopIteration") (b := true) ⟨o, ho, hc⟩ isSubtype_stop ?_)
  exact wpAny_pure (hQ _ he')

def IteL (K : PySem.W.Frag) (a : Addr) (c : Int) : It :=
  ⟨fun i H => ∃ (xs : List V) (x : V), SqL K H a xs ∧ xs[i]? = some x, fun i H v H' => ∃ T x, v = .ref T ∧ H T = none ∧ H' = upd H T (.tup [.int (c + (i : Nat)), x]) ∧ ∀ xs, SqL K H a xs → xs[i]? = some x, fun i H => ∃ xs : List V, SqL K H a xs ∧ xs.length ≤ i⟩
theorem turn_enumL {P : Program} {w : World} {K : PySem.W.Frag} {elts : List Expr} {kk : Nat} {tpos : Pos} (c : Int) (a e it : Addr) :
    Turn P w K (.Tuple elts kk tpos) (IteL K a c) [e, it] e (fun i h => (∃ old, IsEnum h e it (c + ((i : Nat) : Int)) old) ∧ h.IsListIter it a i ∧ e ≠ it) where
  mem := by simp
  obj := fun i h st b hb => by
    obtain ⟨⟨old, he⟩, ⟨o, ho, hc, hd⟩, _⟩ := st
    have e' : b = e ∨ b = it := by simpa using hb
    rcases e' with z | z
    · rw [z]; exact ⟨_, he, fun v q => nomatch q⟩
    · rw [z]; exact ⟨o, ho, fun v q => by rw [hd] at q; cases q⟩
  keep := fun i h h' st k => let ⟨⟨old, he⟩, hi, hne⟩ := st; ⟨⟨old, k e (by simp) _ he⟩, hi.at fun o q => k it (by simp) o q, hne⟩
  item := by
    intro X hP hw hK hc i pins s σ H E I hf st hg
    subst hP hw hK
    obtain ⟨⟨old, he⟩, hit, hne⟩ := st
    obtain ⟨xs, x, hq, hx⟩ := hg
    obtain ⟨its, rv, p, hz⟩ := I.list hq
    obtain ⟨u, hu, ru⟩ := rv.get hx
    have hel : e < s.heap.objs.size := Heap.lt_size he
    have hil : it < s.heap.objs.size := by obtain ⟨_, q, _⟩ := hit; exact Heap.lt_size q
    have hlen := rv.length
    have hil2 : i < its.toArray.size := by
      have h1 := lt_of_get hu
      simpa using h1
    have PL : s.heap.IsList a its.toArray := p.isList
    have hal : a ≠ it := fun z => by
      obtain ⟨o1, q1, c1, _⟩ := PL
      obtain ⟨o2, q2, c2, _⟩ := hit
      rw [z, q2] at q1; cases q1
      rw [c1] at c2; injection c2 with c3; exact absurd c3 (by decide)
    have hae : e ∉ [it, a] := fun z => by
      have e' : e = it ∨ e = a := by simpa using z
      rcases e' with z | z
      · exact hne z
      · obtain ⟨o1, q1, c1, _⟩ := PL
        rw [← z] at q1
        rw [show s.heap.get? e = some _ from he] at q1; cases q1
        injection c1 with c3; exact absurd c3 (by decide)
    refine wpAny_pyNext_enum_itemC (Draws.list (show X.A.in1.handled = none from I.ok.hd hc) it a hal its.toArray) he ⟨hit, PL⟩ hil2 hne hae fun y h' tk hy ho hit' hT hsz hk => ?_
    have ey : y = u := by
      have : its.toArray[i]? = some u := by simpa using hu
      rw [hy] at this; cases this; rfl
    subst ey
    refine ⟨_, rfl, wpAny_letOwnedTupleGo_enum (s := { s with heap := h', toks := tk + 1 }) ho fun h'' he' sb => ?_⟩
    have hT2 : h''.get? s.heap.objs.size = some { cls := .type "tuple", data := .seq #[.int (c + (i : Int)) tk, y] } := (sb.2 _ (Nat.ne_of_gt hel)).trans hT
    have new : ObjOk X.prog X.w (upd H s.heap.objs.size (.tup [.int (c + (i : Nat)), x])) h'' s.heap.objs.size (.tup [.int (c + (i : Nat)), x]) :=
      ⟨by show 2 ≤ sizeLine; decide, [.int (c + (i : Int)) tk, y], .cons ⟨_, rfl⟩ (.cons ru .nil), ⟨_, hT2, rfl, _, rfl⟩⟩
    have I1 : Inv X pins σ (upd H s.heap.objs.size (.tup [.int (c + (i : Nat)), x])) { s with heap := h'', toks := tk + 1 } :=
      I.turnedNew (ch := [e, it]) (fun b ob hb q => (sb.2 b (fun z => hb (by simp [z]))).trans (hk b ob (fun z => hb (by simp [z])) (fun z => hb (by simp [z])) q)) hf (Nat.le_refl _) new
    refine ⟨.ref s.heap.objs.size, _, I1, rfl, ⟨_, x, rfl, I.hok.fresh (Nat.le_refl _), rfl, fun ys hy => by rw [I.list_inj hy hq]; exact hx⟩, ⟨⟨y, ?_⟩, hit'.1.at fun o q => (sb.2 it (Ne.symm hne)).trans q, hne⟩, fun b hb => ?_⟩
    · have e1 : c + ((i + 1 : Nat) : Int) = c + (i : Int) + 1 := by omega
      rw [e1]; exact he'
    · have hb' : b < s.heap.objs.size := by
        have e' : b = e ∨ b = it := by simpa using hb
        rcases e' with z | z
        · rw [z]; exact hel
        · rw [z]; exact hil
      rw [upd_ne (Nat.ne_of_lt hb')]
      exact (hf b hb).1
  done := by
    intro X hP hw hK hc i pins s σ H E I hf st hg
    subst hP hw hK
    obtain ⟨⟨old, he⟩, hit, hne⟩ := st
    obtain ⟨xs, hq, hx⟩ := hg
    obtain ⟨its, rv, p, hz⟩ := I.list hq
    obtain ⟨f0, f1, f2, f3, f4, f5⟩ := hf it (by simp)
    have hl := rv.length
    have PL : s.heap.IsList a its.toArray := p.isList
    have hle : its.toArray.size ≤ i := by simp; omega
    exact enum_endL (I.ok.hd hc) he hit PL hle fun h' eb => ⟨rfl, I.turned (t' := s.toks) (fun b o hb q => eb b o hb q) f0 f1 f3 f4 f5⟩
  self := fun A i s Q E st h => let ⟨⟨_, he⟩, _⟩ := st; wpAny_pyIter_enum he h
theorem walk_enumL {K : PySem.W.Frag} {a : Addr} {c : Int} {xs : List V} : Walk (IteL K a c) xs.length (fun H => SqL K H a xs) (YPair (fun i => some (.int (c + (i : Nat)))) (fun i => xs[i]?)) := by
  refine ⟨fun i H hi g => ⟨xs, xs[i], g, by simp [hi]⟩, fun H g => ⟨xs, g, Nat.le_refl _⟩, fun i H x H' hi g y => ?_⟩
  obtain ⟨T, z, e1, e2, e3, e4⟩ := y
  exact ⟨T, _, z, e1, e2, e3, rfl, e4 xs g⟩

theorem enum_endT {prog : Program} {w : World} {A : Around} {E : Value → Shared → Prop} {s : Shared} {e it l : Addr} {c : Int} {i : Nat} {items : Array Value} {old : Value} {Q : Option Value → Shared → Prop} (hh : A.handled = none)
    (he : IsEnum s.heap e it c old) (hit : s.heap.IsTupleIter it l i) (hL : s.heap.IsTuple l items) (hi : items.size ≤ i) (hQ : ∀ h', Heap.ExtBut it s.heap h' → Q none { s with heap := h' }) : wpAny (model prog w) A (pyNext (.ref e)) Q E s := by
  have hx : items[i]? = none := Array.getElem?_eq_none hi
  have hT : s.TypeIs (.ref e) "enumerate" := ⟨_, he, rfl⟩
  unfold pyNext
  refine wpAny_bind (wpAny_attempt (wpAny_callSpecial?_slot (name := Str.ofString "__next__") hT F.slot_enumerate_next
    (wpAny_call_entry F.slot_enumerate_next hT F.entry_enumerate_next ?_ (F.args_enumerate_next_1 _))))
  show wpAny _ _ (field (.ref e) 2 >>= _) _ _ _
  refine wpAny_bind (wpAny_field he rfl (x := .ref it) rfl ?_)
  refine wpAny_bind (wpAny_nextOf_tuple_end (show A.in1.handled = none from hh) hit hL hx fun h' x he' hx' => ?_)
  obtain ⟨o, ho, hc⟩ := hx'
  refine wpAny_bind (wpAny_isInstance (T := "StopIteration") (b := true) ⟨o, ho, hc⟩ isSubtype_stop ?_)
  exact wpAny_pure (hQ _ he')

def IteT (K : PySem.W.Frag) (a : Addr) (c : Int) : It :=
  ⟨fun i H => ∃ (xs : List V) (x : V), SqT K H a xs ∧ xs[i]? = some x, fun i H v H' => ∃ T x, v = .ref T ∧ H T = none ∧ H' = upd H T (.tup [.int (c + (i : Nat)), x]) ∧ ∀ xs, SqT K H a xs → xs[i]? = some x, fun i H => ∃ xs : List V, SqT K H a xs ∧ xs.length ≤ i⟩
theorem turn_enumT {P : Program} {w : World} {K : PySem.W.Frag} {elts : List Expr} {kk : Nat} {tpos : Pos} (c : Int) (a e it : Addr) :
    Turn P w K (.Tuple elts kk tpos) (IteT K a c) [e, it] e (fun i h => (∃ old, IsEnum h e it (c + ((i : Nat) : Int)) old) ∧ h.IsTupleIter it a i ∧ e ≠ it) where
  mem := by simp
  obj := fun i h st b hb => by
    obtain ⟨⟨old, he⟩, ⟨o, ho, hc, hd⟩, _⟩ := st
    have e' : b = e ∨ b = it := by simpa using hb
    rcases e' with z | z
    · rw [z]; exact ⟨_, he, fun v q => nomatch q⟩
    · rw [z]; exact ⟨o, ho, fun v q => by rw [hd] at q; cases q⟩
  keep := fun i h h' st k => let ⟨⟨old, he⟩, hi, hne⟩ := st; ⟨⟨old, k e (by simp) _ he⟩, hi.at fun o q => k it (by simp) o q, hne⟩
  item := by
    intro X hP hw hK hc i pins s σ H E I hf st hg
    subst hP hw hK
    obtain ⟨⟨old, he⟩, hit, hne⟩ := st
    obtain ⟨xs, x, hq, hx⟩ := hg
    obtain ⟨its, rv, p, hz⟩ := I.tuple hq
    obtain ⟨u, hu, ru⟩ := rv.get hx
    have hel : e < s.heap.objs.size := Heap.lt_size he
    have hil : it < s.heap.objs.size := by obtain ⟨_, q, _⟩ := hit; exact Heap.lt_size q
    have hlen := rv.length
    have hil2 : i < its.toArray.size := by
      have h1 := lt_of_get hu
      simpa using h1
    have PL : s.heap.IsTuple a its.toArray := p
    have hal : a ≠ it := fun z => by
      obtain ⟨o1, q1, c1, _⟩ := PL
      obtain ⟨o2, q2, c2, _⟩ := hit
      rw [z, q2] at q1; cases q1
      rw [c1] at c2; injection c2 with c3; exact absurd c3 (by decide)
    have hae : e ∉ [it, a] := fun z => by
      have e' : e = it ∨ e = a := by simpa using z
      rcases e' with z | z
      · exact hne z
      · obtain ⟨o1, q1, c1, _⟩ := PL
        rw [← z] at q1
        rw [show s.heap.get? e = some _ from he] at q1; cases q1
        injection c1 with c3; exact absurd c3 (by decide)
    refine wpAny_pyNext_enum_itemC (Draws.tuple (show X.A.in1.handled = none from I.ok.hd hc) it a hal its.toArray) he ⟨hit, PL⟩ hil2 hne hae fun y h' tk hy ho hit' hT hsz hk => ?_
    have ey : y = u := by
      have : its.toArray[i]? = some u := by simpa using hu
      rw [hy] at this; cases this; rfl
    subst ey
    refine ⟨_, rfl, wpAny_letOwnedTupleGo_enum (s := { s with heap := h', toks := tk + 1 }) ho fun h'' he' sb => ?_⟩
    have hT2 : h''.get? s.heap.objs.size = some { cls := .type "tuple", data := .seq #[.int (c + (i : Int)) tk, y] } := (sb.2 _ (Nat.ne_of_gt hel)).trans hT
    have new : ObjOk X.prog X.w (upd H s.heap.objs.size (.tup [.int (c + (i : Nat)), x])) h'' s.heap.objs.size (.tup [.int (c + (i : Nat)), x]) :=
      ⟨by show 2 ≤ sizeLine; decide, [.int (c + (i : Int)) tk, y], .cons ⟨_, rfl⟩ (.cons ru .nil), ⟨_, hT2, rfl, _, rfl⟩⟩
    have I1 : Inv X pins σ (upd H s.heap.objs.size (.tup [.int (c + (i : Nat)), x])) { s with heap := h'', toks := tk + 1 } :=
      I.turnedNew (ch := [e, it]) (fun b ob hb q => (sb.2 b (fun z => hb (by simp [z]))).trans (hk b ob (fun z => hb (by simp [z])) (fun z => hb (by simp [z])) q)) hf (Nat.le_refl _) new
    refine ⟨.ref s.heap.objs.size, _, I1, rfl, ⟨_, x, rfl, I.hok.fresh (Nat.le_refl _), rfl, fun ys hy => by rw [I.tuple_inj hy hq]; exact hx⟩, ⟨⟨y, ?_⟩, hit'.1.at fun o q => (sb.2 it (Ne.symm hne)).trans q, hne⟩, fun b hb => ?_⟩
    · have e1 : c + ((i + 1 : Nat) : Int) = c + (i : Int) + 1 := by omega
      rw [e1]; exact he'
    · have hb' : b < s.heap.objs.size := by
        have e' : b = e ∨ b = it := by simpa using hb
        rcases e' with z | z
        · rw [z]; exact hel
        · rw [z]; exact hil
      rw [upd_ne (Nat.ne_of_lt hb')]
      exact (hf b hb).1
  done := by
    intro X hP hw hK hc i pins s σ H E I hf st hg
    subst hP hw hK
    obtain ⟨⟨old, he⟩, hit, hne⟩ := st
    obtain ⟨xs, hq, hx⟩ := hg
    obtain ⟨its, rv, p, hz⟩ := I.tuple hq
    obtain ⟨f0, f1, f2, f3, f4, f5⟩ := hf it (by simp)
    have hl := rv.length
    have PL : s.heap.IsTuple a its.toArray := p
    have hle : its.toArray.size ≤ i := by simp; omega
    exact enum_endT (I.ok.hd hc) he hit PL hle fun h' eb => ⟨rfl, I.turned (t' := s.toks) (fun b o hb q => eb b o hb q) f0 f1 f3 f4 f5⟩
  self := fun A i s Q E st h => let ⟨⟨_, he⟩, _⟩ := st; wpAny_pyIter_enum he h
theorem walk_enumT {K : PySem.W.Frag} {a : Addr} {c : Int} {xs : List V} : Walk (IteT K a c) xs.length (fun H => SqT K H a xs) (YPair (fun i => some (.int (c + (i : Nat)))) (fun i => xs[i]?)) := by
  refine ⟨fun i H hi g => ⟨xs, xs[i], g, by simp [hi]⟩, fun H g => ⟨xs, g, Nat.le_refl _⟩, fun i H x H' hi g y => ?_⟩
  obtain ⟨T, z, e1, e2, e3, e4⟩ := y
  exact ⟨T, _, z, e1, e2, e3, rfl, e4 xs g⟩
end BF
set_option Elab.async false
set_option linter.all false
set_option autoImplicit false
set_option maxRecDepth 100000
set_option maxHeartbeats 2000000
namespace BF
open PySem PySem.Spec PyProof.Rows L2
/-! ### what is walked -/
def Yd (K : Env1) (F : Hp) (ds : List D) : Nat → Hp → V → Hp → Prop := fun i H x H' => ∃ d, ds[i]? = some d ∧ ((H' = H ∧ Rep K F x d) ∨ ∃ p vs es, d = .tup es ∧ x = .ref p ∧ H p = none ∧ H' = upd H p (.tup vs) ∧ Reps K F vs es)
def ItD (K : Env1) (F : Hp) (ds : List D) (J : It) : Prop := Walk J ds.length (Le F) (Yd K F ds)
def wpI (X : Cx) (tg iter : Expr) : TI := fun σ H R => ∀ (pins : List (Addr × Obj)) (s : Shared), Inv X pins σ H s → wpAny (model X.prog X.w) X.A (eval iter X.env) (fun v s1 => wpAny (model X.prog X.w) X.A (pyIter v) (PIE X pins σ tg R) X.xe s1) X.xe s
theorem pi_self (X : Cx) (tg iter : Expr) : PI X tg iter (wpI X tg iter) := ⟨fun pins s σ H R I h => h pins s I⟩
theorem wpI_of {X : Cx} {tg iter : Expr} {wi : TI} {σ : Sl} {H : Hp} {R : It → Hp → Prop} (h : PI X tg iter wi) (q : wi σ H R) : wpI X tg iter σ H R := fun pins s I => h.run pins s σ H R I q
section
variable {G : Type}
def PstI (K : Env1) (T : Gt G) (W : WX1) (F H : Hp) (s : Sg G) (σ : Sl) (r : Rs G (List D)) (Q : It → Hp → Prop) : Prop := match r with
  | .ok ds s' => ∀ J F' H', Stp T F H s σ F' H' s' σ → Rl K T F' H' s' σ → ItD K F' ds J → Q J H'
  | .er x g => PstX K T W F H s σ x g
  | .no => False
def SI (X : Cx) (K : Env1) (T : Gt G) (W : WX1) (tg iter : Expr) (f : Sg G → Rs G (List D)) : Prop := ∀ F H σ s R, Rl K T F H s σ → PstI K T W F H s σ (f s) R → wpI X tg iter σ H R
def evSeq (fa : Sg G → Rs G Ov) (s : Sg G) : Rs G (List D) := (fa s).bind fun x s1 => (use s1 x).bind fun d s2 => match d with
  | .lst ds => .ok ds s2
  | .tup ds => .ok ds s2
  | _ => .no
def intsD (lo : Int) (n : Nat) : List D := (List.range n).map fun i => .int (lo + (i : Nat))
def evRg1 (f : Sg G → Rs G (List Ov)) (s : Sg G) : Rs G (List D) := (f s).bind fun xs s1 => match pks s1 xs with
  | some [.int j] => if rgB j = true then .ok (intsD 0 j.toNat) s1 else .no
  | _ => .no
def evRg2 (f : Sg G → Rs G (List Ov)) (s : Sg G) : Rs G (List D) := (f s).bind fun xs s1 => match pks s1 xs with
  | some [.int i, .int j] => if rgB i = true ∧ rgB j = true then .ok (intsD i (j - i).toNat) s1 else .no
  | _ => .no
def enumL (c : Int) : List D → List D
  | [] => []
  | d :: ds => .tup [.int c, d] :: enumL (c + 1) ds
def evEnum (c : Int) (fa : Sg G → Rs G Ov) (s : Sg G) : Rs G (List D) := (fa s).bind fun x s1 => (use s1 x).bind fun d s2 => match d with
  | .lst ds => .ok (enumL c ds) s2
  | .tup ds => .ok (enumL c ds) s2
  | _ => .no
theorem enumL_len (ds : List D) : ∀ c, (enumL c ds).length = ds.length := by
  induction ds with
  | nil => intro c; rfl
  | cons d ds ih => intro c; show (enumL (c + 1) ds).length + 1 = _; rw [ih]; rfl
theorem enumL_get (ds : List D) : ∀ (c : Int) (i : Nat), (enumL c ds)[i]? = (ds[i]?).map fun d => .tup [.int (c + (i : Nat)), d] := by
  induction ds with
  | nil => intro c i; simp [enumL]
  | cons d ds ih =>
    intro c i
    cases i with
    | zero => simp [enumL]
    | succ i =>
      show (enumL (c + 1) ds)[i]? = _
      rw [ih]
      simp only [List.getElem?_cons_succ]
      congr 1
      funext d
      have e : c + 1 + ((i : Nat) : Int) = c + ((i + 1 : Nat) : Int) := by omega
      rw [e]
theorem use_ok {s s' : Sg G} {x : Ov} (y : Er) (g : G) : use s x ≠ .er y g := by
  cases x with
  | vl d => exact fun z => nomatch z
  | fr d => exact fun z => nomatch z
  | pl i =>
    intro z
    have z : (match look s i with
      | some d => Rs.ok d (frzS s i)
      | none => Rs.no) = .er y g := z
    split at z <;> cases z
end
section
variable {G : Type} {X : Cx} {K : Env1} {T : Gt G} {W : WX1} {tg a b c e : Expr} {es : List Expr} {fa fb fc : Sg G → Rs G Ov} {fl : Sg G → Rs G (List Ov)} {pos p2 p3 : Pos} {F H F1 H1 : Hp} {s s1 : Sg G} {σ : Sl}
theorem PstI.step {r : Rs G (List D)} {Q : It → Hp → Prop} (S : Stp T F H s σ F1 H1 s1 σ) (R : Rl K T F H s σ) (R1 : Rl K T F1 H1 s1 σ) (h : PstI K T W F H s σ r Q) : PstI K T W F1 H1 s1 σ r Q := by
  cases r with
  | no => exact h.elim
  | er x g => exact PstX.step S R R1 h
  | ok x s' => exact fun J F' H' S' R' r' => h J F' H' (S.trans S' R R') R' r'
/-- a used expression, walked -/
theorem used_core {k : D → Sg G → Rs G (List D)} {R' : It → Hp → Prop} (hf : SE X K T W e fa) (R : Rl K T F H s σ) (h : PstI K T W F H s σ ((fa s).bind fun x s1 => (use s1 x).bind fun d s2 => k d s2) R') :
    wpE X e σ H (fun v H1 => ∃ F1 s1 d, Rl K T F1 H1 s1 σ ∧ Rep K F1 v d ∧ PstI K T W F1 H1 s1 σ (k d s1) R') := by
  refine hf F H σ s _ R ?_
  cases q : fa s with
  | no => rw [q] at h; exact h.elim
  | er x g => rw [q] at h; exact h
  | ok x s1 =>
    rw [q] at h
    intro v F1 H1 S1 R1 r1
    have h : PstI K T W F H s σ ((use s1 x).bind fun d s2 => k d s2) R' := h
    cases q2 : use s1 x with
    | no => rw [q2] at h; exact h.elim
    | er y g => exact (use_ok (s' := s1) y g q2).elim
    | ok d s2 =>
      rw [q2] at h
      obtain ⟨F2, R2, S2, p2⟩ := r1.used S1 R R1 q2
      exact ⟨F2, s2, d, R2, p2, PstI.step S2 R R2 h⟩
theorem pi_seq {te : TE} (hl : PE X e te) : PI X tg e (fun σ H R => te σ H fun x H1 => ∃ a, x = .ref a ∧ (((∃ xs, SqL X.K H1 a xs) ∧ R (Itl X.K a) H1) ∨ ((∃ xs, SqT X.K H1 a xs) ∧ R (Itt X.K a) H1))) := by
  refine ⟨fun pins s σ H R I h => ?_⟩
  refine thn (hl.run pins s σ H _ I h) fun v s1 ⟨x, H1, I1, r1, q1⟩ => ?_
  obtain ⟨a, e, ⟨⟨xs, hq⟩, q⟩ | ⟨⟨xs, hq⟩, q⟩⟩ := q1
  · subst e
    cases r1
    obtain ⟨its, rv, p, hz⟩ := I1.list hq
    refine wpAny_pyIter_list p.isList ?_
    refine ⟨s1.heap.objs.size, [s1.heap.objs.size], _, _, H1, rfl, I1.kept (t' := s1.toks) fun b o e => Heap.get?_push_of_some _ e, turn_list a _, ⟨_, Heap.get?_push_size _ rfl, rfl, rfl⟩, fun b hb => ?_, q⟩
    have e : b = s1.heap.objs.size := by simpa using hb
    subst e
    exact I1.fpOk (Nat.le_refl _) (I1.hok.fresh (Nat.le_refl _))
  · subst e
    cases r1
    obtain ⟨its, rv, p, hz⟩ := I1.tuple hq
    refine wpAny_pyIter_tuple (show s1.heap.IsTuple a its.toArray from p) ?_
    refine ⟨s1.heap.objs.size, [s1.heap.objs.size], _, _, H1, rfl, I1.kept (t' := s1.toks) fun b o e => Heap.get?_push_of_some _ e, turn_tuple a _, ⟨_, Heap.get?_push_size _ rfl, rfl, rfl⟩, fun b hb => ?_, q⟩
    have e : b = s1.heap.objs.size := by simpa using hb
    subst e
    exact I1.fpOk (Nat.le_refl _) (I1.hok.fresh (Nat.le_refl _))
theorem itd_list {a : Addr} {vs : List V} {ds : List D} (h : F a = some (.lst vs)) (r : Reps K F vs ds) : ItD K F ds (Itl K.K a) := by
  unfold ItD
  rw [← r.length]
  refine walk_list.mono (fun H l => .inl (.inl (l _ _ h))) fun i H x H' hi l y => ?_
  obtain ⟨e, y⟩ := y
  have hd : i < ds.length := by rw [← r.length]; exact hi
  obtain ⟨v, e1, e2⟩ := r.get (List.getElem?_eq_getElem hd)
  rw [y] at e1; cases e1
  exact ⟨_, List.getElem?_eq_getElem hd, .inl ⟨e, e2⟩⟩
theorem itd_tup {a : Addr} {vs : List V} {ds : List D} (h : TupAt K.K F a vs) (r : Reps K F vs ds) : ItD K F ds (Itt K.K a) := by
  unfold ItD
  rw [← r.length]
  refine walk_tup.mono (fun H l => (l.sqT h).sq) fun i H x H' hi l y => ?_
  obtain ⟨e, y⟩ := y
  have hd : i < ds.length := by rw [← r.length]; exact hi
  obtain ⟨v, e1, e2⟩ := r.get (List.getElem?_eq_getElem hd)
  rw [y] at e1; cases e1
  exact ⟨_, List.getElem?_eq_getElem hd, .inl ⟨e, e2⟩⟩
theorem si_seq (hk : K.K = X.K) (hf : SE X K T W e fa) : SI X K T W tg e (evSeq fa) := by
  intro F H σ s R' R h
  refine wpI_of (pi_seq (pe_self X e)) (wp_mono (used_core (k := fun d s2 => match d with
    | .lst ds => .ok ds s2
    | .tup ds => .ok ds s2
    | _ => .no) hf R h) fun v H1 ⟨F1, s1, d, R1, rd, q⟩ => ?_)
  cases d with
  | lst ds =>
    cases rd with
    | lst h1 h2 => exact ⟨_, rfl, .inl ⟨⟨_, .inl (.inl (R1.sub _ _ h1))⟩, q _ F1 H1 (Stp.refl ..) R1 (hk ▸ itd_list h1 h2)⟩⟩
  | tup ds =>
    cases rd with
    | tup h1 h2 => exact ⟨_, rfl, .inr ⟨⟨_, hk ▸ (R1.sub.sqT h1).sq⟩, q _ F1 H1 (Stp.refl ..) R1 (hk ▸ itd_tup h1 h2)⟩⟩
  | _ => exact q.elim
theorem intsD_len (lo : Int) (n : Nat) : (intsD lo n).length = n := by simp [intsD]
theorem intsD_get {lo : Int} {n i : Nat} (h : i < n) : (intsD lo n)[i]? = some (.int (lo + (i : Nat))) := by simp [intsD, h]
theorem itd_range {lo : Int} {n : Nat} : ItD K F (intsD lo n) (Itr lo n) := by
  unfold ItD
  rw [intsD_len]
  refine walk_range.mono (fun H l => trivial) fun i H x H' hi l y => ?_
  obtain ⟨e1, e2⟩ := y
  subst e2
  exact ⟨_, intsD_get hi, .inl ⟨e1, .int _⟩⟩
theorem si_rg1 (hg : Gl X "range") (hm : X.mg "range" = none) (hst : [a].all noStar = true) (hl : SL X K T W [a] fl) : SI X K T W tg (.Call (.Name "range" p2) [a] [] pos) (evRg1 fl) := by
  intro F H σ s R' R h
  have h' := Bool.and_eq_true_iff.mp (show (noStar a && true) = true from hst)
  refine wpI_of (pi_range1 hg hm (pa_self X hst) (by rw [starEach_of h'.1]; rfl)) (hl F H σ s _ R ?_)
  unfold evRg1 at h
  cases q : fl s with
  | no => rw [q] at h; exact h.elim
  | er x g => rw [q] at h; exact h
  | ok xs s1 =>
    rw [q] at h
    intro vs F1 H1 S1 R1 r1
    simp only [Rs.bind] at h
    split at h
    · rename_i j q2
      split at h
      · rename_i hj
        obtain ⟨v, rfl, hv⟩ := (r1.rhs R1 q2).one
        cases hv.int
        exact ⟨j, rfl, (rgB_ok hj).1, (rgB_ok hj).2, h _ F1 H1 S1 R1 itd_range⟩
      · exact h.elim
    · exact h.elim
theorem si_rg2 (hg : Gl X "range") (hm : X.mg "range" = none) (hst : [a, b].all noStar = true) (hl : SL X K T W [a, b] fl) : SI X K T W tg (.Call (.Name "range" p2) [a, b] [] pos) (evRg2 fl) := by
  intro F H σ s R' R h
  have h' := Bool.and_eq_true_iff.mp (show (noStar a && (noStar b && true)) = true from hst)
  have h'' := Bool.and_eq_true_iff.mp h'.2
  refine wpI_of (pi_range2 hg hm (pa_self X hst) (by rw [starEach_of h'.1, starEach_of h''.1]; rfl) (by rw [starEach_of h''.1]; rfl)) (hl F H σ s _ R ?_)
  unfold evRg2 at h
  cases q : fl s with
  | no => rw [q] at h; exact h.elim
  | er x g => rw [q] at h; exact h
  | ok xs s1 =>
    rw [q] at h
    intro vs F1 H1 S1 R1 r1
    simp only [Rs.bind] at h
    split at h
    · rename_i i j q2
      split at h
      · rename_i hj
        obtain ⟨v, w, rfl, hv, hw⟩ := (r1.rhs R1 q2).two
        cases hv.int; cases hw.int
        exact ⟨i, j, rfl, ⟨(rgB_ok hj.1).1, (rgB_ok hj.1).2, (rgB_ok hj.2).1, (rgB_ok hj.2).2⟩, h _ F1 H1 S1 R1 itd_range⟩
      · exact h.elim
    · exact h.elim
/-! enumerate -/
theorem pi_enumA {ta : TA} {elts : List Expr} {kk : Nat} {tpos : Pos} (hg : Gl X "enumerate") (hm : X.mg "enumerate" = none) (ha : PA X [e] ta) (hs : starEach [e] X.env = [(false, eval e X.env)]) :
    PI X (.Tuple elts kk tpos) (.Call (.Name "enumerate" p2) [e] [] pos) (fun σ H R => ta σ H fun vs H1 => ∃ a, vs = [.ref a] ∧ (((∃ xs, SqL X.K H1 a xs) ∧ R (IteL X.K a 0) H1) ∨ ((∃ xs, SqT X.K H1 a xs) ∧ R (IteT X.K a 0) H1))) := by
  refine ⟨fun pins s σ H R I h => ?_⟩
  refine Call_ (ld_blt I hg hm boot_enumerate (PyProof.Rows.callWith_type1 (thn (ha.run pos pins s σ H _ I h) fun us s1 ⟨vs, H1, I1, r1, q1⟩ => ?_) hs rfl))
  obtain ⟨a, ex, q⟩ := q1
  subst ex
  cases r1 with
  | cons r rr =>
    cases rr
    cases r
    have fpk : ∀ {h' : Heap} {J : It} {tn : Nat → Heap → Prop}, (∀ b o, s1.heap.get? b = some o → h'.get? b = some o) → Turn X.prog X.w X.K (.Tuple elts kk tpos) J [s1.heap.objs.size + 1, s1.heap.objs.size] (s1.heap.objs.size + 1) tn → tn 0 h' → R J H1 →
        PIE X pins σ (.Tuple elts kk tpos) R (.ref (s1.heap.objs.size + 1)) { s1 with heap := h' } := fun {h' J tn} hk tu st q => by
      refine ⟨s1.heap.objs.size + 1, [s1.heap.objs.size + 1, s1.heap.objs.size], _, _, H1, rfl, I1.kept (t' := s1.toks) hk, tu, st, fun b hb => ?_, q⟩
      have e' : b = s1.heap.objs.size + 1 ∨ b = s1.heap.objs.size := by simpa using hb
      have hle : s1.heap.objs.size ≤ b := by
        rcases e' with z | z
        · rw [z]; exact Nat.le_add_right _ _
        · rw [z]; exact Nat.le_refl _
      exact I1.fpOk hle (I1.hok.fresh hle)
    rcases q with ⟨⟨xs, hq⟩, q⟩ | ⟨⟨xs, hq⟩, q⟩
    · obtain ⟨its, rv, p', hz⟩ := I1.list hq
      refine enum_begins1 (begins_list a its.toArray) p'.isList fun h' he hit hsz hk => wpAny_pyIter_enum he (fpk hk (turn_enumL 0 a _ _) ⟨⟨.none, by simpa using he⟩, ⟨_, hit, rfl, rfl⟩, Nat.succ_ne_self _⟩ q)
    · obtain ⟨its, rv, p', hz⟩ := I1.tuple hq
      refine enum_begins1 (begins_tuple a its.toArray) (show s1.heap.IsTuple a its.toArray from p') fun h' he hit hsz hk => wpAny_pyIter_enum he (fpk hk (turn_enumT 0 a _ _) ⟨⟨.none, by simpa using he⟩, ⟨_, hit, rfl, rfl⟩, Nat.succ_ne_self _⟩ q)
theorem itd_enumL {a : Addr} {vs : List V} {ds : List D} {c : Int} (h : F a = some (.lst vs)) (r : Reps K F vs ds) : ItD K F (enumL c ds) (IteL K.K a c) := by
  unfold ItD
  rw [enumL_len, ← r.length]
  refine walk_enumL.mono (fun H l => .inl (.inl (l _ _ h))) fun i H x H' hi l y => ?_
  obtain ⟨p, x1, x2, e1, e2, e3, e4, e5⟩ := y
  cases e4
  have hd : i < ds.length := by rw [← r.length]; exact hi
  obtain ⟨v, q1, q2⟩ := r.get (List.getElem?_eq_getElem hd)
  rw [show vs[i]? = some x2 from e5] at q1; cases q1
  refine ⟨_, by rw [enumL_get, List.getElem?_eq_getElem hd]; rfl, .inr ⟨p, _, _, rfl, e1, e2, e3, .cons (.int _) (.cons q2 .nil)⟩⟩
theorem itd_enumT {a : Addr} {vs : List V} {ds : List D} {c : Int} (h : TupAt K.K F a vs) (r : Reps K F vs ds) : ItD K F (enumL c ds) (IteT K.K a c) := by
  unfold ItD
  rw [enumL_len, ← r.length]
  refine walk_enumT.mono (fun H l => (l.sqT h).sq) fun i H x H' hi l y => ?_
  obtain ⟨p, x1, x2, e1, e2, e3, e4, e5⟩ := y
  cases e4
  have hd : i < ds.length := by rw [← r.length]; exact hi
  obtain ⟨v, q1, q2⟩ := r.get (List.getElem?_eq_getElem hd)
  rw [show vs[i]? = some x2 from e5] at q1; cases q1
  refine ⟨_, by rw [enumL_get, List.getElem?_eq_getElem hd]; rfl, .inr ⟨p, _, _, rfl, e1, e2, e3, .cons (.int _) (.cons q2 .nil)⟩⟩
theorem si_enum {elts : List Expr} {kk : Nat} {tpos : Pos} (hk : K.K = X.K) (hg : Gl X "enumerate") (hm : X.mg "enumerate" = none) (hst : [e].all noStar = true) (hf : SE X K T W e fa) : SI X K T W (.Tuple elts kk tpos) (.Call (.Name "enumerate" p2) [e] [] pos) (evEnum 0 fa) := by
  intro F H σ s R' R h
  have h' := Bool.and_eq_true_iff.mp (show (noStar e && true) = true from hst)
  refine wpI_of (pi_enumA hg hm (pa_self X hst) (by rw [starEach_of h'.1]; rfl)) ?_
  show wpE X e σ H fun v H1 => _
  refine wp_mono (used_core (k := fun d s2 => match d with
    | .lst ds => .ok (enumL 0 ds) s2
    | .tup ds => .ok (enumL 0 ds) s2
    | _ => .no) hf R h) fun v H1 ⟨F1, s1, d, R1, rd, q⟩ => ?_
  show ∃ a, [v] = [V.ref a] ∧ _
  cases d with
  | lst ds =>
    cases rd with
    | lst h1 h2 => exact ⟨_, rfl, .inl ⟨⟨_, .inl (.inl (R1.sub _ _ h1))⟩, q _ F1 H1 (Stp.refl ..) R1 (hk ▸ itd_enumL h1 h2)⟩⟩
  | tup ds =>
    cases rd with
    | tup h1 h2 => exact ⟨_, rfl, .inr ⟨⟨_, hk ▸ (R1.sub.sqT h1).sq⟩, q _ F1 H1 (Stp.refl ..) R1 (hk ▸ itd_enumT h1 h2)⟩⟩
  | _ => exact q.elim
end
end BF
set_option Elab.async false
set_option linter.all false
set_option autoImplicit false
set_option maxRecDepth 100000
set_option maxHeartbeats 2000000
namespace BF
open PySem PySem.Spec PyProof.Rows L2
/-! ### targets -/
inductive Tg where
  | nm (i : Nat) | tp (ix : List Nat)
section
variable {G : Type}
def asgN (s : Sg G) (i : Nat) (d : D) : Option (Sg G) := if i < s.sl.length then some (setS s i (some (false, d))) else none
def asgs : List Nat → List D → Sg G → Option (Sg G)
  | [], [], s => some s
  | i :: ix, d :: ds, s => (asgN s i d).bind fun s1 => asgs ix ds s1
  | _, _, _ => none
def asgT (t : Tg) (d : D) (s : Sg G) : Option (Sg G) := match t with
  | .nm i => asgN s i d
  | .tp ix => (match d with
    | .tup ds => asgs ix ds s
    | _ => none)
end
/-- a target's slots are among some -/
def tgIn : Tg → List Nat → Prop
  | .nm i, l => i ∈ l
  | .tp ix, l => ∀ i ∈ ix, i ∈ l
def gNames : List Nat → TGs
  | [] => gNil
  | i :: ix => gCons (gName i) (gNames ix)
def gOf (K : PySem.W.Frag) : Tg → TG
  | .nm i => gName i
  | .tp ix => gTup K ix.length (gNames ix)
section
variable {G : Type} {X : Cx} {K : Env1} {T : Gt G} {W : WX1} {tg a b c e : Expr} {es : List Expr} {fa fb fc : Sg G → Rs G Ov} {fl : Sg G → Rs G (List Ov)} {pos p2 p3 : Pos} {F H F1 H1 : Hp} {s s1 : Sg G} {σ : Sl}
theorem asgN_ok {i : Nat} {v : V} {d : D} {s' : Sg G} (R : Rl K T F H s σ) (r : Rep K F v d) (h : asgN s i d = some s') : Rl K T F H s' (σ.set i (some v)) ∧ Stp T F H s σ F H s' (σ.set i (some v)) := by
  unfold asgN at h
  split at h
  · rename_i hi
    cases h
    exact R.setV hi r
  · cases h
theorem wipe_set {σ : Sl} {i : Nat} {v : Option V} : ∀ (l : List Nat), i ∈ l → wipe (σ.set i v) l = wipe σ l := by
  intro l
  induction l with
  | nil => intro h; cases h
  | cons j l ih =>
    intro h
    show (wipe (σ.set i v) l).set j none = (wipe σ l).set j none
    by_cases q : i ∈ l
    · rw [ih q]
    · have e : i = j := by
        rcases List.mem_cons.mp h with e | e
        · exact e
        · exact (q e).elim
      subst e
      have aux : ∀ (l : List Nat), i ∉ l → wipe (σ.set i v) l = (wipe σ l).set i v := by
        intro l
        induction l with
        | nil => intro _; rfl
        | cons k l ih2 =>
          intro hn
          show (wipe (σ.set i v) l).set k none = ((wipe σ l).set k none).set i v
          rw [ih2 fun z => hn (List.mem_cons_of_mem _ z)]
          exact List.set_comm _ _ (fun z => hn (z ▸ List.mem_cons_self ..))
      rw [aux l q, List.set_set]
theorem asgs_len : ∀ {ix : List Nat} {ds : List D} {s s' : Sg G}, asgs ix ds s = some s' → ix.length = ds.length := by
  intro ix
  induction ix with
  | nil =>
    intro ds s s' h
    cases ds with
    | nil => rfl
    | cons d ds => cases h
  | cons i ix ih =>
    intro ds s s' h
    cases ds with
    | nil => cases h
    | cons d ds =>
      have h : ((asgN s i d).bind fun s1 => asgs ix ds s1) = some s' := h
      cases q : asgN s i d with
      | none => rw [q] at h; cases h
      | some s1 => rw [q] at h; simp [ih h]
theorem asgs_ok : ∀ {ix : List Nat} {vs : List V} {ds : List D} {s s' : Sg G} {σ : Sl} {k : Sl → Hp → Prop}, Rl K T F H s σ → Reps K F vs ds → asgs ix ds s = some s' →
    (∀ σ', Rl K T F H s' σ' → Stp T F H s σ F H s' σ' → (∀ l : List Nat, (∀ i ∈ ix, i ∈ l) → wipe σ' l = wipe σ l) → k σ' H) → gNames ix vs σ H k := by
  intro ix
  induction ix with
  | nil =>
    intro vs ds s s' σ k R r h hk
    cases ds with
    | nil =>
      cases r
      cases h
      exact ⟨rfl, hk σ R (Stp.refl ..) fun _ _ => rfl⟩
    | cons d ds => cases h
  | cons i ix ih =>
    intro vs ds s s' σ k R r h hk
    cases ds with
    | nil => cases h
    | cons d ds =>
      cases r with
      | @cons v vs _ _ r1 r2 =>
        have h : ((asgN s i d).bind fun s1 => asgs ix ds s1) = some s' := h
        cases q : asgN s i d with
        | none => rw [q] at h; cases h
        | some s1 =>
          rw [q] at h
          obtain ⟨R1, S1⟩ := asgN_ok R r1 q
          refine ⟨v, vs, rfl, ih R1 r2 h fun σ' R' S' hw => hk σ' R' (S1.trans S' R R') fun l hl => ?_⟩
          rw [hw l fun j hj => hl j (List.mem_cons_of_mem _ hj)]
          exact wipe_set l (hl i (List.mem_cons_self ..))
/-- a target ix given what ix walked -/
theorem asgT_ok {t : Tg} {i : Nat} {v : V} {d : D} {ds : List D} {H' : Hp} {s' : Sg G} {k : Sl → Hp → Prop} (R : Rl K T F H s σ) (hd : ds[i]? = some d) (y : Yd K F ds i H v H') (h : asgT t d s = some s')
    (hk : ∀ F' σ', Rl K T F' H' s' σ' → Stp T F H s σ F' H' s' σ' → Le F F' → (∀ l : List Nat, tgIn t l → wipe σ' l = wipe σ l) → k σ' H') : gOf K.K t v σ H' k := by
  obtain ⟨d', e1, y⟩ := y
  rw [hd] at e1; cases e1
  rcases y with ⟨rfl, r⟩ | ⟨p, vs, es, rfl, rfl, n, rfl, r⟩
  · cases t with
    | nm j =>
      obtain ⟨R1, S1⟩ := asgN_ok R r h
      exact hk F _ R1 S1 (Le.refl _) fun l hl => wipe_set l hl
    | tp ix =>
      cases d with
      | tup es =>
        have h : asgs ix es s = some s' := h
        cases r with
        | @tup a vs _ h1 h2 =>
          have hl : vs.length = ix.length := by
            rw [h2.length]
            exact (asgs_len h).symm
          exact ⟨a, vs, rfl, (R.sub.sqT h1).sq, hl, asgs_ok R h2 h fun σ' R' S' hw => hk F σ' R' S' (Le.refl _) fun l hl => hw l hl⟩
      | _ => cases h
  · obtain ⟨R1, S1⟩ := R.newF (o := .tup vs) n
    cases t with
    | nm j =>
      obtain ⟨R2, S2⟩ := asgN_ok R1 (Rep.tup (.inl upd_same) (r.mono S1.le)) h
      exact hk _ _ R2 (S1.trans S2 R R2) S1.le fun l hl => wipe_set l hl
    | tp ix =>
      have h : asgs ix es s = some s' := h
      have hl : vs.length = ix.length := by
        rw [r.length]
        exact (asgs_len h).symm
      exact ⟨p, vs, rfl, .inl (.inl upd_same), hl, asgs_ok R1 (r.mono S1.le) h fun σ' R' S' hw => hk _ σ' R' (S1.trans S' R R') S1.le fun l hl => hw l hl⟩
/-- the names of a target -/
def tgOk (N : List Str) (sc : Scope) : Tg → Expr → Bool
  | .nm i, .Name x _ => decide (N[i]? = some x) && (match sc.names.lookup x with
    | some .local => true
    | some .cell => true
    | _ => false)
  | .tp ix, .Tuple es _ _ => tgsOk ix es
  | _, _ => false
where
  tgsOk : List Nat → List Expr → Bool
    | [], [] => true
    | i :: ix, .Name x _ :: es => (decide (N[i]? = some x) && (match sc.names.lookup x with
      | some .local => true
      | some .cell => true
      | _ => false)) && tgsOk ix es
    | _, _ => false
theorem loc_of {sc : Scope} {x : Str} (h : (match sc.names.lookup x with
    | some .local => true
    | some .cell => true
    | _ => false) = true) : Loc sc x := by
  split at h
  · rename_i e; exact .inl e
  · rename_i e; exact .inr e
  · cases h
theorem tgs_pg (hN : X.N.Nodup) (hf : ∀ x, Loc X.env.scope x → X.fn x = true ∨ X.env.scope.names.lookup x = some .local) : ∀ {ix : List Nat} {es : List Expr}, tgOk.tgsOk X.N X.env.scope ix es = true → PGs X es (gNames ix) ∧ ix.length = es.length := by
  intro ix
  induction ix with
  | nil =>
    intro es h
    cases es with
    | nil => exact ⟨pgs_nil, rfl⟩
    | cons e es => cases e <;> cases h
  | cons i ix ih =>
    intro es h
    cases es with
    | nil => cases h
    | cons e es =>
      cases e with
      | Name x p =>
        have h := Bool.and_eq_true_iff.mp (show ((decide (X.N[i]? = some x) && _) && tgOk.tgsOk X.N X.env.scope ix es) = true from h)
        obtain ⟨h1, h2⟩ := Bool.and_eq_true_iff.mp h.1
        obtain ⟨q1, q2⟩ := ih h.2
        refine ⟨pgs_cons (pg_name hN (of_decide_eq_true h1) (loc_of h2) (hf x (loc_of h2))) q1 ?_, by simp [q2]⟩
        rfl
      | _ => cases h
theorem asgEach_len {env : Env} : ∀ es : List Expr, (assignEach es env).length = es.length
  | [] => rfl
  | e :: es => by
    have := asgEach_len (env := env) es
    cases e <;> (show _ + 1 = _ + 1; rw [this])
theorem asgEach_none {N : List Str} {sc : Scope} {env : Env} : ∀ {ix : List Nat} {es : List Expr}, tgOk.tgsOk N sc ix es = true → (assignEach es env).findIdx? (·.1) = none := by
  intro ix
  induction ix with
  | nil =>
    intro es h
    cases es with
    | nil => rfl
    | cons e es => cases e <;> cases h
  | cons i ix ih =>
    intro es h
    cases es with
    | nil => cases h
    | cons e es =>
      cases e with
      | Name x p =>
        have h := Bool.and_eq_true_iff.mp (show ((decide (N[i]? = some x) && _) && tgOk.tgsOk N sc ix es) = true from h)
        have q := ih h.2
        show ((false, _) :: assignEach es env).findIdx? (·.1) = none
        rw [List.findIdx?_cons, q]
        rfl
      | _ => cases h
theorem tg_pg {t : Tg} {e : Expr} (hc : X.calm = true) (hN : X.N.Nodup) (hf : ∀ x, Loc X.env.scope x → X.fn x = true ∨ X.env.scope.names.lookup x = some .local) (h : tgOk X.N X.env.scope t e = true) : PG X e (gOf X.K t) := by
  cases t with
  | nm i =>
    cases e with
    | Name x p =>
      obtain ⟨h1, h2⟩ := Bool.and_eq_true_iff.mp h
      exact pg_name hN (of_decide_eq_true h1) (loc_of h2) (hf x (loc_of h2))
    | _ => cases h
  | tp ix =>
    cases e with
    | Tuple es k p =>
      obtain ⟨q1, q2⟩ := tgs_pg hN hf h
      exact pg_tup hc q1 ((asgEach_len es).trans q2.symm) (asgEach_none h)
    | _ => cases h
end
end BF
set_option Elab.async false
set_option linter.all false
set_option autoImplicit false
set_option maxRecDepth 100000
set_option maxHeartbeats 2000000
namespace BF
open PySem PySem.Spec PyProof.Rows L2
/-! ### list comprehensions -/
def wipeO {α : Type} (l : List (Option α)) : List Nat → List (Option α)
  | [] => l
  | v :: vs => (wipeO l vs).set v none
theorem wipeO_len {α : Type} (l : List (Option α)) : ∀ vs : List Nat, (wipeO l vs).length = l.length
  | [] => rfl
  | v :: vs => by unfold wipeO; rw [List.length_set, wipeO_len l vs]
theorem wipe_eq (σ : Sl) : ∀ vs : List Nat, wipe σ vs = wipeO σ vs
  | [] => rfl
  | v :: vs => by unfold wipe wipeO; rw [wipe_eq σ vs]
theorem wipeO_get {α : Type} (l : List (Option α)) : ∀ (vs : List Nat) (j : Nat), (wipeO l vs)[j]? = if j ∈ vs then (l[j]?).map (fun _ => none) else l[j]?
  | [], j => by simp [wipeO]
  | v :: vs, j => by
    unfold wipeO
    by_cases q : v = j
    · subst q
      by_cases hl : v < l.length
      · rw [List.getElem?_set_self (by rw [wipeO_len]; exact hl), if_pos (List.mem_cons_self ..), List.getElem?_eq_getElem hl]; rfl
      · rw [List.getElem?_eq_none (by rw [List.length_set, wipeO_len]; omega), List.getElem?_eq_none (by omega)]; simp
    · rw [List.getElem?_set_ne q, wipeO_get l vs j]
      by_cases m : j ∈ vs
      · rw [if_pos m, if_pos (List.mem_cons_of_mem _ m)]
      · rw [if_neg m, if_neg (fun z => (List.mem_cons.mp z).elim (fun e => q e.symm) m)]
def restL {α : Type} (a b : List (Option α)) : List Nat → List (Option α)
  | [] => b
  | j :: js => (restL a b js).set j ((a[j]?).getD none)
theorem restL_len {α : Type} (a b : List (Option α)) : ∀ vs : List Nat, (restL a b vs).length = b.length
  | [] => rfl
  | v :: vs => by unfold restL; rw [List.length_set, restL_len a b vs]
theorem restL_get {α : Type} {a b : List (Option α)} (h : a.length = b.length) : ∀ (vs : List Nat) (j : Nat), (restL a b vs)[j]? = if j ∈ vs then a[j]? else b[j]?
  | [], j => by simp [restL]
  | v :: vs, j => by
    unfold restL
    by_cases q : v = j
    · subst q
      by_cases hl : v < b.length
      · rw [List.getElem?_set_self (by rw [restL_len]; exact hl), if_pos (List.mem_cons_self ..), List.getElem?_eq_getElem (by omega)]; rfl
      · rw [List.getElem?_eq_none (by rw [List.length_set, restL_len]; omega), List.getElem?_eq_none (by omega), List.getElem?_eq_none (by omega)]; simp
    · rw [List.getElem?_set_ne q, restL_get h vs j]
      by_cases m : j ∈ vs
      · rw [if_pos m, if_pos (List.mem_cons_of_mem _ m)]
      · rw [if_neg m, if_neg (fun z => (List.mem_cons.mp z).elim (fun e => q e.symm) m)]
section
variable {G : Type}
def wipeS (s : Sg G) (own : List Nat) : Sg G := { s with sl := wipeO s.sl own }
def restS (own : List Nat) (s1 s2 : Sg G) : Sg G := { s2 with sl := restL s1.sl s2.sl own }
/-- the turns of a comprehension -/
def lcL (t : Tg) (ft fe : Sg G → Rs G Ov) (own : List Nat) : List D → Sg G → Rs G (List D)
  | [], s => .ok [] s
  | d :: ds, s => match asgT t d s with
    | none => .no
    | some s1 => (match ft s1 with
      | .ok x s2 => (match tst s2 x with
        | some true => (match fe s2 with
          | .ok y s3 => (match use s3 y with
            | .ok r s4 => (lcL t ft fe own ds (wipeS s4 own)).bind fun rs s5 => .ok (r :: rs) s5
            | _ => .no)
          | _ => .no)
        | some false => lcL t ft fe own ds (wipeS s2 own)
        | none => .no)
      | _ => .no)
def evLc (fi : Sg G → Rs G (List D)) (t : Tg) (ft fe : Sg G → Rs G Ov) (own : List Nat) (s : Sg G) : Rs G Ov := (fi s).bind fun ds s1 => if ds.length ≤ sizeLine then
    (lcL t ft fe own ds (wipeS s1 own)).bind fun rs s2 => .ok (.fr (.lst rs)) (restS own s1 s2) else .no
end
section
variable {G : Type} {X : Cx} {K : Env1} {T : Gt G} {W : WX1} {tg a b c e : Expr} {es : List Expr} {fa fb fc : Sg G → Rs G Ov} {fl : Sg G → Rs G (List Ov)} {pos p2 p3 : Pos} {F H F1 H1 Fn Hn : Hp} {s s1 sn : Sg G} {σ : Sl}
theorem Rl.wipe (R : Rl K T F H s σ) (own : List Nat) : Rl K T F H (wipeS s own) (L2.wipe σ own) := by
  have g1 : ∀ (j : Nat) y, (wipeS s own).sl[j]? = some (some y) → j ∉ own ∧ s.sl[j]? = some (some y) := fun j y h => by
    have h : (wipeO s.sl own)[j]? = some (some y) := h
    rw [wipeO_get] at h
    by_cases m : j ∈ own
    · rw [if_pos m] at h
      cases q : s.sl[j]? with
      | none => rw [q] at h; cases h
      | some z => rw [q] at h; cases h
    · rw [if_neg m] at h; exact ⟨m, h⟩
  have g2 : ∀ (j : Nat), j ∉ own → (L2.wipe σ own)[j]? = σ[j]? := fun j m => by rw [wipe_eq, wipeO_get, if_neg m]
  refine ⟨R.sub, ?_, fun i d h => ?_, fun i d h => ?_, fun i j d e p h1 h2 h3 h4 => ?_, R.gs, R.gf⟩
  · show (wipeO s.sl own).length = _
    rw [wipeO_len, wipe_length]; exact R.len
  · obtain ⟨m, h⟩ := g1 i _ h
    rw [g2 i m]; exact R.val i d h
  · obtain ⟨m, h⟩ := g1 i _ h
    rw [g2 i m]; exact R.own i d h
  · obtain ⟨m1, h1⟩ := g1 i _ h1
    obtain ⟨m2, h2⟩ := g1 j _ h2
    rw [g2 i m1] at h3
    rw [g2 j m2] at h4
    exact R.inj i j d e p h1 h2 h3 h4
theorem wipe_ownd {own : List Nat} {a : Addr} (h : Ownd (wipeS s own) (L2.wipe σ own) a) : Ownd s σ a ∧ ∃ (i : Nat) (d : D), i ∉ own ∧ s.sl[i]? = some (some (true, d)) ∧ σ[i]? = some (some (.ref a)) := by
  obtain ⟨j, d, h1, h2⟩ := h
  have h1 : (wipeO s.sl own)[j]? = some (some (true, d)) := h1
  rw [wipeO_get] at h1
  by_cases m : j ∈ own
  · rw [if_pos m] at h1
    cases q : s.sl[j]? with
    | none => rw [q] at h1; cases h1
    | some z => rw [q] at h1; cases h1
  · rw [if_neg m] at h1
    rw [wipe_eq, wipeO_get, if_neg m] at h2
    exact ⟨⟨j, d, h1, h2⟩, j, d, m, h1, h2⟩
/-- the block is left: the slots of its own names are as they were -/
theorem Rl.unwipe {own : List Nat} (R1 : Rl K T F1 H1 s1 σ) (Rn : Rl K T Fn Hn sn (L2.wipe σ own)) (S : Stp T F1 H1 (wipeS s1 own) (L2.wipe σ own) Fn Hn sn (L2.wipe σ own)) :
    Rl K T Fn Hn (restS own s1 sn) σ ∧ Stp T F1 H1 s1 σ Fn Hn (restS own s1 sn) σ ∧ ∀ a, Ownd (restS own s1 sn) σ a → Ownd s1 σ a ∨ Ownd sn (L2.wipe σ own) a := by
  have hl : s1.sl.length = sn.sl.length := by
    have e1 := R1.len
    have e2 := Rn.len
    rw [wipe_length] at e2
    omega
  have gr : ∀ j : Nat, (restS own s1 sn).sl[j]? = if j ∈ own then s1.sl[j]? else sn.sl[j]? := fun j => restL_get hl own j
  have g2 : ∀ (j : Nat), j ∉ own → (L2.wipe σ own)[j]? = σ[j]? := fun j m => by rw [wipe_eq, wipeO_get, if_neg m]
  have oldOwn : ∀ (i : Nat) d p, i ∈ own → s1.sl[i]? = some (some (true, d)) → σ[i]? = some (some (.ref p)) → ¬ Ownd (wipeS s1 own) (L2.wipe σ own) p := fun i d p hi h1 h2 z => by
    obtain ⟨_, j, d', m, q1, q2⟩ := wipe_ownd z
    have := R1.inj i j d d' p h1 q1 h2 q2
    subst this
    exact m hi
  have oldFacts : ∀ (i : Nat) d p, i ∈ own → s1.sl[i]? = some (some (true, d)) → σ[i]? = some (some (.ref p)) → Fn p = none ∧ Hn p = H1 p ∧ H1 p ≠ none := fun i d p hi h1 h2 => by
    obtain ⟨p', e1, n, nf, sh⟩ := R1.own i d h1
    rw [h2] at e1; cases e1
    have no := oldOwn i d p hi h1 h2
    refine ⟨?_, ?_, sh.some⟩
    · apply Classical.byContradiction
      intro z
      rcases S.new p z with z | z | z
      · exact z n
      · exact sh.some z
      · exact no z
    · cases e : H1 p with
      | none => exact (sh.some e).elim
      | some o => exact S.keep p o e no nf
  have ow : ∀ a, Ownd (restS own s1 sn) σ a → Ownd s1 σ a ∨ Ownd sn (L2.wipe σ own) a := fun a ⟨j, d, h1, h2⟩ => by
    rw [gr] at h1
    by_cases m : j ∈ own
    · rw [if_pos m] at h1; exact .inl ⟨j, d, h1, h2⟩
    · rw [if_neg m] at h1; exact .inr ⟨j, d, h1, by rw [g2 j m]; exact h2⟩
  refine ⟨⟨Rn.sub, ?_, fun i d h => ?_, fun i d h => ?_, fun i j d e p h1 h2 h3 h4 => ?_, Rn.gs, Rn.gf⟩, ⟨S.le, fun a o h no nf => S.keep a o h (fun z => no (wipe_ownd z).1) nf, fun a h => ?_, fun a h => ?_, fun i y h => ?_, S.grow⟩, ow⟩
  · show (restL s1.sl sn.sl own).length = _
    rw [restL_len, ← hl]; exact R1.len
  · rw [gr] at h
    by_cases m : i ∈ own
    · rw [if_pos m] at h
      obtain ⟨v, e1, e2⟩ := R1.val i d h
      exact ⟨v, e1, e2.mono S.le⟩
    · rw [if_neg m] at h
      obtain ⟨v, e1, e2⟩ := Rn.val i d h
      rw [g2 i m] at e1
      exact ⟨v, e1, e2⟩
  · rw [gr] at h
    by_cases m : i ∈ own
    · rw [if_pos m] at h
      obtain ⟨p, e1, n, nf, sh⟩ := R1.own i d h
      obtain ⟨f1, f2, f3⟩ := oldFacts i d p m h e1
      exact ⟨p, e1, f1, nf, sh.mono S.le f2⟩
    · rw [if_neg m] at h
      obtain ⟨p, e1, n⟩ := Rn.own i d h
      rw [g2 i m] at e1
      exact ⟨p, e1, n⟩
  · rw [gr] at h1 h2
    have cross : ∀ (i j : Nat) d e, i ∈ own → j ∉ own → s1.sl[i]? = some (some (true, d)) → sn.sl[j]? = some (some (true, e)) → σ[i]? = some (some (.ref p)) → σ[j]? = some (some (.ref p)) → False := fun i j d e hi hj h1 h2 h3 h4 => by
      have o : Ownd sn (L2.wipe σ own) p := ⟨j, e, h2, by rw [g2 j hj]; exact h4⟩
      rcases S.own p o with z | z
      · exact oldOwn i d p hi h1 h3 z
      · exact (oldFacts i d p hi h1 h3).2.2 z
    by_cases m1 : i ∈ own
    · by_cases m2 : j ∈ own
      · rw [if_pos m1] at h1
        rw [if_pos m2] at h2
        exact R1.inj i j d e p h1 h2 h3 h4
      · rw [if_pos m1] at h1
        rw [if_neg m2] at h2
        exact (cross i j d e m1 m2 h1 h2 h3 h4).elim
    · by_cases m2 : j ∈ own
      · rw [if_neg m1] at h1
        rw [if_pos m2] at h2
        exact (cross j i e d m2 m1 h2 h1 h4 h3).elim
      · rw [if_neg m1] at h1
        rw [if_neg m2] at h2
        exact Rn.inj i j d e p h1 h2 (by rw [g2 i m1]; exact h3) (by rw [g2 j m2]; exact h4)
  · rcases S.new a h with z | z | z
    · exact .inl z
    · exact .inr (.inl z)
    · exact .inr (.inr (wipe_ownd z).1)
  · rcases ow a h with z | z
    · exact .inl z
    · rcases S.own a z with z | z
      · exact .inl (wipe_ownd z).1
      · exact .inr z
  · rw [gr]
    by_cases m : i ∈ own
    · rw [if_pos m]; exact ⟨y, h⟩
    · rw [if_neg m]
      refine S.kp i y ?_
      show (wipeO s1.sl own)[i]? = _
      rw [wipeO_get, if_neg m]; exact h
/-- an object that is nobody's is changed -/
theorem Rl.updN {p : Addr} {o : HO} (R : Rl K T F H s σ) (n : F p = none) (nf : ¬ T.fp p) (no : ¬ Ownd s σ p) : Rl K T F (upd H p o) s σ := by
  refine ⟨fun a u e => ?_, R.len, R.val, fun i d e => ?_, R.inj, T.dep _ _ _ R.gs fun a ha => upd_ne (fun (z : a = p) => nf (by rw [← z]; exact ha)), R.gf⟩
  · have ne : a ≠ p := fun z => by rw [z, n] at e; cases e
    rw [upd_ne ne]; exact R.sub a u e
  · obtain ⟨q, h1, h2, h3, h4⟩ := R.own i d e
    have ne : q ≠ p := fun z => no ⟨i, d, e, by rw [← z]; exact h1⟩
    exact ⟨q, h1, h2, h3, h4.mono (Le.refl _) (upd_ne ne)⟩
theorem Stp.updN {F' H' : Hp} {s' : Sg G} {σ' : Sl} {p : Addr} {o : HO} (S : Stp T F H s σ F' H' s' σ') (h : H p = Option.none) : Stp T F H s σ F' (upd H' p o) s' σ' := by
  refine ⟨S.le, fun a u e no nf => ?_, S.new, S.own, S.kp, fun a e => ?_⟩
  · have ne : a ≠ p := fun z => by rw [z, h] at e; cases e
    rw [upd_ne ne]; exact S.keep a u e no nf
  · by_cases q : a = p
    · subst q; rw [upd_same]; exact fun z => nomatch z
    · rw [upd_ne q]; exact S.grow a e
/-- tests of a comprehension -/
def wpTs (X : Cx) : List Expr → TT
  | [] => tYes
  | [c] => wpT X c
  | _ => fun _ _ _ => False
theorem pts_self (X : Cx) : ∀ {ifs : List Expr}, ifs.length ≤ 1 → PTs X ifs (wpTs X ifs)
  | [], _ => pts_nil
  | [c], _ => pts_one (pt_self X c)
  | _ :: _ :: _, h => by simp at h
def STs (X : Cx) (K : Env1) (T : Gt G) (W : WX1) (ifs : List Expr) (f : Sg G → Rs G Ov) : Prop := ∀ F H σ s Q, Rl K T F H s σ → PstT K T W F H s σ (f s) Q → wpTs X ifs σ H Q
theorem sts_nil : STs X K T W [] (evC (G := G) (.bl true)) := fun F H σ s Q R h => h F H (Stp.refl ..) R
theorem sts_one (h : ST X K T W c fc) : STs X K T W [c] fc := h
/-- nothing is raised out of a comprehension -/
abbrev W0 : WX1 := fun _ _ _ _ => False
theorem lc_core1 {fi : Sg G → Rs G (List D)} {t : Tg} {ft fe : Sg G → Rs G Ov} {own : List Nat} {wi : TI} {tt : TT} {te : TE} {Q : VK}
    (hi : ∀ F H σ s R, Rl K T F H s σ → PstI K T W F H s σ (fi s) R → wi σ H R) (ht : ∀ F H σ s Q, Rl K T F H s σ → PstT K T W0 F H s σ (ft s) Q → tt σ H Q) (he : ∀ F H σ s Q, Rl K T F H s σ → PstE K T W0 F H s σ (fe s) Q → te σ H Q)
    (ho : tgIn t own) (hk : K.K = X.K) (R : Rl K T F H s σ) (h : PstE K T W F H s σ (evLc fi t ft fe own s) Q) : tLc wi (gOf X.K t) tt te own σ H Q := by
  refine hi F H σ s _ R ?_
  unfold evLc at h
  cases q : fi s with
  | no => rw [q] at h; exact h.elim
  | er x g => rw [q] at h; exact h
  | ok ds s1 =>
    rw [q] at h
    intro J F1 H1 S1 R1 hJ D nD
    have h : PstE K T W F H s σ (if ds.length ≤ sizeLine then (lcL t ft fe own ds (wipeS s1 own)).bind fun rs s2 => .ok (.fr (.lst rs)) (restS own s1 s2) else .no) Q := h
    by_cases hz : ds.length ≤ sizeLine
    · rw [if_pos hz] at h
      have h1 := PstE.step S1 R R1 h
      obtain ⟨fD, npD, noD⟩ := R1.free nD
      have Rw := R1.wipe own
      obtain ⟨Rw2, Sw2⟩ := Rw.new (o := .lst []) nD
      refine lc_it hJ (fun i Hi => ∃ Fi si acc rs, Rl K T Fi Hi si (L2.wipe σ own) ∧ Stp T F1 H1 (wipeS s1 own) (L2.wipe σ own) Fi Hi si (L2.wipe σ own) ∧ Fi D = none ∧ ¬ Ownd si (L2.wipe σ own) D ∧ Hi D = some (.lst acc) ∧ Reps K Fi acc rs ∧ rs.length ≤ i ∧ (∀ (j : Nat) y, si.sl[j]? = some (some y) → j ∉ own) ∧
        PstE K T W F1 H1 s1 σ ((lcL t ft fe own (ds.drop i) si).bind fun rs' s2 => .ok (.fr (.lst (rs ++ rs'))) (restS own s1 s2)) Q) ?_ (fun i Hi _ ⟨Fi, si, acc, rs, Ri, Si, _⟩ => Si.le.trans Ri.sub) (fun i x Hi H' hlt p y => ?_) (fun Hi p => ?_)
      · have wz : ∀ (j : Nat) y, (wipeS s1 own).sl[j]? = some (some y) → j ∉ own := fun j y hj m => by
          have hj : (wipeO s1.sl own)[j]? = some (some y) := hj
          rw [wipeO_get, if_pos m] at hj
          cases q : s1.sl[j]? with
          | none => rw [q] at hj; cases hj
          | some z => rw [q] at hj; cases hj
        refine ⟨F1, wipeS s1 own, [], [], Rw2, Sw2, fD, fun z => noD (wipe_ownd z).1, upd_same, .nil, Nat.le_refl _, wz, ?_⟩
        rw [List.drop_zero]
        exact h1
      · obtain ⟨Fi, si, acc, rs, Ri, Si, fDi, noDi, aDi, rep, hrs, hwp, hp⟩ := p
        have hd : ds[i]? = some ds[i] := List.getElem?_eq_getElem hlt
        have edrop : ds.drop i = ds[i] :: ds.drop (i + 1) := List.drop_eq_getElem_cons hlt
        rw [edrop] at hp
        have y' : Yd K Fi ds i Hi x H' := by
          obtain ⟨d, e1, y⟩ := y
          refine ⟨d, e1, ?_⟩
          rcases y with ⟨e2, r⟩ | ⟨p, vs, es, e2, e3, e4, e5, r⟩
          · exact .inl ⟨e2, r.mono Si.le⟩
          · exact .inr ⟨p, vs, es, e2, e3, e4, e5, r.mono Si.le⟩
        cases q1 : asgT t ds[i] si with
        | none => unfold lcL at hp; rw [q1] at hp; exact hp.elim
        | some s2 =>
          rw [← hk]
          refine asgT_ok Ri hd y' q1 fun F2 σ2 R2 S2 l2 hw => ⟨?_, ?_⟩
          · have := hw own ho
            rw [this, wipe_eq, wipe_eq]
            apply List.ext_getElem?
            intro j
            rw [wipeO_get, wipeO_get]
            by_cases m : j ∈ own
            · rw [if_pos m, if_pos m]; cases σ[j]? <;> rfl
            · rw [if_neg m]
          · have ew : L2.wipe σ2 own = L2.wipe σ own := by
              have := hw own ho
              rw [this, wipe_eq, wipe_eq]
              apply List.ext_getElem?
              intro j
              rw [wipeO_get, wipeO_get]
              by_cases m : j ∈ own
              · rw [if_pos m, if_pos m]; cases σ[j]? <;> rfl
              · rw [if_neg m]
            have stay : ∀ {Fa Ha sa}, Stp T Fi Hi si (L2.wipe σ own) Fa Ha sa σ2 → Rl K T Fa Ha sa σ2 → Fa D = none ∧ ¬ Ownd sa σ2 D ∧ Ha D = some (.lst acc) := fun {Fa Ha sa} Sa Ra => by
              have nn : Hi D ≠ none := by rw [aDi]; exact fun z => nomatch z
              refine ⟨?_, fun z => ?_, Sa.keep D _ aDi noDi npD⟩
              · apply Classical.byContradiction
                intro z
                rcases Sa.new D z with z | z | z
                · exact z fDi
                · exact nn z
                · exact noDi z
              · rcases Sa.own D z with z | z
                · exact noDi z
                · exact nn z
            -- the next turn
            have next : ∀ {Fa Ha sa}, Stp T Fi Hi si (L2.wipe σ own) Fa Ha sa σ2 → Rl K T Fa Ha sa σ2 → Rl K T Fa Ha (wipeS sa own) (L2.wipe σ own) ∧ Stp T F1 H1 (wipeS s1 own) (L2.wipe σ own) Fa Ha (wipeS sa own) (L2.wipe σ own) ∧ ¬ Ownd (wipeS sa own) (L2.wipe σ own) D ∧ (∀ (j : Nat) y, (wipeS sa own).sl[j]? = some (some y) → j ∉ own) := fun {Fa Ha sa} Sa Ra => by
              have Ra' : Rl K T Fa Ha (wipeS sa own) (L2.wipe σ own) := by rw [← ew]; exact Ra.wipe own
              have Sa' : Stp T Fi Hi si (L2.wipe σ own) Fa Ha (wipeS sa own) (L2.wipe σ own) := by
                refine ⟨Sa.le, Sa.keep, Sa.new, fun a z => ?_, fun j y hj => ?_, Sa.grow⟩
                · rw [← ew] at z
                  rw [← ew]
                  have := Sa.own a (wipe_ownd z).1
                  rw [← ew] at this
                  exact this
                · obtain ⟨z, hz⟩ := Sa.kp j y hj
                  refine ⟨z, ?_⟩
                  show (wipeO sa.sl own)[j]? = _
                  rw [wipeO_get, if_neg (hwp j y hj)]; exact hz
              refine ⟨Ra', Si.trans Sa' Rw Ra', fun z => ?_, fun j y hj m => ?_⟩
              · rw [← ew] at z
                exact (stay Sa Ra).2.1 (wipe_ownd z).1
              · have hj : (wipeO sa.sl own)[j]? = some (some y) := hj
                rw [wipeO_get, if_pos m] at hj
                cases q : sa.sl[j]? with
                | none => rw [q] at hj; cases hj
                | some z => rw [q] at hj; cases hj
            unfold lcL at hp
            rw [q1] at hp
            simp only [] at hp
            refine ht F2 H' σ2 s2 _ R2 ?_
            cases q2 : ft s2 with
            | no => rw [q2] at hp; exact hp.elim
            | er x g => rw [q2] at hp; exact hp.elim
            | ok x s3 =>
              rw [q2] at hp
              simp only [] at hp
              show (match tst s3 x with
                | some b => ∀ F' H'', Stp T F2 H' s2 σ2 F' H'' s3 σ2 → Rl K T F' H'' s3 σ2 → _
                | none => False)
              cases q3 : tst s3 x with
              | none => rw [q3] at hp; exact hp.elim
              | some bb =>
                rw [q3] at hp
                intro F3 H3 S3 R3
                have S13 := S2.trans S3 Ri R3
                cases bb with
                | false =>
                  rw [if_neg Bool.false_ne_true]
                  obtain ⟨n1, n2, n3, n4⟩ := next S13 R3
                  obtain ⟨k1, k2, k3⟩ := stay S13 R3
                  exact ⟨F3, wipeS s3 own, acc, rs, n1, n2, k1, n3, k3, rep.mono S13.le, by omega, n4, hp⟩
                | true =>
                  rw [if_pos rfl]
                  simp only [] at hp
                  refine he F3 H3 σ2 s3 _ R3 ?_
                  cases q4 : fe s3 with
                  | no => rw [q4] at hp; exact hp.elim
                  | er x g => rw [q4] at hp; exact hp.elim
                  | ok yv s4 =>
                    rw [q4] at hp
                    simp only [] at hp
                    intro w F4 H4 S4 R4 r4
                    cases q5 : use s4 yv with
                    | no => rw [q5] at hp; exact hp.elim
                    | er x g => rw [q5] at hp; exact hp.elim
                    | ok rr s5 =>
                      rw [q5] at hp
                      simp only [] at hp
                      obtain ⟨F5, R5, S5, p5⟩ := r4.used S4 R3 R4 q5
                      have S15 := S13.trans S5 Ri R5
                      obtain ⟨n1, n2, n3, n4⟩ := next S15 R5
                      obtain ⟨k1, k2, k3⟩ := stay S15 R5
                      refine ⟨acc, k3, ?_, F5, wipeS s5 own, acc ++ [w], rs ++ [rr], n1.updN k1 npD n3, n2.updN nD, k1, n3, upd_same, (rep.mono S15.le).append (.cons p5 .nil), by simp; omega, n4, ?_⟩
                      · rw [rep.length]; omega
                      · cases q6 : lcL t ft fe own (ds.drop (i + 1)) (wipeS s5 own) with
                        | no => rw [q6] at hp; exact hp.elim
                        | er x g => rw [q6] at hp; exact hp
                        | ok rs' s6 =>
                          rw [q6] at hp
                          have hp : PstE K T W F1 H1 s1 σ (.ok (.fr (.lst (rs ++ rr :: rs'))) (restS own s1 s6)) Q := hp
                          show PstE K T W F1 H1 s1 σ (.ok (.fr (.lst (rs ++ [rr] ++ rs'))) (restS own s1 s6)) Q
                          rw [List.append_assoc]
                          exact hp
      · obtain ⟨Fi, si, acc, rs, Ri, Si, fDi, noDi, aDi, rep, hrs, hwp, hp⟩ := p
        rw [List.drop_length] at hp
        have hp : PstE K T W F1 H1 s1 σ (.ok (.fr (.lst (rs ++ []))) (restS own s1 si)) Q := hp
        rw [List.append_nil] at hp
        obtain ⟨u1, u2, u3⟩ := R1.unwipe Ri Si
        exact hp (.ref D) Fi Hi u2 u1 ⟨D, rfl, nD, fDi, npD, fun z => (u3 D z).elim noD noDi, acc, aDi, rep⟩
    · rw [if_neg hz] at h; exact h.elim
end
end BF
set_option Elab.async false
set_option linter.all false
set_option autoImplicit false
set_option maxRecDepth 100000
set_option maxHeartbeats 2000000
namespace BF
open PySem PySem.Spec PyProof.Rows L2
def notSet : Expr → Bool
  | .Set _ _ _ => false
  | _ => true
theorem folded_of {e : Expr} (h : notSet e = true) (env : Env) (x : Value) : foldedSetIterable e env x = pure x := by
  cases e <;> first | rfl | cases h
section
variable {G : Type} {X : Cx} {K : Env1} {T : Gt G} {W : WX1} {tg a b c e elt iter : Expr} {es ifs : List Expr} {fa fb fc ft fe : Sg G → Rs G Ov} {fl : Sg G → Rs G (List Ov)} {fi : Sg G → Rs G (List D)} {pos p2 p3 : Pos} {F H F1 H1 : Hp} {s s1 : Sg G} {σ : Sl} {t : Tg} {scope : Scope} {own : List (Str × Nat)}
/-- a comprehension's parts, in its block -/
structure LcOk (X : Cx) (K : Env1) (T : Gt G) (W : WX1) (elt tg iter : Expr) (ifs : List Expr) (scope : Scope) (own : List (Str × Nat)) (fi : Sg G → Rs G (List D)) (t : Tg) (ft fe : Sg G → Rs G Ov) : Prop where
  kk : K.K = X.K
  calm : X.calm = true
  nd : X.N.Nodup
  it : SI X K T W tg iter fi
  ok : BlkOk X.N X.env.scope scope own
  tgt : ∀ (s : Shared) (H : Hp) (C : Addr) (cl : List (Str × Addr)) (fp : List Addr), PG (X.blk s H scope (compEnvC scope cl C X.env) fp) tg (gOf X.K t)
  ifl : ifs.length ≤ 1
  tst : ∀ (s : Shared) (H : Hp) (C : Addr) (cl : List (Str × Addr)) (fp : List Addr), STs (X.blk s H scope (compEnvC scope cl C X.env) fp) K T W0 ifs ft
  elt : ∀ (s : Shared) (H : Hp) (C : Addr) (cl : List (Str × Addr)) (fp : List Addr), SE (X.blk s H scope (compEnvC scope cl C X.env) fp) K T W0 elt fe
  ns : notSet iter = true
  tow : tgIn t (own.map (·.2))
/-- their readings, whatever the block -/
def bTs (X : Cx) (ifs : List Expr) (scope : Scope) : TT := fun σ H Q => ∀ (s : Shared) (H0 : Hp) (C : Addr) (cl : List (Str × Addr)) (fp : List Addr), wpTs (X.blk s H0 scope (compEnvC scope cl C X.env) fp) ifs σ H Q
def bE (X : Cx) (elt : Expr) (scope : Scope) : TE := fun σ H Q => ∀ (s : Shared) (H0 : Hp) (C : Addr) (cl : List (Str × Addr)) (fp : List Addr), wpE (X.blk s H0 scope (compEnvC scope cl C X.env) fp) elt σ H Q
theorem LcOk.pts (L : LcOk X K T W elt tg iter ifs scope own fi t ft fe) : ∀ (s : Shared) (H : Hp) (C : Addr) (cl : List (Str × Addr)) (fp : List Addr), PTs (X.blk s H scope (compEnvC scope cl C X.env) fp) ifs (bTs X ifs scope) := fun s H C cl fp => by
  refine ⟨fun pins s0 σ0 H0 Q0 I h => (pts_self (X.blk s H scope (compEnvC scope cl C X.env) fp) L.ifl).run pins s0 σ0 H0 Q0 I (h s H C cl fp)⟩
theorem LcOk.pe (L : LcOk X K T W elt tg iter ifs scope own fi t ft fe) : ∀ (s : Shared) (H : Hp) (C : Addr) (cl : List (Str × Addr)) (fp : List Addr), PE (X.blk s H scope (compEnvC scope cl C X.env) fp) elt (bE X elt scope) := fun s H C cl fp =>
  ⟨fun pins s0 σ0 H0 Q0 I h => h s H C cl fp pins s0 I⟩
theorem LcOk.core (L : LcOk X K T W elt tg iter ifs scope own fi t ft fe) {Q : VK} (R : Rl K T F H s σ) (h : PstE K T W F H s σ (evLc fi t ft fe (own.map (·.2)) s) Q) : tLc (wpI X tg iter) (gOf X.K t) (bTs X ifs scope) (bE X elt scope) (own.map (·.2)) σ H Q :=
  lc_core1 (fun F H σ s R' R h => L.it F H σ s R' R h) (fun F H σ s Q R h s0 H0 C cl fp => L.tst s0 H0 C cl fp F H σ s Q R h) (fun F H σ s Q R h s0 H0 C cl fp => L.elt s0 H0 C cl fp F H σ s Q R h) L.tow L.kk R h
theorem se_lc (L : LcOk X K T W elt tg iter ifs scope own fi t ft fe) : SE X K T W (.ListComp elt [⟨tg, iter, ifs, 0⟩] scope pos) (evLc fi t ft fe (own.map (·.2))) := fun F H σ s Q R h =>
  wpE_of (pe_lc L.calm L.nd (pi_self X tg iter) L.ok L.tgt L.pts L.pe (folded_of L.ns X.env)) (L.core R h)
end
/-! ### statements -/
inductive Ro (G : Type) where
  | nx (s : Sg G) | rt (d : D) (g : G) | bk (s : Sg G) | ct (s : Sg G) | er (x : Er) (g : G) | no
section
variable {G : Type}
def PstS (K : Env1) (T : Gt G) (W : WX1) (F H : Hp) (s : Sg G) (σ : Sl) (r : Ro G) (D : Ends) : Prop := match r with
  | .nx s' => ∀ F' H' σ', Stp T F H s σ F' H' s' σ' → Rl K T F' H' s' σ' → D.nx σ' H'
  | .bk s' => ∀ F' H' σ', Stp T F H s σ F' H' s' σ' → Rl K T F' H' s' σ' → D.bk σ' H'
  | .ct s' => ∀ F' H' σ', Stp T F H s σ F' H' s' σ' → Rl K T F' H' s' σ' → D.ct σ' H'
  | .rt d g => ∀ v F' H', Xst T F H s σ F' H' g → Rep K F' v d → D.rt v H'
  | .er x g => PstX K T W F H s σ x g
  | .no => False
def SS (X : Cx) (K : Env1) (T : Gt G) (W : WX1) (st : Stmt) (f : Sg G → Ro G) : Prop := ∀ F H σ s D, Rl K T F H s σ → PstS K T W F H s σ (f s) D → wpS X st D σ H
def SB (X : Cx) (K : Env1) (T : Gt G) (W : WX1) (st : List Stmt) (f : Sg G → Ro G) : Prop := ∀ F H σ s D, Rl K T F H s σ → PstS K T W F H s σ (f s) D → wpB X st D σ H
def exE (f : Sg G → Rs G Ov) (k : Ov → Sg G → Ro G) (s : Sg G) : Ro G := match f s with
  | .ok x s1 => k x s1
  | .er x g => .er x g
  | .no => .no
def exL (f : Sg G → Rs G (List Ov)) (k : List Ov → Sg G → Ro G) (s : Sg G) : Ro G := match f s with
  | .ok x s1 => k x s1
  | .er x g => .er x g
  | .no => .no
def exSeq (f g : Sg G → Ro G) (s : Sg G) : Ro G := match f s with
  | .nx s' => g s'
  | r => r
def exIf (c : Sg G → Rs G Ov) (a b : Sg G → Ro G) (s : Sg G) : Ro G := exE c (fun x s1 => match tst s1 x with
  | some q => if q = true then a s1 else b s1
  | none => .no) s
def exRet (f : Sg G → Rs G Ov) (s : Sg G) : Ro G := exE f (fun x s1 => match use s1 x with
  | .ok d s2 => .rt d s2.g
  | _ => .no) s
def asgO (s : Sg G) (i : Nat) (x : Ov) : Option (Sg G) := if i < s.sl.length then (match x with
    | .vl d => some (setS s i (some (false, d)))
    | .fr d => some (setS s i (some (true, d)))
    | .pl j => (match look s j with
      | some d => some (setS (frzS s j) i (some (false, d)))
      | none => none)) else none
def exAsg (i : Nat) (f : Sg G → Rs G Ov) (s : Sg G) : Ro G := exE f (fun x s1 => match asgO s1 i x with
  | some s2 => .nx s2
  | none => .no) s
/-- x.append(e), x an own list -/
def exApp (i : Nat) (f : Sg G → Rs G Ov) (s : Sg G) : Ro G := exE f (fun x s1 => match use s1 x with
  | .ok d s2 => (match s2.sl[i]? with
    | some (some (true, .lst ds)) => if ds.length < sizeLine then .nx (setS s2 i (some (true, .lst (ds ++ [d])))) else .no
    | _ => .no)
  | _ => .no) s
def forL (t : Tg) (body : Sg G → Ro G) : List D → Sg G → Ro G
  | [], s => .nx s
  | d :: ds, s => match asgT t d s with
    | none => .no
    | some s1 => (match body s1 with
      | .nx s2 => forL t body ds s2
      | .ct s2 => forL t body ds s2
      | .bk s2 => .nx s2
      | .rt d g => .rt d g
      | .er x g => .er x g
      | .no => .no)
def exFor (t : Tg) (fi : Sg G → Rs G (List D)) (body : Sg G → Ro G) (s : Sg G) : Ro G := match fi s with
  | .ok ds s1 => forL t body ds s1
  | .er x g => .er x g
  | .no => .no
def whL (c : Sg G → Rs G Ov) (body : Sg G → Ro G) : Nat → Sg G → Ro G
  | 0, _ => .no
  | n + 1, s => exE c (fun x s1 => match tst s1 x with
    | some true => (match body s1 with
      | .nx s2 => whL c body n s2
      | .ct s2 => whL c body n s2
      | .bk s2 => .nx s2
      | .rt d g => .rt d g
      | .er x g => .er x g
      | .no => .no)
    | some false => .nx s1
    | none => .no) s
end
section
variable {G : Type} {X : Cx} {K : Env1} {T : Gt G} {W : WX1} {tg a b c e elt iter : Expr} {es ifs : List Expr} {st : Stmt} {sts sts2 : List Stmt} {fa fb fc ft fe : Sg G → Rs G Ov} {f g : Sg G → Ro G} {fl : Sg G → Rs G (List Ov)} {fi : Sg G → Rs G (List D)} {pos p2 p3 : Pos} {F H F1 H1 : Hp} {s s1 : Sg G} {σ σ1 : Sl} {t : Tg} {scope : Scope} {own : List (Str × Nat)}
theorem Stp.xst {F' H' : Hp} {s' : Sg G} {σ' : Sl} (S : Stp T F H s σ F' H' s' σ') (R : Rl K T F' H' s' σ') : Xst T F H s σ F' H' s'.g := ⟨S.le, R.sub, S.keep, S.new, R.gs, R.gf⟩
theorem Xst.after {F' H' : Hp} {g' : G} (S : Stp T F H s σ F1 H1 s1 σ1) (R : Rl K T F H s σ) (q : Xst T F1 H1 s1 σ1 F' H' g') : Xst T F H s σ F' H' g' := by
  refine ⟨S.le.trans q.le, q.sub, fun a o e n nf => ?_, fun a n => ?_, q.gs, q.gf⟩
  · refine q.keep a o (S.keep a o e n nf) (fun z => ?_) nf
    rcases S.own a z with z | z
    · exact n z
    · rw [e] at z; cases z
  · rcases q.new a n with z | z | z
    · exact S.new a z
    · cases e : H a with
      | none => exact .inr (.inl rfl)
      | some o =>
        refine .inr (.inr ?_)
        apply Classical.byContradiction
        intro no
        by_cases nf : T.fp a
        · exact n (q.gf a nf)
        · rw [S.keep a o e no nf] at z; cases z
    · rcases S.own a z with z | z
      · exact .inr (.inr z)
      · exact .inr (.inl z)
theorem PstS.step {r : Ro G} {D : Ends} (S : Stp T F H s σ F1 H1 s1 σ1) (R : Rl K T F H s σ) (h : PstS K T W F H s σ r D) : PstS K T W F1 H1 s1 σ1 r D := by
  cases r with
  | no => exact h.elim
  | er x g => exact fun cls dd F' H' σ' q e => h cls dd F' H' σ' (q.after S R) e
  | nx s' => exact fun F' H' σ' S' R' => h F' H' σ' (S.trans S' R R') R'
  | bk s' => exact fun F' H' σ' S' R' => h F' H' σ' (S.trans S' R R') R'
  | ct s' => exact fun F' H' σ' S' R' => h F' H' σ' (S.trans S' R R') R'
  | rt d g => exact fun v F' H' q r => h v F' H' (q.after S R) r
/-- an expression, then what follows -/
theorem exE_core {k : Ov → Sg G → Ro G} {D : Ends} (hf : SE X K T W e fa) (R : Rl K T F H s σ) (h : PstS K T W F H s σ (exE fa k s) D) :
    wpE X e σ H (fun v H1 => ∃ F1 s1 x, Rl K T F1 H1 s1 σ ∧ Stp T F H s σ F1 H1 s1 σ ∧ RO K T H F1 H1 s1 σ v x ∧ PstS K T W F H s σ (k x s1) D) := by
  refine hf F H σ s _ R ?_
  unfold exE at h
  cases q : fa s with
  | no => rw [q] at h; exact h.elim
  | er x g => rw [q] at h; exact h
  | ok x s1 => rw [q] at h; exact fun v F1 H1 S1 R1 r1 => ⟨F1, s1, x, R1, S1, r1, h⟩
theorem exT_core {k : Bool → Sg G → Ro G} {D : Ends} (hf : ST X K T W e fa) (R : Rl K T F H s σ) (h : PstS K T W F H s σ (exE fa (fun x s1 => match tst s1 x with
    | some q => k q s1
    | none => .no) s) D) : wpT X e σ H (fun b H1 => ∃ F1 s1, Rl K T F1 H1 s1 σ ∧ Stp T F H s σ F1 H1 s1 σ ∧ PstS K T W F H s σ (k b s1) D) := by
  refine hf F H σ s _ R ?_
  unfold exE at h
  cases q : fa s with
  | no => rw [q] at h; exact h.elim
  | er x g => rw [q] at h; exact h
  | ok x s1 =>
    rw [q] at h
    show (match tst s1 x with
      | some b => ∀ F' H', Stp T F H s σ F' H' s1 σ → Rl K T F' H' s1 σ → _
      | none => False)
    simp only [] at h
    cases q2 : tst s1 x with
    | none => rw [q2] at h; exact h.elim
    | some b => rw [q2] at h; exact fun F' H' S' R' => ⟨F', s1, R', S', h⟩
theorem sb_nil : SB X K T W [] (fun s : Sg G => .nx s) := fun F H σ s D R h => wpB_of pss_nil (h F H σ (Stp.refl ..) R)
theorem sb_cons (h1 : SS X K T W st f) (h2 : SB X K T W sts g) : SB X K T W (st :: sts) (exSeq f g) := by
  intro F H σ s D R h
  refine wpB_of (pss_cons (ps_self X st) (pss_self X sts)) ?_
  refine h1 F H σ s _ R ?_
  unfold exSeq at h
  cases q : f s with
  | nx s' => rw [q] at h; exact fun F' H' σ' S' R' => h2 F' H' σ' s' D R' (PstS.step S' R h)
  | no => rw [q] at h; exact h
  | er x g => rw [q] at h; exact h
  | bk s' => rw [q] at h; exact h
  | ct s' => rw [q] at h; exact h
  | rt d g => rw [q] at h; exact h
theorem sb_one (h1 : SS X K T W st f) : SB X K T W [st] f := fun F H σ s D R h => wpB_of (pss_one (ps_self X st)) (h1 F H σ s D R h)
theorem ss_pass : SS X K T W (.Pass pos) (fun s : Sg G => .nx s) := fun F H σ s D R h => wpS_of ps_pass (h F H σ (Stp.refl ..) R)
theorem ss_break : SS X K T W (.Break pos) (fun s : Sg G => .bk s) := fun F H σ s D R h => wpS_of ps_break (h F H σ (Stp.refl ..) R)
theorem ss_if (hc : ST X K T W c fc) (ha : SB X K T W sts f) (hb : SB X K T W sts2 g) : SS X K T W (.If c sts sts2 pos) (exIf fc f g) := by
  intro F H σ s D R h
  refine wpS_of (ps_if (pt_self X c) (pss_self X sts) (pss_self X sts2)) ?_
  refine (show ∀ {Q Q' : Bool → Hp → Prop}, wpT X c σ H Q → (∀ b H, Q b H → Q' b H) → wpT X c σ H Q' from fun h i pins s I => thn (h pins s I) fun b s1 ⟨H1, I1, q⟩ => ⟨H1, I1, i b H1 q⟩) (exT_core (k := fun q s1 => if q = true then f s1 else g s1) hc R h) fun b H1 ⟨F1, s1, R1, S1, q⟩ => ?_
  cases b with
  | true => rw [if_pos rfl] at q ⊢; exact ha F1 H1 σ s1 D R1 (PstS.step S1 R q)
  | false => rw [if_neg Bool.false_ne_true] at q ⊢; exact hb F1 H1 σ s1 D R1 (PstS.step S1 R q)
theorem ss_ret (hf : SE X K T W e fa) : SS X K T W (.Return (some e) pos) (exRet fa) := by
  intro F H σ s D R h
  refine wpS_of (ps_ret (pe_self X e)) (wp_mono (exE_core hf R h) fun v H1 ⟨F1, s1, x, R1, S1, r1, q⟩ => ?_)
  cases q2 : use s1 x with
  | no => rw [q2] at q; exact q.elim
  | er y g => rw [q2] at q; exact q.elim
  | ok d s2 =>
    rw [q2] at q
    obtain ⟨F2, R2, S2, p2⟩ := r1.used S1 R R1 q2
    exact q v F2 H1 (S2.xst R2) p2
theorem ss_retN : SS X K T W (.Return none pos) (fun s : Sg G => .rt .non s.g) := fun F H σ s D R h => wpS_of ps_retN (h .non F H ((Stp.refl T F H s σ).xst R) .non)
/-- the value is dropped -/
def exDrop (f : Sg G → Rs G Ov) (s : Sg G) : Ro G := exE f (fun _ s1 => .nx s1) s
theorem ss_expr (hs : swapsWith e none pos.line X.env = pure false) (hf : SE X K T W e fa) : SS X K T W (.Expr e pos) (exDrop fa) := by
  intro F H σ s D R h
  exact wpS_of (ps_expr (pe_self X e) hs) (wp_mono (exE_core hf R h) fun v H1 ⟨F1, s1, x, R1, S1, r1, q⟩ => q F1 H1 σ S1 R1)
theorem asgO_ok {i : Nat} {v : V} {x : Ov} {s2 : Sg G} (S : Stp T F H s σ F1 H1 s1 σ) (R : Rl K T F H s σ) (R1 : Rl K T F1 H1 s1 σ) (r : RO K T H F1 H1 s1 σ v x) (h : asgO s1 i x = some s2) :
    ∃ F2, Rl K T F2 H1 s2 (σ.set i (some v)) ∧ Stp T F H s σ F2 H1 s2 (σ.set i (some v)) := by
  unfold asgO at h
  split at h
  · rename_i hi
    cases x with
    | vl d =>
      cases h
      obtain ⟨R2, S2⟩ := R1.setV hi r
      exact ⟨F1, R2, S.trans S2 R R2⟩
    | fr d =>
      cases h
      obtain ⟨p, rfl, n0, n, nf, no, sh⟩ := r
      obtain ⟨R2, S2⟩ := R1.setO hi n0 S n nf no sh
      exact ⟨F1, R2, S2⟩
    | pl j =>
      simp only [] at h
      cases q : look s1 j with
      | none => rw [q] at h; cases h
      | some d =>
        rw [q] at h
        cases h
        have hu : use s1 (.pl j) = .ok d (frzS s1 j) := by
          show (match look s1 j with
            | some d => Rs.ok d (frzS s1 j)
            | none => Rs.no) = _
          rw [q]
        obtain ⟨F2, R2, S2, p2⟩ := RO.used S R R1 r hu
        obtain ⟨R3, S3⟩ := R2.setV (i := i) (by rw [frzS_len]; exact hi) p2
        exact ⟨F2, R3, S2.trans S3 R R3⟩
  · cases h
theorem ss_asg {i : Nat} {x : Str} {pos' : Pos} (hN : X.N.Nodup) (hi : X.N[i]? = some x) (hx : Loc X.env.scope x) (hfn : X.fn x = true ∨ X.env.scope.names.lookup x = some .local) (hs : swapsWith e (some (.Name x pos')) pos.line X.env = pure false) (hf : SE X K T W e fa) :
    SS X K T W (.Assign [.Name x pos'] e pos) (exAsg i fa) := by
  intro F H σ s D R h
  refine wpS_of (ps_set hN hi hx (pe_self X e) hs hfn) (wp_mono (exE_core hf R h) fun v H1 ⟨F1, s1, x, R1, S1, r1, q⟩ => ?_)
  cases q2 : asgO s1 i x with
  | none => rw [q2] at q; exact q.elim
  | some s2 =>
    rw [q2] at q
    obtain ⟨F2, R2, S2⟩ := asgO_ok S1 R R1 r1 q2
    exact q F2 H1 _ S2 R2
theorem ss_asgLc {i : Nat} {y : Str} {py : Pos} (hy : X.N[i]? = some y) (hyl : X.env.scope.names.lookup y = some .local) (hsw : swapsWith (.ListComp elt [⟨tg, iter, ifs, 0⟩] scope p2) (some (.Name y py)) pos.line X.env = pure true)
    (L : LcOk X K T W elt tg iter ifs scope own fi t ft fe) : SS X K T W (.Assign [.Name y py] (.ListComp elt [⟨tg, iter, ifs, 0⟩] scope p2) pos) (exAsg i (evLc fi t ft fe (own.map (·.2)))) := by
  intro F H σ s D R h
  refine wpS_of (ps_setLc L.calm L.nd hy hyl hsw (pi_self X tg iter) L.ok L.tgt L.pts L.pe (folded_of L.ns X.env)) ?_
  refine L.core R ?_
  unfold exAsg exE at h
  cases q : evLc fi t ft fe (own.map (·.2)) s with
  | no => rw [q] at h; exact h.elim
  | er x g => rw [q] at h; exact h
  | ok x s1 =>
    rw [q] at h
    intro v F1 H1 S1 R1 r1
    simp only [] at h
    cases q2 : asgO s1 i x with
    | none => rw [q2] at h; exact h.elim
    | some s2 =>
      rw [q2] at h
      obtain ⟨F2, R2, S2⟩ := asgO_ok S1 R R1 r1 q2
      exact h F2 H1 _ S2 R2
/-! loops -/
theorem ss_for (hp : PassesOwn (model X.prog X.w) X.A X.env X.xe) (hc : X.calm = true) (hk : K.K = X.K) (hi : SI X K T W tg iter fi) (hg : PG X tg (gOf X.K t)) (hb : SB X K T W sts f) (hns : notSet iter = true) : SS X K T W (.For tg iter sts [] pos) (exFor t fi f) := by
  intro F H σ s D R h
  refine wpS_of (ps_for hp hc (pi_self X tg iter) hg (pss_self X sts) (folded_of hns X.env)) (hi F H σ s _ R ?_)
  unfold exFor at h
  cases q : fi s with
  | no => rw [q] at h; exact h.elim
  | er x g => rw [q] at h; exact h
  | ok ds s1 =>
    rw [q] at h
    intro J F1 H1 S1 R1 hJ
    refine for_it hJ (fun i σi Hi => ∃ Fi si, Rl K T Fi Hi si σi ∧ Le F1 Fi ∧ PstS K T W Fi Hi si σi (forL t f (ds.drop i) si) D) ⟨F1, s1, R1, Le.refl _, by rw [List.drop_zero]; exact PstS.step S1 R h⟩ (fun i σi Hi _ ⟨Fi, si, Ri, l, _⟩ => l.trans Ri.sub) (fun i x σi Hi H' hlt p y => ?_) (fun σi Hi p => ?_)
    · obtain ⟨Fi, si, Ri, l, hp⟩ := p
      have hd : ds[i]? = some ds[i] := List.getElem?_eq_getElem hlt
      rw [List.drop_eq_getElem_cons hlt] at hp
      have y' : Yd K Fi ds i Hi x H' := by
        obtain ⟨d, e1, y⟩ := y
        refine ⟨d, e1, ?_⟩
        rcases y with ⟨e2, r⟩ | ⟨p, vs, es, e2, e3, e4, e5, r⟩
        · exact .inl ⟨e2, r.mono l⟩
        · exact .inr ⟨p, vs, es, e2, e3, e4, e5, r.mono l⟩
      unfold forL at hp
      cases q1 : asgT t ds[i] si with
      | none => rw [q1] at hp; exact hp.elim
      | some s2 =>
        rw [q1] at hp
        simp only [] at hp
        rw [← hk]
        refine asgT_ok Ri hd y' q1 fun F2 σ2 R2 S2 l2 _ => hb F2 H' σ2 s2 _ R2 ?_
        have hp2 := hp
        cases q2 : f s2 with
        | no => rw [q2] at hp; exact hp.elim
        | er x g => rw [q2] at hp; exact PstS.step S2 Ri hp
        | rt d g => rw [q2] at hp; exact PstS.step S2 Ri hp
        | bk s3 => rw [q2] at hp; exact PstS.step S2 Ri hp
        | nx s3 =>
          rw [q2] at hp
          exact fun F3 H3 σ3 S3 R3 => ⟨F3, s3, R3, (l.trans l2).trans S3.le, PstS.step (S2.trans S3 Ri R3) Ri hp⟩
        | ct s3 =>
          rw [q2] at hp
          exact fun F3 H3 σ3 S3 R3 => ⟨F3, s3, R3, (l.trans l2).trans S3.le, PstS.step (S2.trans S3 Ri R3) Ri hp⟩
    · obtain ⟨Fi, si, Ri, l, hp⟩ := p
      rw [List.drop_length] at hp
      exact hp Fi Hi σi (Stp.refl ..) Ri
theorem ss_while {n : Nat} (hp : PassesOwn (model X.prog X.w) X.A X.env X.xe) (hc : ST X K T W c fc) (hb : SB X K T W sts f) : SS X K T W (.While c sts [] pos) (whL fc f n) := by
  intro F H σ s D R h
  refine wpS_of (ps_while hp (pt_self X c) (pss_self X sts)) ⟨fun m σi Hi => ∃ Fi si, Rl K T Fi Hi si σi ∧ PstS K T W Fi Hi si σi (whL fc f m si) D, ⟨n, F, s, R, h⟩, fun m σi Hi p => ?_⟩
  obtain ⟨Fi, si, Ri, hq⟩ := p
  cases m with
  | zero => exact hq.elim
  | succ m =>
    have hq : PstS K T W Fi Hi si σi (exE fc (fun x s1 => match tst s1 x with
      | some b => (if b = true then (match f s1 with
        | .nx s2 => whL fc f m s2
        | .ct s2 => whL fc f m s2
        | .bk s2 => .nx s2
        | .rt d g => .rt d g
        | .er x g => .er x g
        | .no => .no) else .nx s1)
      | none => .no) si) D := by
      have e : whL fc f (m + 1) si = exE fc (fun x s1 => match tst s1 x with
        | some b => (if b = true then (match f s1 with
          | .nx s2 => whL fc f m s2
          | .ct s2 => whL fc f m s2
          | .bk s2 => .nx s2
          | .rt d g => .rt d g
          | .er x g => .er x g
          | .no => .no) else .nx s1)
        | none => .no) si := by
        show exE fc _ si = _
        congr 1
        funext x s1
        cases tst s1 x with
        | none => rfl
        | some b => cases b <;> rfl
      rw [← e]; exact hq
    refine (show ∀ {Q Q' : Bool → Hp → Prop}, wpT X c σi Hi Q → (∀ b H, Q b H → Q' b H) → wpT X c σi Hi Q' from fun h i pins s I => thn (h pins s I) fun b s1 ⟨H1, I1, q⟩ => ⟨H1, I1, i b H1 q⟩) (exT_core (k := fun b s1 => if b = true then (match f s1 with
        | .nx s2 => whL fc f m s2
        | .ct s2 => whL fc f m s2
        | .bk s2 => .nx s2
        | .rt d g => .rt d g
        | .er x g => .er x g
        | .no => .no) else .nx s1) hc Ri hq) fun b H1 ⟨F1, s1, R1, S1, q⟩ => ?_
    cases b with
    | false => rw [if_neg Bool.false_ne_true] at q ⊢; exact q F1 H1 σi S1 R1
    | true =>
      rw [if_pos rfl] at q ⊢
      refine ⟨fun σ' H' => ∃ F' s', Rl K T F' H' s' σ' ∧ PstS K T W F' H' s' σ' (whL fc f m s') D, fun σ' H' p => ⟨m, Nat.lt_succ_self m, p⟩, hb F1 H1 σi s1 _ R1 ?_⟩
      cases q2 : f s1 with
      | no => rw [q2] at q; exact q.elim
      | er x g => rw [q2] at q; exact PstS.step S1 Ri q
      | rt d g => rw [q2] at q; exact PstS.step S1 Ri q
      | bk s3 => rw [q2] at q; exact PstS.step S1 Ri q
      | nx s3 => rw [q2] at q; exact fun F3 H3 σ3 S3 R3 => ⟨F3, s3, R3, PstS.step (S1.trans S3 Ri R3) Ri q⟩
      | ct s3 => rw [q2] at q; exact fun F3 H3 σ3 S3 R3 => ⟨F3, s3, R3, PstS.step (S1.trans S3 Ri R3) Ri q⟩
end
end BF
set_option Elab.async false
set_option linter.all false
set_option autoImplicit false
set_option maxRecDepth 100000
set_option maxHeartbeats 2000000
namespace BF
open PySem PySem.Spec PyProof.Rows L2
section
variable {G : Type}
/-- slots among operands are used -/
def nrms (s : Sg G) : List Ov → Option (List Ov × Sg G)
  | [] => some ([], s)
  | .pl j :: xs => (look s j).bind fun d => (nrms (frzS s j) xs).map fun q => (.vl d :: q.1, q.2)
  | .vl d :: xs => (nrms s xs).map fun q => (.vl d :: q.1, q.2)
  | .fr d :: xs => (nrms s xs).map fun q => (.fr d :: q.1, q.2)
def asgsO : List Nat → List Ov → Sg G → Option (Sg G)
  | [], [], s => some s
  | i :: ix, x :: xs, s => (asgO s i x).bind fun s1 => asgsO ix xs s1
  | _, _, _ => none
/-- a, b = x, y -/
def exPar (ix : List Nat) (f : Sg G → Rs G (List Ov)) (s : Sg G) : Ro G := exL f (fun xs s1 => match nrms s1 xs with
  | some (ys, s2) => (match asgsO ix ys s2 with
    | some s3 => .nx s3
    | none => .no)
  | none => .no) s
/-- a, b = x, a tuple -/
def exUnp (t : Tg) (f : Sg G → Rs G Ov) (s : Sg G) : Ro G := exE f (fun x s1 => match use s1 x with
  | .ok d s2 => (match asgT t d s2 with
    | some s3 => .nx s3
    | none => .no)
  | _ => .no) s
end
def setAll : Sl → List Nat → List V → Sl
  | σ, i :: ix, v :: vs => setAll (σ.set i (some v)) ix vs
  | σ, _, _ => σ
section
variable {G : Type} {X : Cx} {K : Env1} {T : Gt G} {W : WX1} {tg a b c e elt iter : Expr} {es ifs : List Expr} {st : Stmt} {sts sts2 : List Stmt} {fa fb fc ft fe : Sg G → Rs G Ov} {f g : Sg G → Ro G} {fl : Sg G → Rs G (List Ov)} {fi : Sg G → Rs G (List D)} {pos p2 p3 : Pos} {F H F0 H0 F1 H1 : Hp} {s s0 s1 : Sg G} {σ σ0 σ1 : Sl} {t : Tg}
theorem ROs.step {F2 H2 : Hp} {s2 : Sg G} (S : Stp T F1 H1 s1 σ F2 H2 s2 σ) {vs : List V} {xs : List Ov} (r : ROs K T H0 F1 H1 s1 σ vs xs) : ROs K T H0 F2 H2 s2 σ vs xs := by
  induction r with
  | nil => exact .nil
  | cons a1 a2 a3 ih => exact .cons (a1.step S) a2 ih
theorem nrm_tag : ∀ {xs ys : List Ov} {s s' : Sg G}, nrms s xs = some (ys, s') → ys.length = xs.length ∧ (∀ y ∈ ys, ∀ j, y ≠ .pl j) ∧ ∀ (vs : List V) q, q ∈ vs.zip ys → ∀ e, q.2 = .fr e → (q.1, .fr e) ∈ vs.zip xs := by
  intro xs
  induction xs with
  | nil => intro ys s s' h; cases h; exact ⟨rfl, (fun y hy => by cases hy), fun vs q hq => by rw [List.zip_nil_right] at hq; cases hq⟩
  | cons x xs ih =>
    intro ys s s' h
    have fin : ∀ {z : Ov} {zs : List Ov} {s0 : Sg G} {w : Option (List Ov × Sg G)}, w = nrms s0 xs → (w.map fun q => (z :: q.1, q.2)) = some (ys, s') → (∀ j, z ≠ .pl j) → (∀ e, z = .fr e → x = .fr e) →
        ys.length = (x :: xs).length ∧ (∀ y ∈ ys, ∀ j, y ≠ .pl j) ∧ ∀ (vs : List V) q, q ∈ vs.zip ys → ∀ e, q.2 = .fr e → (q.1, .fr e) ∈ vs.zip (x :: xs) := by
      intro z zs s0 w hw hm hz hf
      cases q : w with
      | none => rw [q] at hm; cases hm
      | some r =>
        obtain ⟨r1, r2⟩ := r
        rw [q] at hm
        cases hm
        rw [q] at hw
        obtain ⟨h1, h2, h3⟩ := ih hw.symm
        refine ⟨by simp [h1], fun y hy j => ?_, fun vs q hq e he => ?_⟩
        · rcases List.mem_cons.mp hy with rfl | hy
          · exact hz j
          · exact h2 y hy j
        · cases vs with
          | nil => simp at hq
          | cons v vs =>
            rw [List.zip_cons_cons] at hq ⊢
            rcases List.mem_cons.mp hq with rfl | hq
            · rw [hf e he]; exact List.mem_cons_self ..
            · exact List.mem_cons_of_mem _ (h3 vs q hq e he)
    cases x with
    | vl d => exact fin (zs := []) rfl h (fun j z => nomatch z) fun e z => nomatch z
    | fr d => exact fin (zs := []) rfl h (fun j z => nomatch z) fun e z => by cases z; rfl
    | pl j =>
      have h : ((look s j).bind fun d => (nrms (frzS s j) xs).map fun q => (.vl d :: q.1, q.2)) = some (ys, s') := h
      cases q : look s j with
      | none => rw [q] at h; cases h
      | some d => rw [q] at h; exact fin (zs := []) rfl h (fun j z => nomatch z) fun e z => nomatch z
theorem ROs.nrm {xs : List Ov} : ∀ {vs : List V} {ys : List Ov} {F : Hp} {s s' : Sg G}, Rl K T F H s σ → ROs K T H0 F H s σ vs xs → nrms s xs = some (ys, s') → ∃ F', Rl K T F' H s' σ ∧ Stp T F H s σ F' H s' σ ∧ ROs K T H0 F' H s' σ vs ys := by
  induction xs with
  | nil => intro vs ys F s s' R r h; cases r; cases h; exact ⟨F, R, Stp.refl .., .nil⟩
  | cons x xs ih =>
    intro vs ys F s s' R r h
    have tag := nrm_tag h
    cases r with
    | @cons v vs _ _ h1 h2 h3 =>
      cases x with
      | vl d =>
        have h : (nrms s xs).map (fun q => (Ov.vl d :: q.1, q.2)) = some (ys, s') := h
        cases q : nrms s xs with
        | none => rw [q] at h; cases h
        | some r =>
          obtain ⟨r1, r2⟩ := r
          rw [q] at h
          cases h
          obtain ⟨F', R', S', r'⟩ := ih R h3 q
          exact ⟨F', R', S', .cons (h1.step S') (fun d e => nomatch e) r'⟩
      | fr d =>
        have h : (nrms s xs).map (fun q => (Ov.fr d :: q.1, q.2)) = some (ys, s') := h
        cases q : nrms s xs with
        | none => rw [q] at h; cases h
        | some r =>
          obtain ⟨r1, r2⟩ := r
          rw [q] at h
          cases h
          obtain ⟨F', R', S', r'⟩ := ih R h3 q
          refine ⟨F', R', S', .cons (h1.step S') (fun d' e' z hz e2 he2 => ?_) r'⟩
          cases e'
          exact h2 d rfl (z.1, .fr e2) ((nrm_tag q).2.2 vs z hz e2 he2) e2 rfl
      | pl j =>
        have h : ((look s j).bind fun d => (nrms (frzS s j) xs).map fun q => (.vl d :: q.1, q.2)) = some (ys, s') := h
        cases q0 : look s j with
        | none => rw [q0] at h; cases h
        | some d =>
          rw [q0] at h
          have h : (nrms (frzS s j) xs).map (fun q => (Ov.vl d :: q.1, q.2)) = some (ys, s') := h
          have hu : use s (.pl j) = .ok d (frzS s j) := by
            show (match look s j with
              | some d => Rs.ok d (frzS s j)
              | none => Rs.no) = _
            rw [q0]
          obtain ⟨F1, R1, S1, p1⟩ := RO.used (Stp.refl T F H s σ) R R (show RO K T H F H s σ v (.pl j) from h1) hu
          cases q : nrms (frzS s j) xs with
          | none => rw [q] at h; cases h
          | some r =>
            obtain ⟨r1, r2⟩ := r
            rw [q] at h
            cases h
            obtain ⟨F', R', S', r'⟩ := ih R1 (h3.step S1) q
            exact ⟨F', R', S1.trans S' R R', .cons (p1.mono S'.le) (fun d e => nomatch e) r'⟩
theorem ownd_set {i : Nat} {bb : Bool} {d : D} {v : V} {a : Addr} (hi : i < s.sl.length) (hl : s.sl.length = σ.length) (h : Ownd (setS s i (some (bb, d))) (σ.set i (some v)) a) : Ownd s σ a ∨ (bb = true ∧ v = .ref a) := by
  obtain ⟨j, x, h1, h2⟩ := h
  rw [setS_get _ _ _ _ hi] at h1
  by_cases q : j = i
  · subst q
    rw [if_pos rfl] at h1
    rw [List.getElem?_set_self (by omega)] at h2
    cases h1; cases h2
    exact .inr ⟨rfl, rfl⟩
  · rw [if_neg q] at h1
    rw [List.getElem?_set_ne (Ne.symm q)] at h2
    exact .inl ⟨j, x, h1, h2⟩
theorem asgsO_ok {ix : List Nat} : ∀ {vs : List V} {ys : List Ov} {s s' : Sg G} {σ : Sl}, Stp T F0 H0 s0 σ0 F H s σ → Rl K T F H s σ → ROs K T H0 F H s σ vs ys → (∀ y ∈ ys, ∀ j, y ≠ .pl j) → asgsO ix ys s = some s' →
    Rl K T F H s' (setAll σ ix vs) ∧ Stp T F0 H0 s0 σ0 F H s' (setAll σ ix vs) ∧ ix.length = vs.length := by
  induction ix with
  | nil =>
    intro vs ys s s' σ S R r hy h
    cases ys with
    | nil => cases r; cases h; exact ⟨R, S, rfl⟩
    | cons y ys => cases h
  | cons i ix ih =>
    intro vs ys s s' σ S R r hy h
    cases ys with
    | nil => cases h
    | cons y ys =>
      cases r with
      | @cons v vs _ _ h1 h2 h3 =>
        have h : ((asgO s i y).bind fun s1 => asgsO ix ys s1) = some s' := h
        cases q : asgO s i y with
        | none => rw [q] at h; cases h
        | some s1 =>
          rw [q] at h
          have main : ∃ bb d, i < s.sl.length ∧ s1 = setS s i (some (bb, d)) ∧ (bb = true → ∃ d, y = .fr d) ∧ Rl K T F H s1 (σ.set i (some v)) ∧ Stp T F0 H0 s0 σ0 F H s1 (σ.set i (some v)) := by
            unfold asgO at q
            split at q
            · rename_i hi
              cases y with
              | vl d =>
                cases q
                obtain ⟨R2, S2⟩ := R.setV hi h1
                refine ⟨false, d, hi, rfl, (fun z => nomatch z), R2, ⟨S.le, S.keep, S.new, fun a z => ?_, fun j y hj => ?_, S.grow⟩⟩
                · rcases ownd_set hi R.len z with z | ⟨z, _⟩
                  · exact S.own a z
                  · cases z
                · obtain ⟨z, hz⟩ := S.kp j y hj
                  exact S2.kp j z hz
              | fr d =>
                cases q
                obtain ⟨p, rfl, n0, n, nf, no, sh⟩ := h1
                obtain ⟨R2, S2⟩ := R.setO hi n0 S n nf no sh
                exact ⟨true, d, hi, rfl, fun _ => ⟨d, rfl⟩, R2, S2⟩
              | pl j => exact (hy _ (List.mem_cons_self ..) j rfl).elim
            · cases q
          obtain ⟨bb, d, hi, e1, hb, R2, S2⟩ := main
          have r2 : ROs K T H0 F H s1 (σ.set i (some v)) vs ys := by
            have go : ∀ {vs : List V} {ys : List Ov}, (∀ q ∈ vs.zip ys, ∀ e, q.2 = .fr e → bb = true → q.1 ≠ v) → (∀ y ∈ ys, ∀ j, y ≠ .pl j) → ROs K T H0 F H s σ vs ys → ROs K T H0 F H s1 (σ.set i (some v)) vs ys := by
              intro vs ys hd hp r
              induction r with
              | nil => exact .nil
              | @cons w ws z zs a1 a2 a3 ih2 =>
                refine .cons ?_ a2 (ih2 (fun q hq => hd q (List.mem_cons_of_mem _ hq)) fun y hy => hp y (List.mem_cons_of_mem _ hy))
                cases z with
                | vl d => exact a1
                | pl j => exact (hp _ (List.mem_cons_self ..) j rfl).elim
                | fr d' =>
                  obtain ⟨p, e2, n0, n, nf, no, sh⟩ := a1
                  refine ⟨p, e2, n0, n, nf, fun z => ?_, sh⟩
                  rw [e1] at z
                  rcases ownd_set hi R.len z with z | ⟨z1, z2⟩
                  · exact no z
                  · exact hd (w, .fr d') (List.mem_cons_self ..) d' rfl z1 (by rw [z2]; exact e2)
            refine go (fun q hq e he hbb => ?_) (fun y hy' => hy y (List.mem_cons_of_mem _ hy')) h3
            obtain ⟨d', e3⟩ := hb hbb
            exact h2 d' e3 q hq e he
          obtain ⟨k1, k2, k3⟩ := ih S2 R2 r2 (fun y hy' => hy y (List.mem_cons_of_mem _ hy')) h
          exact ⟨k1, k2, by simp [k3]⟩
/-- what the parts of a written tuple are stored into -/
theorem par_core {ix : List Nat} {D : Ends} (hl : SL X K T W es fl) (R : Rl K T F H s σ) (h : PstS K T W F H s σ (exPar ix fl s) D) :
    wpL X es σ H (fun vs H1 => ix.length = vs.length ∧ D.nx (setAll σ ix vs) H1 ∧ ∀ p, H1 p = none → D.nx (setAll σ ix vs) (upd H1 p (.tup vs))) := by
  refine hl F H σ s _ R ?_
  unfold exPar exL at h
  cases q : fl s with
  | no => rw [q] at h; exact h.elim
  | er x g => rw [q] at h; exact h
  | ok xs s1 =>
    rw [q] at h
    intro vs F1 H1 S1 R1 r1
    simp only [] at h
    cases q2 : nrms s1 xs with
    | none => rw [q2] at h; exact h.elim
    | some r =>
      obtain ⟨ys, s2⟩ := r
      rw [q2] at h
      simp only [] at h
      cases q3 : asgsO ix ys s2 with
      | none => rw [q3] at h; exact h.elim
      | some s3 =>
        rw [q3] at h
        obtain ⟨F2, R2, S2, r2⟩ := r1.nrm R1 q2
        have S12 := S1.trans S2 R R2
        obtain ⟨R3, S3, hl3⟩ := asgsO_ok S12 R2 r2 (nrm_tag q2).2.1 q3
        refine ⟨hl3, h F2 H1 _ S3 R3, fun p n => ?_⟩
        obtain ⟨R4, S4⟩ := R3.new (o := .tup vs) n
        exact h F2 _ _ (S3.trans S4 R R4) R4
theorem gNames_all : ∀ {ix : List Nat} {vs : List V} {σ : Sl} {H : Hp} {k : Sl → Hp → Prop}, ix.length = vs.length → k (setAll σ ix vs) H → gNames ix vs σ H k := by
  intro ix
  induction ix with
  | nil =>
    intro vs σ H k hl h
    cases vs with
    | nil => exact ⟨rfl, h⟩
    | cons v vs => cases hl
  | cons i ix ih =>
    intro vs σ H k hl h
    cases vs with
    | nil => cases hl
    | cons v vs => exact ⟨v, vs, rfl, ih (by simpa using hl) h⟩
/-- a, b = x, y: by a tuple -/
theorem ss_parT {ix : List Nat} {kt k2 : Nat} {tes : List Expr} (hst : es.all noStar = true) (hz : es.length ≤ sizeLine) (hg : PG X (.Tuple tes kt p2) (gOf X.K (.tp ix))) (hw : swappedStores [.Tuple tes kt p2] (.Tuple es k2 p3) X.env = pure none) (hl : SL X K T W es fl) :
    SS X K T W (.Assign [.Tuple tes kt p2] (.Tuple es k2 p3) pos) (exPar ix fl) := by
  intro F H σ s D R h
  refine wpS_of (ps_asg (pe_tup (pa_self X hst)) hg rfl hw) ?_
  show wpL X es σ H fun xs H1 => xs.length ≤ sizeLine ∧ ∀ p, H1 p = none → gOf X.K (.tp ix) (.ref p) σ (upd H1 p (.tup xs)) D.nx
  refine wpL_mono (Q := fun _ _ => True) (Q' := fun _ _ => True) (wpL_len (par_core hl R h)) fun vs H1 q => ⟨by rw [q.1]; exact hz, fun p n => ?_⟩
  exact ⟨p, vs, rfl, .inl (.inl upd_same), q.2.1.symm, gNames_all q.2.1 (q.2.2.2 p n)⟩
/-- a, b = x, y: plain local names -/
theorem ss_par2 {i j : Nat} {x y : Str} {px py : Pos} {kt k2 : Nat} (hc : X.calm = true) (hN : X.N.Nodup) (hi : X.N[i]? = some x) (hj : X.N[j]? = some y) (hij : i ≠ j) (hx : X.env.scope.names.lookup x = some .local) (hy : X.env.scope.names.lookup y = some .local) (hst : [a, b].all noStar = true)
    (hw : swappedStores [.Tuple [.Name x px, .Name y py] kt p2] (.Tuple [a, b] k2 p3) X.env = pure (some [x, y])) (hl : SL X K T W [a, b] fl) : SS X K T W (.Assign [.Tuple [.Name x px, .Name y py] kt p2] (.Tuple [a, b] k2 p3) pos) (exPar [i, j] fl) := by
  intro F H σ s D R h
  refine wpS_of (ps_par hc hN hi hj hij hx hy (pa_self X hst) hw rfl) ?_
  refine wpL_mono (Q := fun _ _ => True) (Q' := fun _ _ => True) (par_core hl R h) fun vs H1 q => ?_
  obtain ⟨q1, q2, _⟩ := q
  match vs, q1, q2 with
  | [v, w], _, q2 => exact ⟨v, w, rfl, q2⟩
theorem ss_par3 {i j l : Nat} {x y z : Str} {px py pz : Pos} {kt k2 : Nat} (hc : X.calm = true) (hN : X.N.Nodup) (hi : X.N[i]? = some x) (hj : X.N[j]? = some y) (hl' : X.N[l]? = some z) (hij : i ≠ j) (hil : i ≠ l) (hjl : j ≠ l)
    (hx : X.env.scope.names.lookup x = some .local) (hy : X.env.scope.names.lookup y = some .local) (hz : X.env.scope.names.lookup z = some .local) (hst : [a, b, c].all noStar = true)
    (hw : swappedStores [.Tuple [.Name x px, .Name y py, .Name z pz] kt p2] (.Tuple [a, b, c] k2 p3) X.env = pure (some [x, y, z])) (hl : SL X K T W [a, b, c] fl) :
    SS X K T W (.Assign [.Tuple [.Name x px, .Name y py, .Name z pz] kt p2] (.Tuple [a, b, c] k2 p3) pos) (exPar [i, j, l] fl) := by
  intro F H σ s D R h
  refine wpS_of (ps_par3 hc hN hi hj hl' hij hil hjl hx hy hz (pa_self X hst) hw rfl) ?_
  refine wpL_mono (Q := fun _ _ => True) (Q' := fun _ _ => True) (par_core hl R h) fun vs H1 q => ?_
  obtain ⟨q1, q2, _⟩ := q
  match vs, q1, q2 with
  | [u, v, w], _, q2 => exact ⟨u, v, w, rfl, q2⟩
/-- a, b = e -/
theorem ss_unp {tgt : Expr} (hk : K.K = X.K) (hg : PG X tgt (gOf X.K t)) (h1 : (assignEach [tgt] X.env).map (·.2) = [assign tgt X.env]) (hs : swapsWithSole [tgt] e pos.line X.env = pure false) (hw : swappedStores [tgt] e X.env = pure none) (hf : SE X K T W e fa) : SS X K T W (.Assign [tgt] e pos) (exUnp t fa) := by
  intro F H σ s D R h
  refine wpS_of (ps_asg (pe_self X e) hg hs hw h1) (wp_mono (exE_core hf R h) fun v H1 ⟨F1, s1, x, R1, S1, r1, q⟩ => ?_)
  cases q2 : use s1 x with
  | no => rw [q2] at q; exact q.elim
  | er y g => rw [q2] at q; exact q.elim
  | ok d s2 =>
    rw [q2] at q
    simp only [] at q
    cases q3 : asgT t d s2 with
    | none => rw [q3] at q; exact q.elim
    | some s3 =>
      rw [q3] at q
      obtain ⟨F2, R2, S2, p2⟩ := r1.used S1 R R1 q2
      rw [← hk]
      exact asgT_ok (ds := [d]) (i := 0) R2 rfl ⟨d, rfl, .inl ⟨rfl, p2⟩⟩ q3 fun F3 σ3 R3 S3 _ _ => q F3 H1 σ3 (S2.trans S3 R R3) R3
end
end BF
set_option Elab.async false
set_option linter.all false
set_option autoImplicit false
set_option maxRecDepth 100000
set_option maxHeartbeats 2000000
namespace BF
open PySem PySem.Spec PyProof.Rows L2
section
variable {G : Type}
def isOwnL (s : Sg G) (i : Nat) : Bool := match s.sl[i]? with
  | some (some (true, .lst _)) => true
  | _ => false
/-- x.append(e), x an own list -/
def exAppend (i : Nat) (f : Sg G → Rs G Ov) (s : Sg G) : Ro G := if isOwnL s i then exApp i f s else .no
/-- x[k] = e, x an own list -/
def exStore (i : Nat) (fe fk : Sg G → Rs G Ov) (s : Sg G) : Ro G := exE fe (fun x s1 => match use s1 x with
  | .ok d s2 => if isOwnL s2 i then exE fk (fun y s3 => match pk s3 y, s3.sl[i]? with
    | some (.int k), some (some (true, .lst ds)) => (match ixN ds.length k with
      | some j => .nx (setS s3 i (some (true, .lst (ds.set j d))))
      | none => .no)
    | _, _ => .no) s2 else .no
  | _ => .no) s
/-- x += e, x -= e: ints -/
def exAug (op : Int → Int → Int) (i : Nat) (f : Sg G → Rs G Ov) (s : Sg G) : Ro G := match look s i with
  | some (.int a) => exE f (fun x s1 => match pk s1 x with
    | some (.int b) => if i < s1.sl.length then .nx (setS s1 i (some (false, .int (op a b)))) else .no
    | _ => .no) s
  | _ => .no
/-- a def runs -/
def runF (n : Nat) (code : Sg G → Ro G) : Mir G := fun ds g => match code ⟨ds.map (fun d => some (false, d)) ++ List.replicate (n - ds.length) none, g⟩ with
  | .nx s' => .ok .non s'.g
  | .rt d g' => .ok d g'
  | .er x g' => .er x g'
  | _ => .no
end
section
variable {G : Type} {X : Cx} {K : Env1} {T : Gt G} {W : WX1} {tg a b c e elt iter : Expr} {es ifs : List Expr} {st : Stmt} {sts sts2 : List Stmt} {fa fb fc ft fe fk : Sg G → Rs G Ov} {f g : Sg G → Ro G} {fl : Sg G → Rs G (List Ov)} {fi : Sg G → Rs G (List D)} {pos p2 p3 : Pos} {F H F0 H0 F1 H1 : Hp} {s s0 s1 : Sg G} {σ σ0 σ1 : Sl} {t : Tg}
theorem ss_append {i : Nat} {x : Str} {p1 apos cpos : Pos} (hN : X.N[i]? = some x) (hv : Vis X.env.scope x) (hd : (x == ("__debug__" : Str)) = false) (hcd : (x == ("__classdict__" : Str)) = false) (hst : noStar e = true) (hline : (apos.endLine == cpos.line) = true) (hf : SE X K T W e fa) :
    SS X K T W (.Expr (.Call (.Attribute (.Name x p1) "append" apos) [e] [] cpos) pos) (exAppend i fa) := by
  intro F H σ s D R h
  unfold exAppend at h
  split at h
  · rename_i hown
    have hst2 : [e].all noStar = true := by simp [hst]
    have q := pe_bm (X := X) PySem.F.plainAttrs_list PySem.F.slot_list_append PySem.F.type_list_append mt_append (pe_var (pos := p1) hN hv hd hcd) (pa_self X hst2) (cpos := cpos) (apos := apos) rfl (by rw [starEach_of hst]; rfl) hline (starEach_of hst) rfl
    refine wpS_of (ps_expr q rfl) ?_
    unfold isOwnL at hown
    split at hown
    · rename_i ds0 e0
      obtain ⟨p, h1, n, nf, vs0, h2, h3⟩ := R.own i _ e0
      refine ⟨.ref p, h1, .inl ⟨rfl, vs0, .inl (.inl h2)⟩, ?_⟩
      show wpE X e σ H fun y H1 => rAppend (.ref p) [y] H1 fun _ H' => D.nx σ H'
      refine wp_mono (exE_core hf R h) fun v H1 ⟨F1, s1, x, R1, S1, r1, q⟩ => ?_
      cases q2 : use s1 x with
      | no => rw [q2] at q; exact q.elim
      | er y g => rw [q2] at q; exact q.elim
      | ok d s2 =>
        rw [q2] at q
        simp only [] at q
        obtain ⟨F2, R2, S2, p2⟩ := r1.used S1 R R1 q2
        split at q
        · rename_i ds e2
          split at q
          · rename_i hz
            obtain ⟨p', k1, k2, k3, vs, k4, k5⟩ := R2.own i _ e2
            rw [h1] at k1; cases k1
            obtain ⟨R3, S3⟩ := R2.mut e2 h1 (k5.append (.cons p2 .nil))
            exact ⟨p, vs, v, rfl, rfl, k4, by rw [k5.length]; exact hz, q F2 _ σ (S2.trans S3 R R3) R3⟩
          · exact q.elim
        · exact q.elim
    · cases hown
  · exact h.elim
theorem ss_store {i : Nat} {x : Str} {k : Expr} {p1 : Pos} (hN : X.N[i]? = some x) (hv : Vis X.env.scope x) (hd : (x == ("__debug__" : Str)) = false) (hcd : (x == ("__classdict__" : Str)) = false) (hs : swapsWithSole [.Subscript (.Name x p1) k p2] e pos.line X.env = pure false) (hw : swappedStores [.Subscript (.Name x p1) k p2] e X.env = pure none)
    (ha : ∀ v, assign (.Subscript (.Name x p1) k p2) X.env v = (do
      let ov ← holding [v] (eval (.Name x p1) X.env)
      let iv ← holding [v, ov] (eval k X.env)
      standAt p2
      holding [v, ov, iv] (setItem ov iv v)
      release [v, ov, iv] [])) (hf : SE X K T W e fe) (hk : SE X K T W k fk) : SS X K T W (.Assign [.Subscript (.Name x p1) k p2] e pos) (exStore i fe fk) := by
  intro F H σ s D R h
  refine wpS_of (ps_asg (pe_self X e) (pg_sub (pe_var (pos := p1) hN hv hd hcd) (pe_self X k) set_list ha) hs hw) (wp_mono (exE_core hf R h) fun v H1 ⟨F1, s1, x, R1, S1, r1, q⟩ => ?_)
  cases q2 : use s1 x with
  | no => rw [q2] at q; exact q.elim
  | er y g => rw [q2] at q; exact q.elim
  | ok d s2 =>
    rw [q2] at q
    simp only [] at q
    obtain ⟨F2, R2, S2, p2⟩ := r1.used S1 R R1 q2
    split at q
    · rename_i hown
      unfold isOwnL at hown
      split at hown
      · rename_i ds0 e0
        obtain ⟨p, h1, n, nf, vs0, h2, h3⟩ := R2.own i _ e0
        refine ⟨.ref p, h1, ?_⟩
        refine wp_mono (exE_core hk R2 (PstS.step S2 R q)) fun w H3 ⟨F3, s3, y, R3, S3, r3, q⟩ => ?_
        split at q
        · rename_i kk ds q4 e4
          cases (r3.rh R3 q4).int
          split at q
          · rename_i j q5
            obtain ⟨p', k1, k2, k3, vs, k4, k5⟩ := R3.own i _ e4
            rw [h1] at k1; cases k1
            obtain ⟨R4, S4⟩ := R3.mut e4 h1 (k5.set j (p2.mono S3.le))
            exact ⟨p, vs, kk, j, rfl, rfl, k4, by rw [k5.length]; exact q5, q F3 _ σ (S3.trans S4 R2 R4) R4⟩
          · exact q.elim
        · exact q.elim
      · cases hown
    · exact q.elim
theorem ss_aug {op : Operator} {o : Int → Int → Int} {i : Nat} {x : Str} {p1 : Pos} (hNd : X.N.Nodup) (hN : X.N[i]? = some x) (hx : Loc X.env.scope x) (hfn : X.fn x = true ∨ X.env.scope.names.lookup x = some .local) (ho : PIp X op (ipI o)) (hf : SE X K T W e fe) : SS X K T W (.AugAssign (.Name x p1) op e pos) (exAug o i fe) := by
  intro F H σ s D R h
  unfold exAug at h
  split at h
  · rename_i av hl
    have hv : σ[i]? = some (some (.int av)) := by
      unfold look at hl
      split at hl
      · rename_i bb d e0
        cases hl
        cases bb with
        | false =>
          obtain ⟨v, h1, h2⟩ := R.val i _ e0
          cases h2
          exact h1
        | true =>
          obtain ⟨p, _, _, _, h⟩ := R.own i _ e0
          exact h.elim
      · cases hl
    refine wpS_of (ps_aug hNd hN hx (pe_self X e) ho hfn) ⟨_, hv, wp_mono (exE_core hf R h) fun v H1 ⟨F1, s1, x, R1, S1, r1, q⟩ => ?_⟩
    split at q
    · rename_i bv q2
      cases (r1.rh R1 q2).int
      split at q
      · rename_i hi
        obtain ⟨R2, S2⟩ := R1.setV hi (Rep.int (o av bv))
        exact ⟨av, bv, rfl, rfl, q F1 H1 _ (S1.trans S2 R R2) R2⟩
      · exact q.elim
    · exact q.elim
  · exact h.elim
theorem Reps.len2 {vs : List V} {ds : List D} (r : Reps K F vs ds) : ds.length = vs.length := r.length.symm
/-- the state at a def's entry -/
theorem Rl.start {N : List Str} {vs : List V} {ds : List D} {g0 : G} (hle : Le F H) (r : Reps K F vs ds) (hg : T.gr g0 H) (hf : ∀ a, T.fp a → F a = none) :
    Rl K T F H ⟨ds.map (fun d => some (false, d)) ++ List.replicate (N.length - ds.length) none, g0⟩ (L2.start N vs) := by
  have gets : ∀ (i : Nat) y, (ds.map (fun d => some (false, d)) ++ List.replicate (N.length - ds.length) none : List (Option (Bool × D)))[i]? = some (some y) → ∃ d, ds[i]? = some d ∧ y = (false, d) := fun i y h => by
    by_cases hi : i < ds.length
    · rw [List.getElem?_append_left (by simpa using hi), List.getElem?_map, List.getElem?_eq_getElem hi] at h
      cases h
      exact ⟨_, List.getElem?_eq_getElem hi, rfl⟩
    · rw [List.getElem?_append_right (by simpa using hi)] at h
      rw [List.getElem?_replicate] at h
      split at h <;> cases h
  refine ⟨hle, ?_, fun i d h => ?_, fun i d h => ?_, fun i j d e p h1 => ?_, hg, hf⟩
  · show (ds.map _ ++ _).length = (vs.map some ++ List.replicate (N.length - vs.length) none).length
    simp [r.length]
  · obtain ⟨d', h1, h2⟩ := gets i _ h
    cases h2
    obtain ⟨v, h3, h4⟩ := r.get h1
    refine ⟨v, ?_, h4⟩
    show (vs.map some ++ _)[i]? = _
    have hi := lt_of_get h3
    rw [List.getElem?_append_left (by simpa using hi), List.getElem?_map, h3]; rfl
  · obtain ⟨d', _, h2⟩ := gets i _ h
    cases h2
  · obtain ⟨d', _, h2⟩ := gets i _ h1
    cases h2
theorem start_noown {N : List Str} {vs : List V} {ds : List D} {g0 : G} {a : Addr} : ¬ Ownd (⟨ds.map (fun d => some (false, d)) ++ List.replicate (N.length - ds.length) none, g0⟩ : Sg G) (L2.start N vs) a := fun ⟨i, d, h, _⟩ => by
  have h : (ds.map (fun d => some (false, d)) ++ List.replicate (N.length - ds.length) none : List (Option (Bool × D)))[i]? = some (some (true, d)) := h
  by_cases hi : i < ds.length
  · rw [List.getElem?_append_left (by simpa using hi), List.getElem?_map, List.getElem?_eq_getElem hi] at h
    cases h
  · rw [List.getElem?_append_right (by simpa using hi)] at h
    rw [List.getElem?_replicate] at h
    split at h <;> cases h
end
/-- a def of the text does what its code says -/
theorem fn_okD {G : Type} {P : Program} {w : World} {K : Env1} {T : Gt G} {mg : Str → Option Value} {base : Heap} {x qual : Str} {params : Arguments} {body : List Stmt} {scope : Scope} {f : Addr} {fd : FuncData} {N ps : List Str} {k : Nat} {code : Sg G → Ro G}
    (Fn : FunD K.K x qual params body scope [] [] f fd) (S : FnScope N ps scope)
    (hb : ∀ (cdv : Value) (A : Around) (outer : List Env) (s : Shared) (H : Hp) (E : XK), Room k (A.deeper (envOfC qual scope s.heap.objs.size f cdv)) →
      SB (cxOf (L2.CX P w) P w K.K mg base N qual scope f cdv A outer s H E) K T (fun cls dd _ H => E cls dd H) body code) :
    FnOk P w K.K mg base (L2.CX P w) (k + 1) f fd ps (spD K T ps.length (runF N.length code)) := by
  refine Fn.ok S (fun vs H Q E h => ?_) (fun cdv A outer s H vs Q E hr h => ⟨_, pss_self _ _, ?_⟩)
  · obtain ⟨F, ds, g, h1, _⟩ := h
    exact h1
  · obtain ⟨F, ds, g, h1, h2, h3, h4, h5, h6⟩ := h
    refine hb cdv A outer s H E hr F H _ _ _ (Rl.start (N := N) h2 h3 h4 h5) ?_
    unfold runF at h6
    have fst : ∀ {F' H' : Hp} {g' : G}, Xst T F H (⟨ds.map (fun d => some (false, d)) ++ List.replicate (N.length - ds.length) none, g⟩ : Sg G) (L2.start N vs) F' H' g' → Fst T F H F' H' g' := fun {F' H' g'} q =>
      ⟨q.le, q.sub, fun a o e nf => q.keep a o e start_noown nf, fun a n => (q.new a n).elim .inl fun z => .inr (z.elim id fun z => (start_noown z).elim), q.gs, q.gf⟩
    cases q : code ⟨ds.map (fun d => some (false, d)) ++ List.replicate (N.length - ds.length) none, g⟩ with
    | nx s' =>
      rw [q] at h6
      intro F' H' σ' S' R'
      exact h6 .non F' H' (fst (S'.xst R')) .non
    | rt d g' =>
      rw [q] at h6
      intro v F' H' xs r
      exact h6 v F' H' (fst xs) r
    | er x g' =>
      rw [q] at h6
      intro cls dd F' H' σ' xs r
      exact h6 cls dd F' H' (fst xs) r
    | bk s' => rw [q] at h6; exact h6.elim
    | ct s' => rw [q] at h6; exact h6.elim
    | no => rw [q] at h6; exact h6.elim
/-- the context of a def's body -/
theorem ctx_fn {P : Program} {w : World} {K : Env1} {mg : Str → Option Value} {base : Heap} {qual : Str} {scope : Scope} {f : Addr} {N ps : List Str} {k : Nat} {cdv : Value} {A : Around} {outer : List Env} {s : Shared} {H : Hp} {E : XK} (S : FnScope N ps scope) (hr : Room k (A.deeper (envOfC qual scope s.heap.objs.size f cdv))) :
    Ctx (cxOf (L2.CX P w) P w K.K mg base N qual scope f cdv A outer s H E) K (fun cls dd _ H => E cls dd H) k where
  kk := rfl
  calm := rfl
  nd := S.nd
  room := hr
  pass := passes_call (takes_of rfl rfl rfl rfl) (fun cls d σ H h => h σ)
  own := passes_of rfl
  take := takes_of rfl rfl rfl rfl
/-- the context of a comprehension's block -/
theorem Ctx.blk {X : Cx} {K : Env1} {W : WX1} {k : Nat} (C : Ctx X K W k) (s : Shared) (H : Hp) (scope : Scope) (cenv : Env) (fp : List Addr) : Ctx (X.blk s H scope cenv fp) K W0 k where
  kk := C.kk
  calm := C.calm
  nd := C.nd
  room := C.room
  pass := fun _ _ _ _ _ _ _ h => by
    obtain ⟨_, _, _, _, _, _, _, _, _, _, _, _, z⟩ := h
    exact (z []).elim
  own := PassesOwn.never
  take := takes0
end BF
set_option Elab.async false
set_option linter.all false
set_option autoImplicit false
set_option maxRecDepth 100000
set_option maxHeartbeats 4000000
namespace BF
open PySem PySem.Spec PyProof.Rows L2
/-! ## new instances: one attribute, set last -/
section
variable {G : Type}
/-- behind __init__ of the instance at x -/
structure Fst1 (T : Gt G) (x : Addr) (F H F' H' : Hp) (g' : G) : Prop where
  le : Le F F'
  sub : Le F' H'
  keep : ∀ a o, H a = some o → ¬ T.fp a → a ≠ x → H' a = some o
  new : ∀ a, F' a ≠ none → F a ≠ none ∨ H a = none
  gs : T.gr g' H'
  gf : ∀ a, T.fp a → F' a = none
def spI (K : Env1) (T : Gt G) (c f : Str) (n : Nat) (m : Mir G) : Sp := fun vs H Q E => ∃ (F : Hp) (x dx : Addr) (us : List V) (ds : List D) (g : G), vs = .ref x :: us ∧ us.length = n ∧ Le F H ∧ Reps K F us ds ∧ T.gr g H ∧ (∀ a, T.fp a → F a = none) ∧ H x = some (.ins (K.co c) dx []) ∧ F x = none ∧ ¬ T.fp x ∧ (match m ds g with
  | .ok d g' => ∀ v F' H', Fst1 T x F H F' H' g' → H' x = some (.ins (K.co c) dx [(f, v)]) → F' x = none → Rep K F' v d → Q .non H'
  | .er e g' => ∀ cls dd F' H', Fst1 T x F H F' H' g' → ErR K e cls dd F' H' → E cls dd H'
  | .no => False)
def mkM (c f : Str) (m : Mir G) : Mir G := fun ds g => match m ds g with
  | .ok d g' => .ok (.obj c f d) g'
  | .er x g' => .er x g'
  | .no => .no
end
section
variable {G : Type} {X : Cx} {K : Env1} {T : Gt G} {W : WX1} {a b c e : Expr} {es : List Expr} {fa fb fc fe : Sg G → Rs G Ov} {fl : Sg G → Rs G (List Ov)} {pos : Pos} {F H F1 H1 : Hp} {s s1 : Sg G} {σ : Sl}
theorem spI_of {n : Nat} {m : Mir G} {vs : List V} {ds : List D} {Q : VK} {cn f : Str} {x dx : Addr} (hn : vs.length = n) (R : Rl K T F H s σ) (r : Reps K F vs ds) (hx : H x = none) (hdx : H dx = none) (hne : dx ≠ x) (h : PstE K T W F H s σ (match mkM cn f m ds s.g with
    | .ok d g' => .ok (.vl d) { s with g := g' }
    | .er x g' => .er x g'
    | .no => .no) Q) : spI K T cn f n m (.ref x :: vs) (upd (upd H dx (.own x)) x (.ins (K.co cn) dx [])) (fun v H2 => v = .non ∧ Q (.ref x) H2) (fun cls dd H => ∀ σ, W cls dd σ H) := by
  have live : ∀ a, T.fp a → H a ≠ none := fun a h => T.live _ _ _ R.gs h
  have nfx : ¬ T.fp x := fun z => live x z hx
  have nfd : ¬ T.fp dx := fun z => live dx z hdx
  have hs : ∀ a o, H a = some o → upd (upd H dx (.own x)) x (.ins (K.co cn) dx []) a = some o := fun a o e => by
    rw [upd_ne (fun z => by rw [z, hx] at e; cases e), upd_ne (fun z => by rw [z, hdx] at e; cases e), e]
  have hno : ∀ a, upd (upd H dx (.own x)) x (.ins (K.co cn) dx []) a = none → H a = none := fun a e => by
    cases q : H a with
    | none => rfl
    | some o => rw [hs a o q] at e; cases e
  have Fx : F x = none := by
    cases q : F x with
    | none => rfl
    | some o => rw [R.sub x o q] at hx; cases hx
  refine ⟨F, x, dx, vs, ds, s.g, rfl, hn, fun a o e => hs a o (R.sub a o e), r, ?_, R.gf, upd_same, Fx, nfx, ?_⟩
  · refine T.dep _ _ _ R.gs fun a ha => ?_
    rw [upd_ne (fun z : a = x => nfx (z ▸ ha)), upd_ne (fun z : a = dx => nfd (z ▸ ha))]
  unfold mkM at h
  cases q : m ds s.g with
  | no => rw [q] at h; exact h.elim
  | er e g' =>
    rw [q] at h
    intro cls dd F' H' fs er σ'
    refine h cls dd F' H' σ' ⟨fs.le, fs.sub, fun a o e _ nf => fs.keep a o (hs a o e) nf (fun z => by rw [z, hx] at e; cases e), fun a n => ?_, fs.gs, fs.gf⟩ er
    rcases fs.new a n with z | z
    · exact .inl z
    · exact .inr (.inl (hno a z))
  | ok d g' =>
    rw [q] at h
    intro v F' H' fs hx' Fx' rv
    refine ⟨rfl, ?_⟩
    have fst : Fst T F H (upd F' x (.ins (K.co cn) dx [(f, v)])) H' g' := by
      refine ⟨fun a o e => ?_, fun a o e => ?_, fun a o e nf => fs.keep a o (hs a o e) nf (fun z => by rw [z, hx] at e; cases e), fun a n => ?_, fs.gs, fun a ha => ?_⟩
      · rw [upd_ne (fun z => by rw [z, Fx] at e; cases e)]; exact fs.le a o e
      · by_cases z : a = x
        · subst z; rw [upd_same] at e; cases e; exact hx'
        · rw [upd_ne z] at e; exact fs.sub a o e
      · by_cases z : a = x
        · subst z; exact .inr hx
        · rw [upd_ne z] at n
          rcases fs.new a n with z | z
          · exact .inl z
          · exact .inr (hno a z)
      · rw [upd_ne (fun z : a = x => nfx (z ▸ ha))]; exact fs.gf a ha
    obtain ⟨R', S'⟩ := R.after fst
    refine h (.ref x) _ H' S' R' (Rep.obj upd_same (rv.mono fun a o e => ?_))
    rw [upd_ne (fun z => by rw [z, Fx'] at e; cases e)]; exact e
theorem se_make {x : Str} {p : Pos} {k k0 n : Nat} {fi : Addr} {fd : FuncData} {ps : List Str} {m : Mir G} {cn f : Str} (C : Ctx X K W k0) (M : Mk X.K (K.co cn) fi) (Fn : FnOk X.prog X.w X.K X.mg X.base (L2.CX X.prog X.w) k fi fd ps (spI K T cn f n m)) (hk0 : k + 1 ≤ k0) (hg : Gl X x) (hm : X.mg x = some (.ref (K.co cn))) (hb : Binds X.K fd ps [])
    (hdb : (x == ("__debug__" : Str)) = false) (hst : (e :: es).all noStar = true) (hn : (e :: es).length = n) (hl : SL X K T W (e :: es) fl) : SE X K T W (.Call (.Name x p) (e :: es) [] pos) (evCall (mkM cn f m) fl) := by
  intro F H σ s Q R h
  have h' := Bool.and_eq_true_iff.mp (show (noStar e && es.all noStar) = true from hst)
  refine wpE_of (pe_make M Fn (C.room.mono hk0) hg hm hb .nil C.pass (pa_self X hst) hdb (starEach_of h'.1) (back_of X pos h'.2)) ?_
  refine wpL_mono (Q := fun _ _ => True) (Q' := fun _ _ => True) (wpL_len (sl_used (P := fun vs H1 Q => vs.length = n → ∀ x dx, H1 x = none → H1 dx = none → dx ≠ x → spI K T cn f n m (.ref x :: vs) (upd (upd H1 dx (.own x)) x (.ins (K.co cn) dx [])) (fun v H2 => v = .non ∧ Q (.ref x) H2) (fun cls dd H => ∀ σ, W cls dd σ H)) hl R (fun F1 H1 s1 vs ds R1 S1 r hq hl x dx hx hdx hne => spI_of hl R1 r hx hdx hne hq) h)) fun vs H1 q => ?_
  rw [List.append_nil]
  exact q.2 (q.1.trans hn)
end
end BF
set_option Elab.async false
set_option linter.all false
set_option autoImplicit false
set_option maxRecDepth 100000
set_option maxHeartbeats 2000000
namespace BF
open PySem PySem.Spec PyProof.Rows L2
/-! ## code -/
inductive Bo where
  | add | sub | mul | fdiv | mod | pow
inductive Co where
  | eq | ne | lt | le | gt | ge | isin | nin | is | isn
inductive Bl where
  | len | int | tuple | list | str | sum | max | min | max2 | min2 | all | any
mutual
inductive Ce where
  | var (i : Nat) | cst (d : D) | glo (k : Nat)
  | bin (o : Bo) (a b : Ce) | cmp (o : Co) (a b : Ce) | chain (o o' : Co) (a b c : Ce)
  | neg (a : Ce) | not (a : Ce) | bop (isAnd : Bool) (es : Ca) | ife (c a b : Ce)
  | tup (es : Ca) | lst (es : Ca)
  | ix (a b : Ce) | slLo (a b : Ce) | slHi (a b : Ce) | slBo (a b c : Ce)
  | blt (o : Bl) (es : Ca) | call (k : Nat) (es : Ca)
  | isi (q : Cl) (a : Ce) | isiT (n1 n2 : String) (a : Ce)
  | attr (c f : Str) (a : Ce)
  | lc0 (elt : Ce) (t : Tg) (it : Ci) (own : List Nat)
  | lc1 (elt : Ce) (t : Tg) (it : Ci) (cond : Ce) (own : List Nat)
inductive Ca where
  | nil | cons (a : Ce) (r : Ca)
inductive Ci where
  | seq (a : Ce) | rg1 (a : Ce) | rg2 (a b : Ce) | enum (a : Ce)
end
inductive Cs where
  | nil | cons (s r : Cs)
  | pass | brk | ret (e : Ce) | retN | expr (e : Ce)
  | asg (i : Nat) (e : Ce) | par (ix : List Nat) (es : Ca) | unp (t : Tg) (e : Ce)
  | app (i : Nat) (e : Ce) | store (i : Nat) (k e : Ce) | aug (isSub : Bool) (i : Nat) (e : Ce)
  | ife (c : Ce) (a b : Cs) | for_ (t : Tg) (it : Ci) (b : Cs) | whl (n : Nat) (c : Ce) (b : Cs)
  | raise (x : Str) (fs : List Str) (es : Ca) | stuck
/-- what a global is -/
inductive Gd (G : Type) where
  | cst (d : D) | fn (n : Nat) (m : Mir G) | mk (c f : Str) (n : Nat) (m : Mir G)
abbrev Gam (G : Type) := List (Str × Gd G)
def boF : Bo → D → D → Option Ov
  | .add => addO | .sub => subO | .mul => mulO | .fdiv => fdivO | .mod => modO | .pow => powO
def coF : Co → D → D → Option Ov
  | .eq => eqO | .ne => neO | .lt => ltO | .le => leO | .gt => gtO | .ge => geO | .isin => inO | .nin => ninO | .is => isO | .isn => isnO
def blF : Bl → List D → Option Ov
  | .len => one lenO | .int => one intO | .tuple => one tupleO | .list => one listO | .str => one strO | .sum => one sumO | .max => one maxO | .min => one minO | .max2 => two max2O | .min2 => two min2O | .all => one allO | .any => one anyO
section
variable {G : Type}
/-- the class's value, as it is read by its name -/
def clD (K : Env1) : Cl → D
  | .bty n => .ty n
  | .own c => .ref (K.co c)
mutual
def ev (K : Env1) (Γ : Gam G) : Ce → Sg G → Rs G Ov
  | .var i => evVar i
  | .cst d => evC d
  | .glo k => (match Γ[k]? with
    | some (_, .cst d) => evC d
    | _ => fun _ => .no)
  | .bin o a b => evOp (evCons (ev K Γ a) (evCons (ev K Γ b) evNil)) (two (boF o))
  | .cmp o a b => evOp (evCons (ev K Γ a) (evCons (ev K Γ b) evNil)) (two (coF o))
  | .chain o o' a b c => evChain (coF o) (coF o') (evCons (ev K Γ a) (evCons (ev K Γ b) evNil)) (ev K Γ c)
  | .neg a => evOp (evCons (ev K Γ a) evNil) (one negO)
  | .not a => evNot (ev K Γ a)
  | .bop q es => evB K Γ q es
  | .ife c a b => evIf (ev K Γ c) (ev K Γ a) (ev K Γ b)
  | .tup es => evTup (evA K Γ es)
  | .lst es => evLst (evA K Γ es)
  | .ix a b => evOp (evCons (ev K Γ a) (evCons (ev K Γ b) evNil)) (two ixO)
  | .slLo a b => evOp (evCons (ev K Γ a) (evCons (ev K Γ b) evNil)) (two slLo)
  | .slHi a b => evOp (evCons (ev K Γ a) (evCons (ev K Γ b) evNil)) (two slHi)
  | .slBo a b c => evSlBo (evCons (ev K Γ a) (evCons (ev K Γ b) evNil)) (ev K Γ c)
  | .blt o es => evOp (evA K Γ es) (blF o)
  | .call k es => (match Γ[k]? with
    | some (_, .fn _ m) => evCall m (evA K Γ es)
    | some (_, .mk c f _ m) => evCall (mkM c f m) (evA K Γ es)
    | _ => fun _ => .no)
  | .isi q a => evOp (evCons (ev K Γ a) (evCons (evC (clD K q)) evNil)) (isiO K q)
  | .isiT n1 n2 a => evOp (evCons (ev K Γ a) (evCons (evTup (evCons (evC (.ty n1)) (evCons (evC (.ty n2)) evNil))) evNil)) (isiTO K n1 n2)
  | .attr c f a => evOp (evCons (ev K Γ a) evNil) (one (attrO c f))
  | .lc0 elt t it own => evLc (evI K Γ it) t (evC (.bl true)) (ev K Γ elt) own
  | .lc1 elt t it cond own => evLc (evI K Γ it) t (ev K Γ cond) (ev K Γ elt) own
def evA (K : Env1) (Γ : Gam G) : Ca → Sg G → Rs G (List Ov)
  | .nil => evNil
  | .cons a r => evCons (ev K Γ a) (evA K Γ r)
def evB (K : Env1) (Γ : Gam G) (q : Bool) : Ca → Sg G → Rs G Ov
  | .nil => fun _ => .no
  | .cons a .nil => ev K Γ a
  | .cons a (.cons b r) => (if q = true then evAnd else evOr) (ev K Γ a) (evB K Γ q (.cons b r))
def evI (K : Env1) (Γ : Gam G) : Ci → Sg G → Rs G (List D)
  | .seq a => evSeq (ev K Γ a)
  | .rg1 a => evRg1 (evCons (ev K Γ a) evNil)
  | .rg2 a b => evRg2 (evCons (ev K Γ a) (evCons (ev K Γ b) evNil))
  | .enum a => evEnum 0 (ev K Γ a)
end
def ex (K : Env1) (Γ : Gam G) : Cs → Sg G → Ro G
  | .nil => fun s => .nx s
  | .cons s r => exSeq (ex K Γ s) (ex K Γ r)
  | .pass => fun s => .nx s
  | .brk => fun s => .bk s
  | .ret e => exRet (ev K Γ e)
  | .retN => fun s => .rt .non s.g
  | .expr e => exDrop (ev K Γ e)
  | .asg i e => exAsg i (ev K Γ e)
  | .par ix es => exPar ix (evA K Γ es)
  | .unp t e => exUnp t (ev K Γ e)
  | .app i e => exAppend i (ev K Γ e)
  | .store i k e => exStore i (ev K Γ e) (ev K Γ k)
  | .aug q i e => exAug (if q = true then (fun a b => a - b) else fun a b => a + b) i (ev K Γ e)
  | .ife c a b => exIf (ev K Γ c) (ex K Γ a) (ex K Γ b)
  | .for_ t it b => exFor t (evI K Γ it) (ex K Γ b)
  | .whl n c b => whL (ev K Γ c) (ex K Γ b) n
  | .raise x fs es => fun s => (match evA K Γ es s with
    | .ok xs s1 => (match uses s1 xs with
      | .ok ds s2 => .er ⟨x, fs.zip ds⟩ s2.g
      | _ => .no)
    | .er x g => .er x g
    | .no => .no)
  | .stuck => fun _ => .no
end
end BF
set_option Elab.async false
set_option linter.all false
set_option autoImplicit false
set_option maxRecDepth 100000
set_option maxHeartbeats 4000000
namespace BF
open PySem PySem.Spec PyProof.Rows L2
/-! ## the check of code against the text -/
inductive Gk where
  | cst | fn (n : Nat)
def kindG {G : Type} : Gd G → Gk
  | .cst _ => .cst
  | .fn n _ => .fn n
  | .mk _ _ n _ => .fn n
/-- what is fixed in a def: its names, the globals by place, own classes, their fields, built-ins that are not hidden -/
structure Pm where
  N : List Str
  gn : List (Str × Gk)
  cs : List Str
  ats : List (Str × Str)
  bl : List Str
def isVis (sc : Scope) (x : Str) : Bool := match sc.names.lookup x with
  | some .local => true
  | some .cell => true
  | some .free => true
  | _ => false
def isGl (sc : Scope) (x : Str) : Bool := match sc.names.lookup x with
  | some .globalImplicit => true
  | _ => false
theorem vis_of {sc : Scope} {x : Str} (h : isVis sc x = true) : Vis sc x := by
  unfold isVis at h
  split at h
  · rename_i e; exact .inl e
  · rename_i e; exact .inr (.inl e)
  · rename_i e; exact .inr (.inr e)
  · cases h
theorem gl_of {sc : Scope} {x : Str} (h : isGl sc x = true) : sc.names.lookup x = some .globalImplicit := by
  unfold isGl at h
  split at h
  · rename_i e; exact e
  · cases h
def okName (x : Str) : Bool := !(x == ("__debug__" : Str)) && (!(x == ("__classdict__" : Str)) && decide (x ≠ "__name__"))
def boIs : Bo → Operator → Bool
  | .add, .Add => true | .sub, .Sub => true | .mul, .Mult => true | .fdiv, .FloorDiv => true | .mod, .Mod => true | .pow, .Pow => true
  | _, _ => false
def coIs : Co → CmpOp → Bool
  | .eq, .Eq => true | .ne, .NotEq => true | .lt, .Lt => true | .le, .LtE => true | .gt, .Gt => true | .ge, .GtE => true | .isin, .In => true | .nin, .NotIn => true | .is, .Is => true | .isn, .IsNot => true
  | _, _ => false
def blName : Bl → Str
  | .len => "len" | .int => "int" | .tuple => "tuple" | .list => "list" | .str => "str" | .sum => "sum" | .max => "max" | .min => "min" | .max2 => "max" | .min2 => "min" | .all => "all" | .any => "any"
def noSlice : Expr → Bool
  | .Slice _ _ _ _ => false
  | _ => true
theorem plainIx_of {b : Expr} (h : noSlice b = true) : PlainIx b := by
  intro o i
  cases b <;> first | rfl | cases h
def noCall : Expr → Bool
  | .Call _ _ _ _ => false
  | _ => true
theorem base_of {e : Expr} {f : Str} {env : Env} (h : noCall e = true) : attributeBase e f env (eval e env) = eval e env := by
  cases e <;> first | rfl | cases h
def notIf : Expr → Bool
  | .IfExp _ _ _ _ => false
  | _ => true
def tyNames : List String := ["int", "bool", "tuple", "list", "str"]
def cstIs : D → Const → Bool
  | .int i, .int j => decide (i = j)
  | .bl i, .bool j => decide (i = j)
  | .str i, .str j => decide (i = j)
  | .non, .none => true
  | _, _ => false
def fnIs (g : Option (Str × Gk)) (x : Str) (n : Nat) : Bool := match g with
  | some (y, .fn m) => decide (y = x) && decide (m = n)
  | _ => false
def gcIs (g : Option (Str × Gk)) (x : Str) : Bool := match g with
  | some (y, .cst) => decide (y = x)
  | _ => false
def tgInB : Tg → List Nat → Bool
  | .nm i, l => l.contains i
  | .tp ix, l => ix.all fun i => l.contains i
/-- targets in a block: plain local names -/
def tgLoc (N : List Str) (sc : Scope) : Tg → Expr → Bool
  | .nm i, .Name x _ => decide (N[i]? = some x) && decide (sc.names.lookup x = some .local)
  | .tp ix, .Tuple es _ _ => go ix es
  | _, _ => false
where
  go : List Nat → List Expr → Bool
    | [], [] => true
    | i :: ix, .Name x _ :: es => (decide (N[i]? = some x) && decide (sc.names.lookup x = some .local)) && go ix es
    | _, _ => false
def ownOf (N : List Str) (ix : List Nat) : List (Str × Nat) := ix.map fun i => (N.getD i "", i)
theorem ownOf_snd (N : List Str) (ix : List Nat) : (ownOf N ix).map (·.2) = ix := by
  unfold ownOf; rw [List.map_map]; exact List.map_id ix
def isTup : Expr → Bool
  | .Tuple _ _ _ => true
  | _ => false
/-! views of the text -/
def vName : Expr → Option Str
  | .Name x _ => some x
  | _ => none
theorem vName_ok {e : Expr} {x : Str} (h : vName e = some x) : ∃ p, e = .Name x p := by
  unfold vName at h; split at h <;> first | (cases h; exact ⟨_, rfl⟩) | cases h
def vCst : Expr → Option Const
  | .Constant c _ _ => some c
  | _ => none
theorem vCst_ok {e : Expr} {x : Const} (h : vCst e = some x) : ∃ k p, e = .Constant x k p := by
  unfold vCst at h; split at h <;> first | (cases h; exact ⟨_, _, rfl⟩) | cases h
def vBin : Expr → Option (Expr × Operator × Expr)
  | .BinOp l o r _ => some (l, o, r)
  | _ => none
theorem vBin_ok {e : Expr} {l r : Expr} {o : Operator} (h : vBin e = some (l, o, r)) : ∃ p, e = .BinOp l o r p := by
  unfold vBin at h; split at h <;> first | (cases h; exact ⟨_, rfl⟩) | cases h
def vCmp : Expr → Option (Expr × CmpOp × Expr)
  | .Compare l [o] [r] _ => some (l, o, r)
  | _ => none
theorem vCmp_ok {e : Expr} {l r : Expr} {o : CmpOp} (h : vCmp e = some (l, o, r)) : ∃ p, e = .Compare l [o] [r] p := by
  unfold vCmp at h; split at h <;> first | (cases h; exact ⟨_, rfl⟩) | cases h
def vCh : Expr → Option (Expr × CmpOp × Expr × CmpOp × Expr)
  | .Compare l [o, o'] [m, r] _ => some (l, o, m, o', r)
  | _ => none
theorem vCh_ok {e : Expr} {l m r : Expr} {o o' : CmpOp} (h : vCh e = some (l, o, m, o', r)) : ∃ p, e = .Compare l [o, o'] [m, r] p := by
  unfold vCh at h; split at h <;> first | (cases h; exact ⟨_, rfl⟩) | cases h
def vNeg : Expr → Option Expr
  | .UnaryOp .USub x _ => some x
  | _ => none
theorem vNeg_ok {e x : Expr} (h : vNeg e = some x) : ∃ p, e = .UnaryOp .USub x p := by
  unfold vNeg at h; split at h <;> first | (cases h; exact ⟨_, rfl⟩) | cases h
def vNot : Expr → Option Expr
  | .UnaryOp .Not x _ => some x
  | _ => none
theorem vNot_ok {e x : Expr} (h : vNot e = some x) : ∃ p, e = .UnaryOp .Not x p := by
  unfold vNot at h; split at h <;> first | (cases h; exact ⟨_, rfl⟩) | cases h
def vBop : Bool → Expr → Option (List Expr)
  | true, .BoolOp .And xs _ => some xs
  | false, .BoolOp .Or xs _ => some xs
  | _, _ => none
theorem vBop_ok {q : Bool} {e : Expr} {xs : List Expr} (h : vBop q e = some xs) : ∃ p, e = .BoolOp (if q = true then .And else .Or) xs p := by
  unfold vBop at h; split at h <;> first | (cases h; exact ⟨_, rfl⟩) | cases h
def vIf : Expr → Option (Expr × Expr × Expr)
  | .IfExp t a b _ => some (t, a, b)
  | _ => none
theorem vIf_ok {e t a b : Expr} (h : vIf e = some (t, a, b)) : ∃ p, e = .IfExp t a b p := by
  unfold vIf at h; split at h <;> first | (cases h; exact ⟨_, rfl⟩) | cases h
def vTup : Expr → Option (List Expr)
  | .Tuple xs _ _ => some xs
  | _ => none
theorem vTup_ok {e : Expr} {xs : List Expr} (h : vTup e = some xs) : ∃ k p, e = .Tuple xs k p := by
  unfold vTup at h; split at h <;> first | (cases h; exact ⟨_, _, rfl⟩) | cases h
def vLst : Expr → Option (List Expr)
  | .List xs _ => some xs
  | _ => none
theorem vLst_ok {e : Expr} {xs : List Expr} (h : vLst e = some xs) : ∃ p, e = .List xs p := by
  unfold vLst at h; split at h <;> first | (cases h; exact ⟨_, rfl⟩) | cases h
def vSub : Expr → Option (Expr × Expr)
  | .Subscript x i _ => some (x, i)
  | _ => none
theorem vSub_ok {e x i : Expr} (h : vSub e = some (x, i)) : ∃ p, e = .Subscript x i p := by
  unfold vSub at h; split at h <;> first | (cases h; exact ⟨_, rfl⟩) | cases h
def vSlLo : Expr → Option (Expr × Expr)
  | .Subscript x (.Slice (some i) none none _) _ => some (x, i)
  | _ => none
theorem vSlLo_ok {e x i : Expr} (h : vSlLo e = some (x, i)) : ∃ p p2, e = .Subscript x (.Slice (some i) none none p) p2 := by
  unfold vSlLo at h; split at h <;> first | (cases h; exact ⟨_, _, rfl⟩) | cases h
def vSlHi : Expr → Option (Expr × Expr)
  | .Subscript x (.Slice none (some i) none _) _ => some (x, i)
  | _ => none
theorem vSlHi_ok {e x i : Expr} (h : vSlHi e = some (x, i)) : ∃ p p2, e = .Subscript x (.Slice none (some i) none p) p2 := by
  unfold vSlHi at h; split at h <;> first | (cases h; exact ⟨_, _, rfl⟩) | cases h
def vSlBo : Expr → Option (Expr × Expr × Expr)
  | .Subscript x (.Slice (some i) (some j) none _) _ => some (x, i, j)
  | _ => none
theorem vSlBo_ok {e x i j : Expr} (h : vSlBo e = some (x, i, j)) : ∃ p p2, e = .Subscript x (.Slice (some i) (some j) none p) p2 := by
  unfold vSlBo at h; split at h <;> first | (cases h; exact ⟨_, _, rfl⟩) | cases h
/-- a call by name -/
def vCall : Expr → Option (Str × List Expr)
  | .Call (.Name x _) xs [] _ => some (x, xs)
  | _ => none
theorem vCall_ok {e : Expr} {x : Str} {xs : List Expr} (h : vCall e = some (x, xs)) : ∃ p p2, e = .Call (.Name x p) xs [] p2 := by
  unfold vCall at h; split at h <;> first | (cases h; exact ⟨_, _, rfl⟩) | cases h
def vAttr : Expr → Option (Expr × Str)
  | .Attribute x f _ => some (x, f)
  | _ => none
theorem vAttr_ok {e x : Expr} {f : Str} (h : vAttr e = some (x, f)) : ∃ p, e = .Attribute x f p := by
  unfold vAttr at h; split at h <;> first | (cases h; exact ⟨_, rfl⟩) | cases h
def vLc : Expr → Option (Expr × Expr × Expr × List Expr × Scope)
  | .ListComp x [⟨tg, iter, ifs, 0⟩] scope _ => some (x, tg, iter, ifs, scope)
  | _ => none
theorem vLc_ok {e x tg iter : Expr} {ifs : List Expr} {scope : Scope} (h : vLc e = some (x, tg, iter, ifs, scope)) : ∃ p, e = .ListComp x [⟨tg, iter, ifs, 0⟩] scope p := by
  unfold vLc at h; split at h <;> first | (cases h; exact ⟨_, rfl⟩) | cases h
/-- two, one -/
def v2 : List Expr → Option (Expr × Expr)
  | [a, b] => some (a, b)
  | _ => none
theorem v2_ok {l : List Expr} {a b : Expr} (h : v2 l = some (a, b)) : l = [a, b] := by
  unfold v2 at h; split at h <;> first | (cases h; rfl) | cases h
def v1 : List Expr → Option Expr
  | [a] => some a
  | _ => none
theorem v1_ok {l : List Expr} {a : Expr} (h : v1 l = some a) : l = [a] := by
  unfold v1 at h; split at h <;> first | (cases h; rfl) | cases h
/-- look at a part -/
def onS {α : Type} (o : Option α) (f : α → Bool) : Bool := match o with
  | some a => f a
  | none => false
theorem onS_ok {α : Type} {o : Option α} {f : α → Bool} (h : onS o f = true) : ∃ a, o = some a ∧ f a = true := by
  cases o with
  | none => cases h
  | some a => exact ⟨a, rfl, h⟩
/-- isinstance(e, ..) -/
def vIsi (P : Pm) (sc : Scope) (e : Expr) : Option (Expr × Expr) := match vCall e with
  | some (x, xs) => if decide (x = "isinstance") && (P.bl.contains x && (isGl sc x && xs.all noStar)) then v2 xs else none
  | none => none
theorem vIsi_ok {P : Pm} {sc : Scope} {e a b : Expr} (h : vIsi P sc e = some (a, b)) : ∃ p p2, e = .Call (.Name "isinstance" p) [a, b] [] p2 ∧ P.bl.contains "isinstance" = true ∧ isGl sc "isinstance" = true ∧ [a, b].all noStar = true := by
  unfold vIsi at h
  split at h
  · rename_i x xs q
    split at h
    · rename_i c
      obtain ⟨p, p2, rfl⟩ := vCall_ok q
      rw [Bool.and_eq_true, Bool.and_eq_true, Bool.and_eq_true] at c
      obtain ⟨c1, c2, c3, c4⟩ := c
      have e1 := of_decide_eq_true c1
      subst e1
      have e2 := v2_ok h
      subst e2
      exact ⟨p, p2, rfl, c2, c3, c4⟩
    · cases h
  · cases h
def vTy (P : Pm) (sc : Scope) (n : String) (e : Expr) : Bool := onS (vName e) fun y => decide (y = Str.ofString n) && (tyNames.contains n && (P.bl.contains y && isGl sc y))
def vOwn (P : Pm) (sc : Scope) (c : Str) (e : Expr) : Bool := onS (vName e) fun y => decide (y = c) && (P.cs.contains c && (okName y && isGl sc y))
def vBlt (P : Pm) (sc : Scope) (nm : Str) (e : Expr) : Option (List Expr) := match vCall e with
  | some (x, xs) => if decide (x = nm) && (P.bl.contains x && (isGl sc x && (!xs.isEmpty && xs.all noStar))) then some xs else none
  | none => none
theorem vBlt_ok {P : Pm} {sc : Scope} {nm : Str} {e : Expr} {xs : List Expr} (h : vBlt P sc nm e = some xs) : ∃ p p2 a r, xs = a :: r ∧ e = .Call (.Name nm p) (a :: r) [] p2 ∧ P.bl.contains nm = true ∧ isGl sc nm = true ∧ (a :: r).all noStar = true := by
  unfold vBlt at h
  split at h
  · rename_i x ys q
    split at h
    · rename_i c
      obtain ⟨p, p2, rfl⟩ := vCall_ok q
      rw [Bool.and_eq_true, Bool.and_eq_true, Bool.and_eq_true, Bool.and_eq_true] at c
      obtain ⟨c1, c2, c3, c4, c5⟩ := c
      have e1 := of_decide_eq_true c1
      subst e1
      cases h
      cases xs with
      | nil => cases c4
      | cons a r => exact ⟨p, p2, a, r, rfl, rfl, c2, c3, c5⟩
    · cases h
  · cases h
mutual
def chE (P : Pm) (sc : Scope) : Ce → Expr → Bool
  | .var i, e => onS (vName e) fun x => decide (P.N[i]? = some x) && (isVis sc x && okName x)
  | .cst d, e => onS (vCst e) fun c => cstIs d c
  | .glo k, e => onS (vName e) fun x => gcIs P.gn[k]? x && (isGl sc x && okName x)
  | .bin o a b, e => onS (vBin e) fun q => boIs o q.2.1 && (chE P sc a q.1 && chE P sc b q.2.2)
  | .cmp o a b, e => onS (vCmp e) fun q => coIs o q.2.1 && (notSet q.2.2 && (chE P sc a q.1 && chE P sc b q.2.2))
  | .chain o o' a b c, e => onS (vCh e) fun q => coIs o q.2.1 && (coIs o' q.2.2.2.1 && (notSet q.2.2.2.2 && (chE P sc a q.1 && (chE P sc b q.2.2.1 && chE P sc c q.2.2.2.2))))
  | .neg a, e => onS (vNeg e) fun x => chE P sc a x
  | .not a, e => onS (vNot e) fun x => notIf x && chE P sc a x
  | .bop q es, e => onS (vBop q e) fun xs => xs.all notIf && (!xs.isEmpty && chA P sc es xs)
  | .ife c a b, e => onS (vIf e) fun q => notIf q.1 && (chE P sc c q.1 && (chE P sc a q.2.1 && chE P sc b q.2.2))
  | .tup es, e => onS (vTup e) fun xs => xs.all noStar && (decide (xs.length ≤ 1000) && chA P sc es xs)
  | .lst es, e => onS (vLst e) fun xs => xs.all noStar && (decide (xs.length ≤ 1000) && chA P sc es xs)
  | .ix a b, e => onS (vSub e) fun q => noSlice q.2 && (chE P sc a q.1 && chE P sc b q.2)
  | .slLo a b, e => onS (vSlLo e) fun q => chE P sc a q.1 && chE P sc b q.2
  | .slHi a b, e => onS (vSlHi e) fun q => chE P sc a q.1 && chE P sc b q.2
  | .slBo a b c, e => onS (vSlBo e) fun q => chE P sc a q.1 && (chE P sc b q.2.1 && chE P sc c q.2.2)
  | .blt o es, e => onS (vBlt P sc (blName o) e) fun xs => chA P sc es xs
  | .call k es, e => onS (vCall e) fun q => fnIs P.gn[k]? q.1 q.2.length && (isGl sc q.1 && (okName q.1 && (q.2.all noStar && chA P sc es q.2)))
  | .isi q a, e => onS (vIsi P sc e) fun r => (match q with
    | .bty n => vTy P sc n r.2
    | .own c => vOwn P sc c r.2) && chE P sc a r.1
  | .isiT n1 n2 a, e => onS (vIsi P sc e) fun r => onS (vTup r.2) fun l => onS (v2 l) fun q => vTy P sc n1 q.1 && (vTy P sc n2 q.2 && (noStar q.1 && (noStar q.2 && chE P sc a r.1)))
  | .attr c f a, e => onS (vAttr e) fun q => decide (q.2 = f) && (P.ats.contains (c, f) && (noCall q.1 && chE P sc a q.1))
  | .lc0 elt t it own, e => onS (vLc e) fun q => (q.2.2.2.1.isEmpty && (tgInB t own && (blkC P.N sc q.2.2.2.2 (ownOf P.N own) && tgLoc P.N (relS q.2.2.2.2 sc) t q.2.1))) && (notSet q.2.2.1 && (chI P sc it (isTup q.2.1) q.2.2.1 && chE P (relS q.2.2.2.2 sc) elt q.1))
  | .lc1 elt t it cond own, e => onS (vLc e) fun q => onS (v1 q.2.2.2.1) fun y => (tgInB t own && (blkC P.N sc q.2.2.2.2 (ownOf P.N own) && tgLoc P.N (relS q.2.2.2.2 sc) t q.2.1)) && (notSet q.2.2.1 && (notIf y && (chI P sc it (isTup q.2.1) q.2.2.1 && (chE P (relS q.2.2.2.2 sc) cond y && chE P (relS q.2.2.2.2 sc) elt q.1))))
def chA (P : Pm) (sc : Scope) : Ca → List Expr → Bool
  | .nil, es => es.isEmpty
  | .cons a r, es => (match es with
    | [] => false
    | e :: es => chE P sc a e && chA P sc r es)
def chI (P : Pm) (sc : Scope) : Ci → Bool → Expr → Bool
  | .seq a, _, e => chE P sc a e
  | .rg1 a, _, e => onS (vBlt P sc "range" e) fun xs => onS (v1 xs) fun x => chE P sc a x
  | .rg2 a b, _, e => onS (vBlt P sc "range" e) fun xs => onS (v2 xs) fun q => chE P sc a q.1 && chE P sc b q.2
  | .enum a, tp, e => tp && onS (vBlt P sc "enumerate" e) fun xs => onS (v1 xs) fun x => chE P sc a x
end
end BF
set_option Elab.async false
set_option linter.all false
set_option autoImplicit false
set_option maxRecDepth 100000
set_option maxHeartbeats 4000000
namespace BF
open PySem PySem.Spec PyProof.Rows L2
section
variable {G : Type}
/-- what is true of the globals -/
structure GOk (X : Cx) (K : Env1) (T : Gt G) (k : Nat) (P : Pm) (Γ : Gam G) : Prop where
  gn : P.gn = Γ.map fun p => (p.1, kindG p.2)
  cst : ∀ (j : Nat) x d, Γ[j]? = some (x, .cst d) → ∃ u v, X.mg x = some u ∧ RelV v u ∧ ∀ F, Rep K F v d
  fn : ∀ (j : Nat) x n m, Γ[j]? = some (x, .fn n m) → ∃ kf f fd ps, kf ≤ k ∧ FnOk X.prog X.w X.K X.mg X.base (L2.CX X.prog X.w) kf f fd ps (spD K T n m) ∧ X.mg x = some (.ref f) ∧ PySem.W.keepIn X.K (.ref f) = true ∧ Binds X.K fd ps []
  mks : ∀ (j : Nat) x c f n m, Γ[j]? = some (x, .mk c f n m) → ∃ kf fi fd ps, 0 < n ∧ kf + 1 ≤ k ∧ FnOk X.prog X.w X.K X.mg X.base (L2.CX X.prog X.w) kf fi fd ps (spI K T c f n m) ∧ X.mg x = some (.ref (K.co c)) ∧ Mk X.K (K.co c) fi ∧ Binds X.K fd ps []
  bl : ∀ x ∈ P.bl, X.mg x = none
  csE : P.cs = K.cs
  cs : ∀ c ∈ K.cs, ClsOk K c
  csG : ∀ c ∈ K.cs, X.mg c = some (.ref (K.co c))
  ats : ∀ q ∈ P.ats, Cls K.K (K.co q.1) ∧ NoAttr K.K (K.co q.1) q.2
structure Snd (X : Cx) (K : Env1) (T : Gt G) (W : WX1) (k : Nat) (P : Pm) (Γ : Gam G) (sc : Scope) : Prop where
  ctx : Ctx X K W k
  glob : GOk X K T k P Γ
  N : X.N = P.N
  scope : X.env.scope = sc
end
section
variable {G : Type} {X : Cx} {K : Env1} {T : Gt G} {W : WX1} {k : Nat} {P : Pm} {Γ : Gam G} {sc : Scope}
theorem Snd.blk (S : Snd X K T W k P Γ sc) (s : Shared) (H : Hp) (scope : Scope) (C : Addr) (cl : List (Str × Addr)) (fp : List Addr) : Snd (X.blk s H scope (compEnvC scope cl C X.env) fp) K T W0 k P Γ (relS scope sc) where
  ctx := S.ctx.blk s H scope _ fp
  glob := ⟨S.glob.gn, S.glob.cst, S.glob.fn, S.glob.mks, S.glob.bl, S.glob.csE, S.glob.cs, S.glob.csG, S.glob.ats⟩
  N := S.N
  scope := by rw [← S.scope]; rfl
theorem ba {a b : Bool} (h : (a && b) = true) : a = true ∧ b = true := Bool.and_eq_true_iff.mp h
theorem okName_of {x : Str} (h : okName x = true) : (x == ("__debug__" : Str)) = false ∧ (x == ("__classdict__" : Str)) = false ∧ x ≠ "__name__" := by
  unfold okName at h
  obtain ⟨h1, h2⟩ := ba h
  obtain ⟨h2, h3⟩ := ba h2
  exact ⟨by simpa using h1, by simpa using h2, of_decide_eq_true h3⟩
theorem Snd.gl (S : Snd X K T W k P Γ sc) {x : Str} (h : isGl sc x = true) : Gl X x := by
  show X.env.scope.names.lookup x = _
  rw [S.scope]
  exact gl_of h
theorem Snd.vis (S : Snd X K T W k P Γ sc) {x : Str} (h : isVis sc x = true) : Vis X.env.scope x := by
  rw [S.scope]
  exact vis_of h
theorem Snd.bl (S : Snd X K T W k P Γ sc) {x : Str} (h : P.bl.contains x = true) : X.mg x = none := S.glob.bl x (by simpa using h)
theorem notSet_marks {op : CmpOp} {e : Expr} (h : notSet e = true) : behindInMarks op e = false := by
  cases e <;> first | rfl | cases h
theorem bo_ok {o : Bo} {op : Operator} (hk : K.K = X.K) (h : boIs o op = true) : ∃ r, OpR X (binaryOp op) r ∧ Op2 K (boF o) r := by
  cases o <;> cases op <;> first | (cases h; done) | skip
  · exact ⟨_, op_add.or (op_cat.or (op_catA.or op_add_str)), by rw [← hk]; exact op2_add⟩
  · exact ⟨_, op_sub, op2_sub⟩
  · exact ⟨_, op_mul.or (op_rep.or op_repT), by rw [← hk]; exact op2_mul⟩
  · exact ⟨_, op_fdiv, op2_fdiv⟩
  · exact ⟨_, op_mod, op2_mod⟩
  · exact ⟨_, op_pow, op2_pow⟩
theorem co_ok {o : Co} {op : CmpOp} (hk : K.K = X.K) (hu : X.A.units + 65 < cLine) (h : coIs o op = true) : ∃ r, OpR X (compareOp op) r ∧ Op2 K (coF o) r := by
  have hu2 : X.A.units + 64 < cLine := by omega
  cases o <;> cases op <;> first | (cases h; done) | skip
  · exact ⟨_, op_eq.or (op_eqD hu2), by rw [← hk]; exact op2_eq⟩
  · exact ⟨_, op_ne.or (op_neD hu2), by rw [← hk]; exact op2_ne⟩
  · exact ⟨_, op_lt, op2_lt⟩
  · exact ⟨_, op_le, op2_le⟩
  · exact ⟨_, op_gt, op2_gt⟩
  · exact ⟨_, op_ge, op2_ge⟩
  · exact ⟨_, (op_inD hu).or (op_inT hu), by rw [← hk]; exact op2_in⟩
  · exact ⟨_, (op_notInD hu).or (op_notInT hu), by rw [← hk]; exact op2_nin⟩
  · exact ⟨_, op_isN, op2_is⟩
  · exact ⟨_, op_notN, op2_isn⟩
theorem CallR.or {f : Value} {r r' : List V → Hp → VK → Prop} (h : CallR X f r) (h' : CallR X f r') : CallR X f (fun xs H Q => r xs H Q ∨ r' xs H Q) := by
  intro pins s σ H vs us Q I rv q
  rcases q with q | q
  · exact h pins s σ H vs us Q I rv q
  · exact h' pins s σ H vs us Q I rv q
/-- a built-in's call -/
theorem bl_ok {o : Bl} (hk : K.K = X.K) (hc : X.calm = true) : (∃ id r, bootBuiltins (blName o) = some (.builtin id) ∧ CallR X (.builtin id) r ∧ Opn K (blF o) r) ∨ (∃ id r, bootBuiltins (blName o) = some (.type id) ∧ CallR X (.type id) r ∧ Opn K (blF o) r) := by
  cases o
  · exact .inl ⟨"len", _, by decide +kernel, call_len_seq.or call_len_str, by rw [← hk]; exact opn_len⟩
  · exact .inr ⟨"int", _, by decide +kernel, call_int1, opn_int⟩
  · exact .inr ⟨"tuple", _, by decide +kernel, call_tuple_of, by rw [← hk]; exact opn_tuple⟩
  · exact .inr ⟨"list", _, by decide +kernel, call_list_of, by rw [← hk]; exact opn_list⟩
  · exact .inr ⟨"str", _, by decide +kernel, call_str_int, opn_str⟩
  · exact .inl ⟨"sum", _, by decide +kernel, cr_sum hc, by rw [← hk]; exact opn_sum⟩
  · exact .inl ⟨"max", _, by decide +kernel, cr_max hc, by rw [← hk]; exact opn_max⟩
  · exact .inl ⟨"min", _, by decide +kernel, cr_min hc, by rw [← hk]; exact opn_min⟩
  · exact .inl ⟨"max", _, by decide +kernel, call_max2 hc, opn_max2⟩
  · exact .inl ⟨"min", _, by decide +kernel, call_min2 hc, opn_min2⟩
  · exact .inl ⟨"all", _, by decide +kernel, cr_all hc, by rw [← hk]; exact opn_all⟩
  · exact .inl ⟨"any", _, by decide +kernel, cr_any hc, by rw [← hk]; exact opn_any⟩
theorem blName_ok (o : Bl) : blName o ≠ "__name__" ∧ (blName o == ("__debug__" : Str)) = false := by cases o <;> exact ⟨by decide +kernel, by decide +kernel⟩
theorem ty_boot {n : String} (h : tyNames.contains n = true) : bootBuiltins (Str.ofString n) = some (.type n) ∧ Str.ofString n ≠ "__name__" ∧ (Str.ofString n == ("__debug__" : Str)) = false := by
  have h : n ∈ tyNames := by simpa using h
  simp only [tyNames, List.mem_cons, List.not_mem_nil, or_false] at h
  rcases h with rfl | rfl | rfl | rfl | rfl <;> exact ⟨by decide +kernel, by decide +kernel, by decide +kernel⟩
theorem se_ty {n : String} {p : Pos} (S : Snd X K T W k P Γ sc) (h : tyNames.contains n = true) (hb : P.bl.contains (Str.ofString n) = true) (hg : isGl sc (Str.ofString n) = true) : SE X K T W (.Name (Str.ofString n) p) (evC (G := G) (.ty n)) := by
  obtain ⟨h1, h2, h3⟩ := ty_boot h
  exact se_bltn (v := .ty n) (S.gl hg) (S.bl hb) h1 rfl (fun F => .ty n) h2 h3
theorem tgLoc_ok {N : List Str} {sc : Scope} : ∀ {t : Tg} {e : Expr}, tgLoc N sc t e = true → tgOk N sc t e = true := by
  have gos : ∀ {ix : List Nat} {es : List Expr}, tgLoc.go N sc ix es = true → tgOk.tgsOk N sc ix es = true := by
    intro ix
    induction ix with
    | nil =>
      intro es h
      cases es with
      | nil => rfl
      | cons e es => cases e <;> cases h
    | cons i ix ih =>
      intro es h
      cases es with
      | nil => cases h
      | cons e es =>
        cases e with
        | Name x p =>
          obtain ⟨h1, h2⟩ := ba (show ((decide (N[i]? = some x) && decide (sc.names.lookup x = some .local)) && tgLoc.go N sc ix es) = true from h)
          obtain ⟨h3, h4⟩ := ba h1
          show ((decide (N[i]? = some x) && _) && tgOk.tgsOk N sc ix es) = true
          rw [h3, ih h2, of_decide_eq_true h4]
          rfl
        | _ => cases h
  intro t e h
  cases t with
  | nm i =>
    cases e with
    | Name x p =>
      obtain ⟨h3, h4⟩ := ba (show (decide (N[i]? = some x) && decide (sc.names.lookup x = some .local)) = true from h)
      show (decide (N[i]? = some x) && _) = true
      rw [h3, of_decide_eq_true h4]
      rfl
    | _ => cases h
  | tp ix =>
    cases e with
    | Tuple es k p => exact gos h
    | _ => cases h
theorem tgInB_ok {t : Tg} {l : List Nat} (h : tgInB t l = true) : tgIn t l := by
  cases t with
  | nm i => show i ∈ l; simpa [tgInB] using h
  | tp ix =>
    intro i hi
    have := List.all_eq_true.mp (show (ix.all fun i => l.contains i) = true from h) i hi
    simpa using this
/-- the targets of a block -/
theorem pg_loc {tg : Expr} {t : Tg} {scope : Scope} (S : Snd X K T W k P Γ sc) (h : tgLoc P.N (relS scope sc) t tg = true) (s : Shared) (H : Hp) (C : Addr) (cl : List (Str × Addr)) (fp : List Addr) : PG (X.blk s H scope (compEnvC scope cl C X.env) fp) tg (gOf X.K t) := by
  have Sb := S.blk s H scope C cl fp
  have names : ∀ (ix : List Nat) (es : List Expr), tgLoc.go P.N (relS scope sc) ix es = true → PGs (X.blk s H scope (compEnvC scope cl C X.env) fp) es (gNames ix) ∧ ix.length = es.length := by
    intro ix
    induction ix with
    | nil =>
      intro es h
      cases es with
      | nil => exact ⟨pgs_nil, rfl⟩
      | cons e es => cases e <;> cases h
    | cons i ix ih =>
      intro es h
      cases es with
      | nil => cases h
      | cons e es =>
        cases e with
        | Name x p =>
          obtain ⟨h1, h2⟩ := ba (show ((decide (P.N[i]? = some x) && decide ((relS scope sc).names.lookup x = some .local)) && tgLoc.go P.N (relS scope sc) ix es) = true from h)
          obtain ⟨h3, h4⟩ := ba h1
          obtain ⟨q1, q2⟩ := ih es h2
          have hl : (X.blk s H scope (compEnvC scope cl C X.env) fp).env.scope.names.lookup x = some .local := by rw [Sb.scope]; exact of_decide_eq_true h4
          exact ⟨pgs_cons (pg_name Sb.ctx.nd (by rw [Sb.N]; exact of_decide_eq_true h3) (.inl hl) (.inr hl)) q1 rfl, by simp [q2]⟩
        | _ => cases h
  cases t with
  | nm i =>
    cases tg with
    | Name x p =>
      obtain ⟨h3, h4⟩ := ba (show (decide (P.N[i]? = some x) && decide ((relS scope sc).names.lookup x = some .local)) = true from h)
      have hl : (X.blk s H scope (compEnvC scope cl C X.env) fp).env.scope.names.lookup x = some .local := by rw [Sb.scope]; exact of_decide_eq_true h4
      exact pg_name Sb.ctx.nd (by rw [Sb.N]; exact of_decide_eq_true h3) (.inl hl) (.inr hl)
    | _ => cases h
  | tp ix =>
    cases tg with
    | Tuple es kk p =>
      obtain ⟨q1, q2⟩ := names ix es h
      have hok : tgOk P.N (relS scope sc) (.tp ix) (.Tuple es kk p) = true := tgLoc_ok h
      exact pg_tup Sb.ctx.calm q1 ((asgEach_len es).trans q2.symm) (asgEach_none hok)
    | _ => cases h
theorem units65 {A : Around} (hr : Room k A) : A.units + 65 < cLine := by
  have := hr.un; omega
end
end BF
set_option Elab.async false
set_option linter.all false
set_option autoImplicit false
set_option maxRecDepth 100000
set_option maxHeartbeats 4000000
namespace BF
open PySem PySem.Spec PyProof.Rows L2
section
variable {G : Type} {K : Env1} {T : Gt G} {k : Nat} {P : Pm} {Γ : Gam G}
/-- what is shown of an expression -/
def GoodE (K : Env1) (T : Gt G) (k : Nat) (P : Pm) (Γ : Gam G) (c : Ce) : Prop := ∀ (X : Cx) (W : WX1) (sc : Scope) (e : Expr), Snd X K T W k P Γ sc → chE P sc c e = true → SE X K T W e (ev K Γ c) ∧ (notIf e = true → ST X K T W e (ev K Γ c))
def GoodA (K : Env1) (T : Gt G) (k : Nat) (P : Pm) (Γ : Gam G) (c : Ca) : Prop := ∀ (X : Cx) (W : WX1) (sc : Scope) (es : List Expr), Snd X K T W k P Γ sc → chA P sc c es = true → SL X K T W es (evA K Γ c) ∧
  (es.all notIf = true → es.isEmpty = false → ∀ pos, (SE X K T W (.BoolOp .And es pos) (evB K Γ true c) ∧ SW X K T W (.BoolOp .And es pos) (evB K Γ true c)) ∧ (SE X K T W (.BoolOp .Or es pos) (evB K Γ false c) ∧ SW X K T W (.BoolOp .Or es pos) (evB K Γ false c)))
def GoodI (K : Env1) (T : Gt G) (k : Nat) (P : Pm) (Γ : Gam G) (c : Ci) : Prop := ∀ (X : Cx) (W : WX1) (sc : Scope) (tg e : Expr), Snd X K T W k P Γ sc → chI P sc c (isTup tg) e = true → SI X K T W tg e (evI K Γ c)
theorem sl1 {X : Cx} {W : WX1} {a : Expr} {f : Sg G → Rs G Ov} (h : SE X K T W a f) : SL X K T W [a] (evCons f evNil) := sl_cons h sl_nil
theorem sl2 {X : Cx} {W : WX1} {a b : Expr} {f g : Sg G → Rs G Ov} (h : SE X K T W a f) (h2 : SE X K T W b g) : SL X K T W [a, b] (evCons f (evCons g evNil)) := sl_cons h (sl_cons h2 sl_nil)
theorem both {X : Cx} {W : WX1} {e : Expr} {f : Sg G → Rs G Ov} (h : SE X K T W e f) (he : ∀ whole, isTrue e X.env whole = (do let v ← whole; standAt e.pos; holding [v] (truthy v))) : SE X K T W e f ∧ (notIf e = true → ST X K T W e f) := ⟨h, fun _ => st_val he h⟩
theorem lcok {X : Cx} {W : WX1} {sc : Scope} {elt tg iter : Expr} {ifs : List Expr} {scope : Scope} {own : List Nat} {fi : Sg G → Rs G (List D)} {t : Tg} {ft fe : Sg G → Rs G Ov} (S : Snd X K T W k P Γ sc) (h1 : tgInB t own = true) (h2 : blkC P.N sc scope (ownOf P.N own) = true) (h3 : tgLoc P.N (relS scope sc) t tg = true) (h4 : notSet iter = true) (hl : ifs.length ≤ 1)
    (hi : SI X K T W tg iter fi) (ht : ∀ (s : Shared) (H : Hp) (C : Addr) (cl : List (Str × Addr)) (fp : List Addr), STs (X.blk s H scope (compEnvC scope cl C X.env) fp) K T W0 ifs ft)
    (he : ∀ (s : Shared) (H : Hp) (C : Addr) (cl : List (Str × Addr)) (fp : List Addr), SE (X.blk s H scope (compEnvC scope cl C X.env) fp) K T W0 elt fe) : LcOk X K T W elt tg iter ifs scope (ownOf P.N own) fi t ft fe where
  kk := S.ctx.kk
  calm := S.ctx.calm
  nd := S.ctx.nd
  it := hi
  ok := by rw [S.N, S.scope]; exact blkOk_by h2
  tgt := fun s H C cl fp => pg_loc S h3 s H C cl fp
  ifl := hl
  tst := ht
  elt := he
  ns := h4
  tow := by rw [ownOf_snd]; exact tgInB_ok h1
mutual
theorem good_e : ∀ (c : Ce), GoodE K T k P Γ c
  | .var i => fun X W sc e S h0 => by
    obtain ⟨x, v, ha⟩ := onS_ok h0
    obtain ⟨p, rfl⟩ := vName_ok v
    obtain ⟨h1, h2⟩ := ba ha
    obtain ⟨h2, h3⟩ := ba h2
    obtain ⟨n1, n2, n3⟩ := okName_of h3
    exact both (se_var (by rw [S.N]; exact of_decide_eq_true h1) (S.vis h2) n1 n2) fun _ => rfl
  | .cst d => fun X W sc e S h0 => by
    obtain ⟨c, v, ha⟩ := onS_ok h0
    obtain ⟨kk, p, rfl⟩ := vCst_ok v
    have h : cstIs d c = true := ha
    cases d <;> cases c <;> first | (cases h; done) | skip
    · exact both se_non fun _ => rfl
    · cases (of_decide_eq_true h); exact both se_bl fun _ => rfl
    · cases (of_decide_eq_true h); exact both se_int fun _ => rfl
    · cases (of_decide_eq_true h); exact both se_str fun _ => rfl
  | .glo j => fun X W sc e S h0 => by
    obtain ⟨x, v, ha⟩ := onS_ok h0
    obtain ⟨p, rfl⟩ := vName_ok v
    obtain ⟨h1, h2⟩ := ba ha
    obtain ⟨h2, h3⟩ := ba h2
    obtain ⟨n1, n2, n3⟩ := okName_of h3
    rw [S.glob.gn, List.getElem?_map] at h1
    unfold ev
    cases q : Γ[j]? with
    | none => rw [q] at h1; cases h1
    | some r =>
      obtain ⟨y, gd⟩ := r
      rw [q] at h1
      cases gd with
      | cst d =>
        have h1 : decide (y = x) = true := h1
        cases (of_decide_eq_true h1)
        obtain ⟨u, v, e1, e2, e3⟩ := S.glob.cst j _ d q
        exact both (se_glob (S.gl h2) e1 e2 e3 n1) fun _ => rfl
      | fn n m => cases h1
      | mk c f n m => cases h1
  | .bin o a b => fun X W sc e S h0 => by
    obtain ⟨⟨l, op, r⟩, v, ha⟩ := onS_ok h0
    obtain ⟨p, rfl⟩ := vBin_ok v
    obtain ⟨h1, h2⟩ := ba ha
    obtain ⟨h2, h3⟩ := ba h2
    obtain ⟨r, k1, k2⟩ := bo_ok (X := X) (K := K) S.ctx.kk h1
    exact both (se_bin k1 k2 (sl2 (good_e a X W sc _ S h2).1 (good_e b X W sc _ S h3).1)) fun _ => rfl
  | .cmp o a b => fun X W sc e S h0 => by
    obtain ⟨⟨l, op, r⟩, v, ha⟩ := onS_ok h0
    obtain ⟨p, rfl⟩ := vCmp_ok v
    obtain ⟨h1, h2⟩ := ba ha
    obtain ⟨h2, h3⟩ := ba h2
    obtain ⟨h3, h4⟩ := ba h3
    obtain ⟨r, k1, k2⟩ := co_ok (X := X) (K := K) S.ctx.kk (units65 S.ctx.room) h1
    have sl := sl2 (good_e a X W sc _ S h3).1 (good_e b X W sc _ S h4).1
    exact ⟨se_cmp k1 k2 sl (notSet_marks h2), fun _ => st_cmp k1 k2 sl (notSet_marks h2)⟩
  | .chain o o' a b c => fun X W sc e S h0 => by
    obtain ⟨⟨l, op, m, op', r⟩, v, ha⟩ := onS_ok h0
    obtain ⟨p, rfl⟩ := vCh_ok v
    obtain ⟨h1, h2⟩ := ba ha
    obtain ⟨h2, h3⟩ := ba h2
    obtain ⟨h3, h4⟩ := ba h3
    obtain ⟨h4, h5⟩ := ba h4
    obtain ⟨h5, h6⟩ := ba h5
    obtain ⟨r, k1, k2⟩ := co_ok (X := X) (K := K) S.ctx.kk (units65 S.ctx.room) h1
    obtain ⟨r', k3, k4⟩ := co_ok (X := X) (K := K) S.ctx.kk (units65 S.ctx.room) h2
    have sl := sl2 (good_e a X W sc _ S h4).1 (good_e b X W sc _ S h5).1
    have gc := (good_e c X W sc _ S h6).1
    have hm : ∀ {m r : Expr}, notSet r = true → lastMarks [op, op'] [m, r] = false := fun h => notSet_marks h
    exact ⟨se_chain k1 k3 k2 k4 sl gc (hm h3), fun _ => st_chain k1 k3 k2 k4 sl gc (hm h3)⟩
  | .neg a => fun X W sc e S h0 => by
    obtain ⟨x, v, ha⟩ := onS_ok h0
    obtain ⟨p, rfl⟩ := vNeg_ok v
    exact both (se_neg (sl1 (good_e a X W sc _ S ha).1)) fun _ => rfl
  | .not a => fun X W sc e S h0 => by
    obtain ⟨x, v, ha⟩ := onS_ok h0
    obtain ⟨p, rfl⟩ := vNot_ok v
    obtain ⟨h1, h2⟩ := ba ha
    obtain ⟨g1, g2⟩ := good_e a X W sc _ S h2
    exact ⟨se_not g1, fun _ => st_not (g2 h1)⟩
  | .bop q es => fun X W sc e S h0 => by
    obtain ⟨xs, v, ha⟩ := onS_ok h0
    obtain ⟨p, rfl⟩ := vBop_ok v
    obtain ⟨h1, h2⟩ := ba ha
    obtain ⟨h2, h3⟩ := ba h2
    obtain ⟨_, g⟩ := good_a es X W sc _ S h3
    obtain ⟨⟨g1, g2⟩, ⟨g3, g4⟩⟩ := g h1 (by simpa using h2) p
    cases q with
    | true => exact ⟨g1, fun _ => g2.st⟩
    | false => exact ⟨g3, fun _ => g4.st⟩
  | .ife c a b => fun X W sc e S h0 => by
    obtain ⟨⟨t, x, y⟩, v, ha⟩ := onS_ok h0
    obtain ⟨p, rfl⟩ := vIf_ok v
    obtain ⟨h1, h2⟩ := ba ha
    obtain ⟨h2, h3⟩ := ba h2
    obtain ⟨h3, h4⟩ := ba h3
    exact ⟨se_if ((good_e c X W sc _ S h2).2 h1) (good_e a X W sc _ S h3).1 (good_e b X W sc _ S h4).1, fun z => by cases z⟩
  | .tup es => fun X W sc e S h0 => by
    obtain ⟨xs, v, ha⟩ := onS_ok h0
    obtain ⟨kk, p, rfl⟩ := vTup_ok v
    obtain ⟨h1, h2⟩ := ba ha
    obtain ⟨h2, h3⟩ := ba h2
    have hz : xs.length ≤ sizeLine := by have := of_decide_eq_true h2; rw [sizeLine_eq]; omega
    exact both (se_tup h1 hz (good_a es X W sc _ S h3).1) fun _ => rfl
  | .lst es => fun X W sc e S h0 => by
    obtain ⟨xs, v, ha⟩ := onS_ok h0
    obtain ⟨p, rfl⟩ := vLst_ok v
    obtain ⟨h1, h2⟩ := ba ha
    obtain ⟨h2, h3⟩ := ba h2
    have hz : xs.length ≤ sizeLine := by have := of_decide_eq_true h2; rw [sizeLine_eq]; omega
    exact both (se_lst h1 hz (good_a es X W sc _ S h3).1) fun _ => rfl
  | .ix a b => fun X W sc e S h0 => by
    obtain ⟨⟨x, i⟩, v, ha⟩ := onS_ok h0
    obtain ⟨p, rfl⟩ := vSub_ok v
    obtain ⟨h1, h2⟩ := ba ha
    obtain ⟨h2, h3⟩ := ba h2
    exact both (se_ix ix_seq (by rw [← S.ctx.kk]; exact op2_ix) (sl2 (good_e a X W sc _ S h2).1 (good_e b X W sc _ S h3).1) (plainIx_of h1)) fun _ => rfl
  | .slLo a b => fun X W sc e S h0 => by
    obtain ⟨⟨x, i⟩, v, ha⟩ := onS_ok h0
    obtain ⟨p, p2, rfl⟩ := vSlLo_ok v
    obtain ⟨h1, h2⟩ := ba ha
    exact both (se_slLo S.ctx.kk (sl2 (good_e a X W sc _ S h1).1 (good_e b X W sc _ S h2).1)) fun _ => rfl
  | .slHi a b => fun X W sc e S h0 => by
    obtain ⟨⟨x, i⟩, v, ha⟩ := onS_ok h0
    obtain ⟨p, p2, rfl⟩ := vSlHi_ok v
    obtain ⟨h1, h2⟩ := ba ha
    exact both (se_slHi S.ctx.kk (sl2 (good_e a X W sc _ S h1).1 (good_e b X W sc _ S h2).1)) fun _ => rfl
  | .slBo a b c => fun X W sc e S h0 => by
    obtain ⟨⟨x, i, j⟩, v, ha⟩ := onS_ok h0
    obtain ⟨p, p2, rfl⟩ := vSlBo_ok v
    obtain ⟨h1, h2⟩ := ba ha
    obtain ⟨h2, h3⟩ := ba h2
    exact both (se_slBo S.ctx.kk (sl2 (good_e a X W sc _ S h1).1 (good_e b X W sc _ S h2).1) (good_e c X W sc _ S h3).1) fun _ => rfl
  | .blt o es => fun X W sc e S h0 => by
    obtain ⟨xs, v, ha⟩ := onS_ok h0
    obtain ⟨p, p2, a, r, rfl, rfl, h1, h2, h3⟩ := vBlt_ok v
    have g := (good_a es X W sc _ S ha).1
    obtain ⟨n1, n2⟩ := blName_ok o
    rcases bl_ok (X := X) (K := K) (o := o) S.ctx.kk S.ctx.calm with ⟨id, r, k1, k2, k3⟩ | ⟨id, r, k1, k2, k3⟩
    · exact both (se_blt k2 k3 (S.gl h2) (S.bl h1) k1 n1 n2 h3 g) fun _ => rfl
    · exact both (se_bty k2 k3 (S.gl h2) (S.bl h1) k1 n1 n2 h3 g) fun _ => rfl
  | .call j es => fun X W sc e S h0 => by
    obtain ⟨⟨x, xs⟩, v, ha⟩ := onS_ok h0
    obtain ⟨p, p2, rfl⟩ := vCall_ok v
    obtain ⟨h1, g2⟩ := ba ha
    obtain ⟨h2, g3⟩ := ba g2
    obtain ⟨h3, g4⟩ := ba g3
    obtain ⟨h4, h5⟩ := ba g4
    clear h0 ha g2 g3 g4
    obtain ⟨n1, n2, n3⟩ := okName_of h3
    rw [S.glob.gn, List.getElem?_map] at h1
    unfold ev
    cases q : Γ[j]? with
    | none => rw [q] at h1; cases h1
    | some r =>
      obtain ⟨y, gd⟩ := r
      rw [q] at h1
      cases gd with
      | fn n m =>
        obtain ⟨h6, h7⟩ := ba (show (decide (y = x) && decide (n = xs.length)) = true from h1)
        cases (of_decide_eq_true h6)
        obtain ⟨kf, f, fd, ps, f1, f2, f3, f4, f5⟩ := S.glob.fn j _ n m q
        have g := (good_a es X W sc _ S h5).1
        cases xs with
        | nil =>
          have e0 : n = 0 := of_decide_eq_true h7
          subst e0
          have ee : es = .nil := by
            cases es with
            | nil => rfl
            | cons a r => cases h5
          subst ee
          exact both (se_call0 S.ctx f2 f1 (S.gl h2) f3 f4 f5 n1) fun _ => rfl
        | cons a r => exact both (se_call S.ctx f2 f1 (S.gl h2) f3 f4 f5 n1 h4 (of_decide_eq_true h7).symm g) fun _ => rfl
      | cst d => cases h1
      | mk c f n m =>
        obtain ⟨h6, h7⟩ := ba (show (decide (y = x) && decide (n = xs.length)) = true from h1)
        cases (of_decide_eq_true h6)
        obtain ⟨kf, fi, fd, ps, f0, f1, f2, f3, f4, f5⟩ := S.glob.mks j _ c f n m q
        have g := (good_a es X W sc _ S h5).1
        cases xs with
        | nil =>
          have e0 : n = 0 := of_decide_eq_true h7
          omega
        | cons a r => exact both (se_make S.ctx f4 f2 f1 (S.gl h2) f3 f5 n1 h4 (of_decide_eq_true h7).symm g) fun _ => rfl
  | .isi q a => fun X W sc e S h0 => by
    obtain ⟨⟨x, y⟩, v, ha⟩ := onS_ok h0
    obtain ⟨p, p2, rfl, b1, b2, b3⟩ := vIsi_ok v
    obtain ⟨h1, h2⟩ := ba ha
    have ga := (good_e a X W sc _ S h2).1
    have gc : SE X K T W y (evC (G := G) (clD K q)) := by
      cases q with
      | bty n =>
        obtain ⟨z, vz, hz⟩ := onS_ok (show vTy P sc n y = true from h1)
        obtain ⟨p3, rfl⟩ := vName_ok vz
        obtain ⟨z1, hz⟩ := ba hz
        obtain ⟨z2, hz⟩ := ba hz
        obtain ⟨z3, z4⟩ := ba hz
        cases (of_decide_eq_true z1)
        exact se_ty S z2 z3 z4
      | own c =>
        obtain ⟨z, vz, hz⟩ := onS_ok (show vOwn P sc c y = true from h1)
        obtain ⟨p3, rfl⟩ := vName_ok vz
        obtain ⟨z1, hz⟩ := ba hz
        obtain ⟨z2, hz⟩ := ba hz
        obtain ⟨z3, z4⟩ := ba hz
        have ez : c = z := (of_decide_eq_true z1).symm
        subst ez
        obtain ⟨n1, n2, n3⟩ := okName_of z3
        have hc : c ∈ K.cs := by rw [← S.glob.csE]; simpa using z2
        exact se_glob (v := .ref (K.co c)) (S.gl z4) (S.glob.csG c hc) rfl (fun F => .ref _) n1
    exact both (se_blt (by rw [S.ctx.kk]; exact call_isi) (opn_isi S.glob.cs) (S.gl b2) (S.bl b1) (by decide +kernel) (by decide +kernel) (by decide +kernel) b3 (sl2 ga gc)) fun _ => rfl
  | .isiT n1 n2 a => fun X W sc e S h0 => by
    obtain ⟨⟨x, y⟩, v, ha⟩ := onS_ok h0
    obtain ⟨p, p2, rfl, b1, b2, b3⟩ := vIsi_ok v
    obtain ⟨l, vl, hb⟩ := onS_ok ha
    obtain ⟨kk, p3, rfl⟩ := vTup_ok vl
    obtain ⟨⟨y1, y2⟩, v2', hc⟩ := onS_ok hb
    have el := v2_ok v2'
    subst el
    obtain ⟨h1, h2⟩ := ba hc
    obtain ⟨h2, h3⟩ := ba h2
    obtain ⟨h3, h4⟩ := ba h3
    obtain ⟨h4, h5⟩ := ba h4
    have ga := (good_e a X W sc _ S h5).1
    have gt : ∀ {n : String} {y : Expr}, vTy P sc n y = true → SE X K T W y (evC (G := G) (.ty n)) := fun {n y} h1 => by
      obtain ⟨z, vz, hz⟩ := onS_ok h1
      obtain ⟨p3, rfl⟩ := vName_ok vz
      obtain ⟨z1, hz⟩ := ba hz
      obtain ⟨z2, hz⟩ := ba hz
      obtain ⟨z3, z4⟩ := ba hz
      cases (of_decide_eq_true z1)
      exact se_ty S z2 z3 z4
    have ns : [y1, y2].all noStar = true := by
      show (noStar y1 && (noStar y2 && true)) = true
      rw [h3, h4]; rfl
    exact both (se_blt (by rw [S.ctx.kk]; exact CallR.or call_isiT call_isiK) (opn_isiT S.glob.cs) (S.gl b2) (S.bl b1) (by decide +kernel) (by decide +kernel) (by decide +kernel) b3 (sl2 ga (se_tup ns (by show 2 ≤ sizeLine; decide +kernel) (sl2 (gt h1) (gt h2))))) fun _ => rfl
  | .attr c f a => fun X W sc e S h0 => by
    obtain ⟨⟨x, g⟩, v, ha⟩ := onS_ok h0
    obtain ⟨p, rfl⟩ := vAttr_ok v
    obtain ⟨h1, h2⟩ := ba ha
    obtain ⟨h2, h3⟩ := ba h2
    obtain ⟨h3, h4⟩ := ba h3
    have e1 : g = f := of_decide_eq_true h1
    subst e1
    obtain ⟨k1, k2⟩ := S.glob.ats (c, g) (by simpa using h2)
    exact both (se_attr S.ctx.kk k1 k2 (base_of h3) (sl1 (good_e a X W sc _ S h4).1)) fun _ => rfl
  | .lc0 elt t it own => fun X W sc e S h0 => by
    obtain ⟨⟨x, tg, iter, ifs, scope⟩, v, ha⟩ := onS_ok h0
    obtain ⟨p, rfl⟩ := vLc_ok v
    obtain ⟨h1, h2⟩ := ba ha
    obtain ⟨h0, h1⟩ := ba h1
    obtain ⟨h3, h4⟩ := ba h1
    obtain ⟨h4, h5⟩ := ba h4
    obtain ⟨h6, h7⟩ := ba h2
    obtain ⟨h7, h8⟩ := ba h7
    have e0 : ifs = [] := List.isEmpty_iff.mp h0
    subst e0
    have L : LcOk X K T W x tg iter [] scope (ownOf P.N own) (evI K Γ it) t (evC (.bl true)) (ev K Γ elt) := lcok S h3 h4 h5 h6 (Nat.zero_le _) (good_i it X W sc tg iter S h7) (fun s H C cl fp => sts_nil) fun s H C cl fp => (good_e elt _ _ _ _ (S.blk s H scope C cl fp) h8).1
    have q := se_lc (pos := p) L
    rw [ownOf_snd] at q
    exact both q fun _ => rfl
  | .lc1 elt t it cond own => fun X W sc e S h0 => by
    obtain ⟨⟨x, tg, iter, ifs, scope⟩, v, ha⟩ := onS_ok h0
    obtain ⟨p, rfl⟩ := vLc_ok v
    obtain ⟨y, v1', hb⟩ := onS_ok ha
    have e0 := v1_ok v1'
    obtain ⟨g1, g2⟩ := ba hb
    obtain ⟨h3, g4⟩ := ba g1
    obtain ⟨h4, h5⟩ := ba g4
    obtain ⟨h6, g7⟩ := ba g2
    obtain ⟨h7, g8⟩ := ba g7
    obtain ⟨h8, g9⟩ := ba g8
    obtain ⟨h9, h10⟩ := ba g9
    have e0 : ifs = [y] := e0
    subst e0
    have L : LcOk X K T W x tg iter [y] scope (ownOf P.N own) (evI K Γ it) t (ev K Γ cond) (ev K Γ elt) := lcok S h3 h4 h5 h6 (Nat.le_refl _) (good_i it X W sc tg iter S h8) (fun s H C cl fp => sts_one ((good_e cond _ _ _ _ (S.blk s H scope C cl fp) h9).2 h7)) fun s H C cl fp => (good_e elt _ _ _ _ (S.blk s H scope C cl fp) h10).1
    have q := se_lc (pos := p) L
    rw [ownOf_snd] at q
    exact both q fun _ => rfl
theorem good_a : ∀ (c : Ca), GoodA K T k P Γ c
  | .nil => fun X W sc es S h => by
    have e0 : es = [] := List.isEmpty_iff.mp h
    subst e0
    exact ⟨sl_nil, fun _ z => by cases z⟩
  | .cons a r => fun X W sc es S h => by
    cases es with
    | nil => cases h
    | cons e es =>
      obtain ⟨h1, h2⟩ := ba (show (chE P sc a e && chA P sc r es) = true from h)
      have g := good_e a X W sc _ S h1
      obtain ⟨g1, g2⟩ := good_a r X W sc _ S h2
      refine ⟨sl_cons g.1 g1, fun hi _ pos => ?_⟩
      obtain ⟨i1, i2⟩ := ba (show (notIf e && es.all notIf) = true from hi)
      cases r with
      | nil =>
        have e0 : es = [] := List.isEmpty_iff.mp h2
        subst e0
        exact ⟨⟨se_and1 g.1, sw_and1 (g.2 i1)⟩, ⟨se_and1 g.1, sw_or1 (g.2 i1)⟩⟩
      | cons b r =>
        cases es with
        | nil => cases h2
        | cons e2 es =>
          obtain ⟨⟨k1, k2⟩, ⟨k3, k4⟩⟩ := g2 i2 rfl pos
          exact ⟨⟨se_and g.1 k1, sw_and (g.2 i1) k2⟩, ⟨se_or g.1 k3, sw_or (g.2 i1) k4⟩⟩
theorem good_i : ∀ (c : Ci), GoodI K T k P Γ c
  | .seq a => fun X W sc tg e S h => si_seq S.ctx.kk (good_e a X W sc _ S h).1
  | .rg1 a => fun X W sc tg e S h0 => by
    obtain ⟨xs, v, ha⟩ := onS_ok h0
    obtain ⟨p, p2, y, r, rfl, rfl, h1, h2, h3⟩ := vBlt_ok v
    obtain ⟨x, vx, hb⟩ := onS_ok ha
    have e0 := v1_ok vx
    cases e0
    exact si_rg1 (S.gl h2) (S.bl h1) h3 (sl1 (good_e a X W sc _ S hb).1)
  | .rg2 a b => fun X W sc tg e S h0 => by
    obtain ⟨xs, v, ha⟩ := onS_ok h0
    obtain ⟨p, p2, y, r, rfl, rfl, h1, h2, h3⟩ := vBlt_ok v
    obtain ⟨⟨x, z⟩, vx, hb⟩ := onS_ok ha
    have e0 := v2_ok vx
    cases e0
    obtain ⟨h4, h5⟩ := ba hb
    exact si_rg2 (S.gl h2) (S.bl h1) h3 (sl2 (good_e a X W sc _ S h4).1 (good_e b X W sc _ S h5).1)
  | .enum a => fun X W sc tg e S h0 => by
    obtain ⟨ht, hz⟩ := ba h0
    obtain ⟨xs, v, ha⟩ := onS_ok hz
    obtain ⟨p, p2, y, r, rfl, rfl, h1, h2, h3⟩ := vBlt_ok v
    obtain ⟨x, vx, hb⟩ := onS_ok ha
    have e0 := v1_ok vx
    cases e0
    cases tg <;> first | (cases ht; done) | skip
    exact si_enum S.ctx.kk (S.gl h2) (S.bl h1) h3 (good_e a X W sc _ S hb).1
end
end
end BF
set_option Elab.async false
set_option linter.all false
set_option autoImplicit false
set_option maxRecDepth 100000
set_option maxHeartbeats 4000000
namespace BF
open PySem PySem.Spec PyProof.Rows L2
def isComp : Expr → Bool
  | .ListComp _ _ _ _ => true
  | .SetComp _ _ _ _ => true
  | .DictComp _ _ _ _ _ => true
  | _ => false
theorem sw_off {e : Expr} {t : Option Expr} {l : Nat} {env : Env} (h : isComp e = false) : swapsWith e t l env = pure false := by
  cases e <;> first | rfl | cases h
def swLc (sc : Scope) (y : Str) (py : Pos) : Expr → Option Bool
  | .ListComp _ _ s p => some ((sc.names.lookup y == some .local) && ((py.line == p.line) && !(s.names.any fun (n, k) => n == y && (k == .local || k == .cell))))
  | .SetComp _ _ _ _ => none
  | .DictComp _ _ _ _ _ => none
  | _ => some false
theorem fnK {env : Env} (hk : env.scope.kind = .function) : env.blockKind = .function := by unfold Env.blockKind; rw [hk]; rfl
theorem swLc_ok {e : Expr} {y : Str} {py : Pos} {l : Nat} {env : Env} {b : Bool} (hk : env.scope.kind = .function) (h : swLc env.scope y py e = some b) : swapsWith e (some (.Name y py)) l env = pure b := by
  by_cases c : isComp e = true
  · cases e <;> first | (cases c; done) | skip
    · have h : some ((env.scope.names.lookup y == some .local) && ((py.line == _) && _)) = some b := h
      cases h
      unfold swapsWith
      have hb := fnK hk
      have e2 : env.kindOf y = env.scope.names.lookup y := rfl
      simp only [hb, e2, Expr.pos]
      simp only [Bool.and_assoc, beq_self_eq_true, Bool.true_and]
    · cases h
    · cases h
  · have c : isComp e = false := by simpa using c
    rw [sw_off c]
    cases e <;> first | (cases c; done) | (cases h; rfl)
/-- which stores are swapped -/
def swB (sc : Scope) (ts vs : List Expr) : Option (Option (List Str)) :=
  if !(ts.length == 2 || ts.length == 3) || vs.length != ts.length || false then some none
  else if vs.any (fun | .Starred .. => true | _ => false) then some none
  else
    let line := (ts.head?.map (·.pos.line)).getD 0
    let names := ts.filterMap fun
      | .Name id pos => if sc.names.lookup id == some .local && pos.line == line then some id else none
      | _ => none
    if names.length != ts.length || names.eraseDups.length != names.length then some none
    else if vs.all (foldedForSure 8) then some none
    else if vs.all (constantsAlone 8) then none
    else some (some names)
theorem swB_ok {ts vs : List Expr} {env : Env} {kt k2 : Nat} {p2 p3 : Pos} {r : Option (List Str)} (hk : env.scope.kind = .function) (h : swB env.scope ts vs = some r) : swappedStores [.Tuple ts kt p2] (.Tuple vs k2 p3) env = pure r := by
  have hb : (env.blockKind != .function) = false := by rw [fnK hk]; rfl
  unfold swB at h
  unfold swappedStores
  simp only [hb]
  split at h
  · rename_i c; cases h; rw [if_pos c]
  · rename_i c
    rw [if_neg c]
    split at h
    · rename_i c; cases h; exact if_pos c
    · rename_i c
      refine Eq.trans (if_neg c) ?_
      simp only [] at h
      split at h
      · rename_i c; cases h; exact if_pos c
      · rename_i c
        refine Eq.trans (if_neg c) ?_
        split at h
        · rename_i c; cases h; exact if_pos c
        · rename_i c
          refine Eq.trans (if_neg c) ?_
          split at h
          · cases h
          · rename_i c
            cases h
            refine Eq.trans (if_neg c) ?_
            rfl
/-! ## statements -/
def vAsg : Stmt → Option (Str × Pos × Expr)
  | .Assign [.Name x p] e _ => some (x, p, e)
  | _ => none
theorem vAsg_ok {s : Stmt} {x : Str} {p : Pos} {e : Expr} (h : vAsg s = some (x, p, e)) : ∃ p2, s = .Assign [.Name x p] e p2 := by
  unfold vAsg at h; split at h <;> first | (cases h; exact ⟨_, rfl⟩) | cases h
def vPar : Stmt → Option (List Expr × Nat × Pos × List Expr)
  | .Assign [.Tuple ts kt p] (.Tuple vs _ _) _ => some (ts, kt, p, vs)
  | _ => none
theorem vPar_ok {s : Stmt} {ts vs : List Expr} {kt : Nat} {p : Pos} (h : vPar s = some (ts, kt, p, vs)) : ∃ k2 p2 p3, s = .Assign [.Tuple ts kt p] (.Tuple vs k2 p2) p3 := by
  unfold vPar at h; split at h <;> first | (cases h; exact ⟨_, _, _, rfl⟩) | cases h
def vUnp : Stmt → Option (List Expr × Nat × Pos × Expr)
  | .Assign [.Tuple ts kt p] e _ => some (ts, kt, p, e)
  | _ => none
theorem vUnp_ok {s : Stmt} {ts : List Expr} {e : Expr} {kt : Nat} {p : Pos} (h : vUnp s = some (ts, kt, p, e)) : ∃ p3, s = .Assign [.Tuple ts kt p] e p3 := by
  unfold vUnp at h; split at h <;> first | (cases h; exact ⟨_, rfl⟩) | cases h
def vRet : Stmt → Option Expr
  | .Return (some e) _ => some e
  | _ => none
theorem vRet_ok {s : Stmt} {e : Expr} (h : vRet s = some e) : ∃ p, s = .Return (some e) p := by
  unfold vRet at h; split at h <;> first | (cases h; exact ⟨_, rfl⟩) | cases h
def vExp : Stmt → Option Expr
  | .Expr e _ => some e
  | _ => none
theorem vExp_ok {s : Stmt} {e : Expr} (h : vExp s = some e) : ∃ p, s = .Expr e p := by
  unfold vExp at h; split at h <;> first | (cases h; exact ⟨_, rfl⟩) | cases h
def vApp : Stmt → Option (Str × Expr)
  | .Expr (.Call (.Attribute (.Name x _) m ap) [e] [] cp) _ => if decide (m = "append") && (noStar e && (ap.endLine == cp.line)) then some (x, e) else none
  | _ => none
theorem vApp_ok {s : Stmt} {x : Str} {e : Expr} (h : vApp s = some (x, e)) : ∃ p1 ap cp p, s = .Expr (.Call (.Attribute (.Name x p1) "append" ap) [e] [] cp) p ∧ noStar e = true ∧ (ap.endLine == cp.line) = true := by
  unfold vApp at h
  split at h
  · split at h
    · rename_i c
      cases h
      obtain ⟨c1, c2⟩ := ba c
      obtain ⟨c2, c3⟩ := ba c2
      cases (of_decide_eq_true c1)
      exact ⟨_, _, _, _, rfl, c2, c3⟩
    · cases h
  · cases h
def vSto : Stmt → Option (Str × Expr × Expr)
  | .Assign [.Subscript (.Name x _) k _] e _ => some (x, k, e)
  | _ => none
theorem vSto_ok {s : Stmt} {x : Str} {k e : Expr} (h : vSto s = some (x, k, e)) : ∃ p1 p2 p, s = .Assign [.Subscript (.Name x p1) k p2] e p := by
  unfold vSto at h; split at h <;> first | (cases h; exact ⟨_, _, _, rfl⟩) | cases h
def vAug : Bool → Stmt → Option (Str × Expr)
  | false, .AugAssign (.Name x _) .Add e _ => some (x, e)
  | true, .AugAssign (.Name x _) .Sub e _ => some (x, e)
  | _, _ => none
theorem vAug_ok {q : Bool} {s : Stmt} {x : Str} {e : Expr} (h : vAug q s = some (x, e)) : ∃ p1 p, s = .AugAssign (.Name x p1) (if q = true then .Sub else .Add) e p := by
  unfold vAug at h; split at h <;> first | (cases h; exact ⟨_, _, rfl⟩) | cases h
def vIfS : Stmt → Option (Expr × List Stmt × List Stmt)
  | .If c a b _ => some (c, a, b)
  | _ => none
theorem vIfS_ok {s : Stmt} {c : Expr} {a b : List Stmt} (h : vIfS s = some (c, a, b)) : ∃ p, s = .If c a b p := by
  unfold vIfS at h; split at h <;> first | (cases h; exact ⟨_, rfl⟩) | cases h
def vFor : Stmt → Option (Expr × Expr × List Stmt)
  | .For t i b [] _ => some (t, i, b)
  | _ => none
theorem vFor_ok {s : Stmt} {t i : Expr} {b : List Stmt} (h : vFor s = some (t, i, b)) : ∃ p, s = .For t i b [] p := by
  unfold vFor at h; split at h <;> first | (cases h; exact ⟨_, rfl⟩) | cases h
def vWh : Stmt → Option (Expr × List Stmt)
  | .While c b [] _ => some (c, b)
  | _ => none
theorem vWh_ok {s : Stmt} {c : Expr} {b : List Stmt} (h : vWh s = some (c, b)) : ∃ p, s = .While c b [] p := by
  unfold vWh at h; split at h <;> first | (cases h; exact ⟨_, rfl⟩) | cases h
def isPass : Stmt → Bool
  | .Pass _ => true
  | _ => false
def isBrk : Stmt → Bool
  | .Break _ => true
  | _ => false
def isCnt : Stmt → Bool
  | .Continue _ => true
  | _ => false
def isRetN : Stmt → Bool
  | .Return none _ => true
  | _ => false
def locC (sc : Scope) (x : Str) : Bool := match sc.names.lookup x with
  | some .local => true
  | some .cell => true
  | _ => false
def isLcC : Ce → Bool
  | .lc0 _ _ _ _ => true
  | .lc1 _ _ _ _ _ => true
  | _ => false
def noTupE : Expr → Bool
  | .Tuple _ _ _ => false
  | .ListComp _ _ _ _ => false
  | .SetComp _ _ _ _ => false
  | .DictComp _ _ _ _ _ => false
  | _ => true
def noComp3 : Expr → Bool
  | .ListComp _ _ _ _ => false
  | .SetComp _ _ _ _ => false
  | .DictComp _ _ _ _ _ => false
  | .Slice _ _ _ _ => false
  | _ => true
mutual
def chS (P : Pm) (sc : Scope) : Cs → Stmt → Bool
  | .nil, _ => false
  | .cons _ _, _ => false
  | .pass, s => isPass s
  | .brk, s => isBrk s
  | .retN, s => isRetN s
  | .ret e, s => onS (vRet s) fun x => chE P sc e x
  | .expr e, s => onS (vExp s) fun x => !isComp x && chE P sc e x
  | .asg i e, s => onS (vAsg s) fun q => (decide (P.N[i]? = some q.1) && locC sc q.1) && (chE P sc e q.2.2 && (match swLc sc q.1 q.2.1 q.2.2 with
    | some false => true
    | some true => isLcC e
    | none => false))
  | .par ix es, s => onS (vPar s) fun q => (tgOk P.N sc (.tp ix) (.Tuple q.1 q.2.1 q.2.2.1) && (q.2.2.2.all noStar && (decide (q.2.2.2.length ≤ 1000) && chA P sc es q.2.2.2))) && (match swB sc q.1 q.2.2.2 with
    | some none => true
    | some (some ns) => tgLoc P.N sc (.tp ix) (.Tuple q.1 q.2.1 q.2.2.1) && (decide ix.Nodup && (decide (q.2.2.2.length = ix.length) && (decide (ix.length = 2 ∨ ix.length = 3) && decide (ns = ix.map fun i => P.N.getD i ""))))
    | none => false)
  | .unp t e, s => onS (vUnp s) fun q => tgOk P.N sc t (.Tuple q.1 q.2.1 q.2.2.1) && (noTupE q.2.2.2 && chE P sc e q.2.2.2)
  | .app i e, s => onS (vApp s) fun q => (decide (P.N[i]? = some q.1) && (isVis sc q.1 && okName q.1)) && chE P sc e q.2
  | .store i k e, s => onS (vSto s) fun q => (decide (P.N[i]? = some q.1) && (isVis sc q.1 && okName q.1)) && ((!isComp q.2.2 && noSlice q.2.1) && (chE P sc k q.2.1 && chE P sc e q.2.2))
  | .aug b i e, s => onS (vAug b s) fun q => (decide (P.N[i]? = some q.1) && locC sc q.1) && chE P sc e q.2
  | .ife c a b, s => onS (vIfS s) fun q => (notIf q.1 && chE P sc c q.1) && (chB P sc a q.2.1 && chB P sc b q.2.2)
  | .for_ t it b, s => onS (vFor s) fun q => (tgOk P.N sc t q.1 && (notSet q.2.1 && chI P sc it (isTup q.1) q.2.1)) && chB P sc b q.2.2
  | .whl _ c b, s => onS (vWh s) fun q => (notIf q.1 && chE P sc c q.1) && chB P sc b q.2
  | .raise _ _ _, _ => false
  | .stuck, _ => true
def chB (P : Pm) (sc : Scope) : Cs → List Stmt → Bool
  | .nil, b => b.isEmpty
  | .cons s r, b => (match b with
    | [] => false
    | st :: sts => chS P sc s st && chB P sc r sts)
  | _, _ => false
end
end BF
set_option Elab.async false
set_option linter.all false
set_option autoImplicit false
set_option maxRecDepth 100000
set_option maxHeartbeats 4000000
namespace BF
open PySem PySem.Spec PyProof.Rows L2
section
variable {G : Type} {X : Cx} {K : Env1} {T : Gt G} {W : WX1} {k : Nat} {P : Pm} {Γ : Gam G} {sc : Scope}
/-- in a def's body -/
structure SndF (X : Cx) (K : Env1) (T : Gt G) (W : WX1) (k : Nat) (P : Pm) (Γ : Gam G) (sc : Scope) : Prop where
  toSnd : Snd X K T W k P Γ sc
  fn : ∀ x, X.fn x = true
  kind : X.env.scope.kind = .function
theorem good_lc {c : Ce} {elt : Expr} {gs : List Comprehension} {scope : Scope} {pos : Pos} (S : Snd X K T W k P Γ sc) (hl : isLcC c = true) (h0 : chE P sc c (.ListComp elt gs scope pos) = true) :
    ∃ tg iter ifs own fi t ft fe, gs = [⟨tg, iter, ifs, 0⟩] ∧ LcOk X K T W elt tg iter ifs scope own fi t ft fe ∧ ev K Γ c = evLc fi t ft fe (own.map (·.2)) := by
  cases c <;> first | (cases hl; done) | skip
  · rename_i ce t it own
    obtain ⟨⟨x, tg, iter, ifs, scope'⟩, v, ha⟩ := onS_ok h0
    obtain ⟨p, ee⟩ := vLc_ok v
    cases ee
    obtain ⟨g1, g2⟩ := ba ha
    obtain ⟨i0, g3⟩ := ba g1
    obtain ⟨h3, g4⟩ := ba g3
    obtain ⟨h4, h5⟩ := ba g4
    obtain ⟨h6, g7⟩ := ba g2
    obtain ⟨h7, h8⟩ := ba g7
    have e0 : ifs = [] := List.isEmpty_iff.mp i0
    subst e0
    have L : LcOk X K T W elt tg iter [] scope (ownOf P.N own) (evI K Γ it) t (evC (.bl true)) (ev K Γ ce) := lcok S h3 h4 h5 h6 (Nat.zero_le _) (good_i it X W sc tg iter S h7) (fun s H C cl fp => sts_nil) fun s H C cl fp => (good_e ce _ _ _ _ (S.blk s H scope C cl fp) h8).1
    exact ⟨tg, iter, [], _, _, _, _, _, rfl, L, by rw [ownOf_snd]; rfl⟩
  · rename_i ce t it cond own
    obtain ⟨⟨x, tg, iter, ifs, scope'⟩, v, ha⟩ := onS_ok h0
    obtain ⟨p, ee⟩ := vLc_ok v
    cases ee
    obtain ⟨y, v1', hb⟩ := onS_ok ha
    have e0 : ifs = [y] := v1_ok v1'
    obtain ⟨g1, g2⟩ := ba hb
    obtain ⟨h3, g4⟩ := ba g1
    obtain ⟨h4, h5⟩ := ba g4
    obtain ⟨h6, g7⟩ := ba g2
    obtain ⟨h7, g8⟩ := ba g7
    obtain ⟨h8, g9⟩ := ba g8
    obtain ⟨h9, h10⟩ := ba g9
    subst e0
    have L : LcOk X K T W elt tg iter [y] scope (ownOf P.N own) (evI K Γ it) t (ev K Γ cond) (ev K Γ ce) := lcok S h3 h4 h5 h6 (Nat.le_refl _) (good_i it X W sc tg iter S h8) (fun s H C cl fp => sts_one ((good_e cond _ _ _ _ (S.blk s H scope C cl fp) h9).2 h7)) fun s H C cl fp => (good_e ce _ _ _ _ (S.blk s H scope C cl fp) h10).1
    exact ⟨tg, iter, [y], _, _, _, _, _, rfl, L, by rw [ownOf_snd]; rfl⟩
theorem locC_ok {x : Str} (h : locC sc x = true) : Loc sc x := by
  unfold locC at h
  split at h
  · rename_i e; exact .inl e
  · rename_i e; exact .inr e
  · cases h
theorem go_get {N : List Str} : ∀ {ix : List Nat} {es : List Expr}, tgLoc.go N sc ix es = true → ∀ (n : Nat) i e, ix[n]? = some i → es[n]? = some e → ∃ x p, e = .Name x p ∧ N[i]? = some x ∧ sc.names.lookup x = some .local := by
  intro ix
  induction ix with
  | nil => intro es h n i e h1; cases h1
  | cons i ix ih =>
    intro es h n
    cases es with
    | nil => cases h
    | cons e es =>
      cases e with
      | Name x p =>
        obtain ⟨h1, h2⟩ := ba (show ((decide (N[i]? = some x) && decide (sc.names.lookup x = some .local)) && tgLoc.go N sc ix es) = true from h)
        obtain ⟨h3, h4⟩ := ba h1
        cases n with
        | zero => intro j e q1 q2; cases q1; cases q2; exact ⟨x, p, rfl, of_decide_eq_true h3, of_decide_eq_true h4⟩
        | succ n => exact ih h2 n
      | _ => cases h
theorem go_len {N : List Str} : ∀ {ix : List Nat} {es : List Expr}, tgLoc.go N sc ix es = true → ix.length = es.length := by
  intro ix
  induction ix with
  | nil =>
    intro es h
    cases es with
    | nil => rfl
    | cons e es => cases e <;> cases h
  | cons i ix ih =>
    intro es h
    cases es with
    | nil => cases h
    | cons e es =>
      cases e with
      | Name x p =>
        obtain ⟨h1, h2⟩ := ba (show ((decide (N[i]? = some x) && decide (sc.names.lookup x = some .local)) && tgLoc.go N sc ix es) = true from h)
        simp [ih h2]
      | _ => cases h
def GoodS (K : Env1) (T : Gt G) (k : Nat) (P : Pm) (Γ : Gam G) (c : Cs) : Prop := ∀ (X : Cx) (W : WX1) (sc : Scope) (st : Stmt), SndF X K T W k P Γ sc → chS P sc c st = true → SS X K T W st (ex K Γ c)
def GoodB (K : Env1) (T : Gt G) (k : Nat) (P : Pm) (Γ : Gam G) (c : Cs) : Prop := ∀ (X : Cx) (W : WX1) (sc : Scope) (st : List Stmt), SndF X K T W k P Γ sc → chB P sc c st = true → SB X K T W st (ex K Γ c)
theorem good_par {ix : List Nat} {es : Ca} {st : Stmt} (S : SndF X K T W k P Γ sc) (h0 : chS P sc (.par ix es) st = true) : SS X K T W st (ex K Γ (.par ix es)) := by
  obtain ⟨⟨ts, kt, p, vs⟩, v, ha⟩ := onS_ok h0
  obtain ⟨k2, p2, p3, rfl⟩ := vPar_ok v
  obtain ⟨g1, g2⟩ := ba ha
  obtain ⟨h1, g3⟩ := ba g1
  obtain ⟨h2, g4⟩ := ba g3
  obtain ⟨h3, h4⟩ := ba g4
  have sl := (good_a es X W sc _ S.toSnd h4).1
  have hz : vs.length ≤ sizeLine := by
    have h3 : vs.length ≤ 1000 := of_decide_eq_true h3
    rw [sizeLine_eq]; omega
  simp only [] at g2 sl h1 h2
  cases q : swB sc ts vs with
  | none => rw [q] at g2; cases g2
  | some r =>
    rw [q] at g2
    have hw := fun k3 p4 p5 => swB_ok (kt := kt) (k2 := k3) (p2 := p4) (p3 := p5) S.kind (by rw [S.toSnd.scope]; exact q)
    cases r with
    | none =>
      exact ss_parT h2 hz (tg_pg S.toSnd.ctx.calm S.toSnd.ctx.nd (fun x _ => .inl (S.fn x)) (by rw [S.toSnd.N, S.toSnd.scope]; exact h1)) (hw _ _ _) sl
    | some ns =>
      obtain ⟨i1, g5⟩ := ba g2
      obtain ⟨i2, g6⟩ := ba g5
      obtain ⟨i3, g7⟩ := ba g6
      obtain ⟨i4, i5⟩ := ba g7
      have i2 := of_decide_eq_true i2
      have i3 := of_decide_eq_true i3
      have i4 := of_decide_eq_true i4
      have i5 := of_decide_eq_true i5
      have i1 : tgLoc.go P.N sc ix ts = true := i1
      have len := go_len i1
      subst i5
      have gd : ∀ {i : Nat} {x : Str}, P.N[i]? = some x → P.N.getD i "" = x := fun {i x} h => by rw [List.getD_eq_getElem?_getD, h]; rfl
      rcases i4 with i4 | i4
      · match ix, ts, vs, i4, i3, len, i1, i2 with
        | [i, j], [t1, t2], [a, b], _, _, _, i1, i2 =>
          obtain ⟨x, px, rfl, nx, lx⟩ := go_get i1 0 i t1 rfl rfl
          obtain ⟨y, py, rfl, ny, ly⟩ := go_get i1 1 j t2 rfl rfl
          have hij : i ≠ j := by simp at i2; exact i2
          rw [← S.toSnd.N] at nx ny
          rw [← S.toSnd.scope] at lx ly
          refine ss_par2 S.toSnd.ctx.calm S.toSnd.ctx.nd nx ny hij lx ly h2 ?_ sl
          rw [hw]
          rw [S.toSnd.N] at nx ny
          simp only [List.map_cons, List.map_nil, gd nx, gd ny]
      · match ix, ts, vs, i4, i3, len, i1, i2 with
        | [i, j, l], [t1, t2, t3], [a, b, c], _, _, _, i1, i2 =>
          obtain ⟨x, px, rfl, nx, lx⟩ := go_get i1 0 i t1 rfl rfl
          obtain ⟨y, py, rfl, ny, ly⟩ := go_get i1 1 j t2 rfl rfl
          obtain ⟨z, pz, rfl, nz, lz⟩ := go_get i1 2 l t3 rfl rfl
          have hij : i ≠ j ∧ i ≠ l ∧ j ≠ l := by simp at i2; exact ⟨i2.1.1, i2.1.2, i2.2⟩
          rw [← S.toSnd.N] at nx ny nz
          rw [← S.toSnd.scope] at lx ly lz
          refine ss_par3 S.toSnd.ctx.calm S.toSnd.ctx.nd nx ny nz hij.1 hij.2.1 hij.2.2 lx ly lz h2 ?_ sl
          rw [hw]
          rw [S.toSnd.N] at nx ny nz
          simp only [List.map_cons, List.map_nil, gd nx, gd ny, gd nz]
theorem ass_sub {x : Str} {p1 p2 : Pos} {i : Expr} {env : Env} (h : noSlice i = true) : ∀ v, assign (.Subscript (.Name x p1) i p2) env v = (do
      let ov ← holding [v] (eval (.Name x p1) env)
      let iv ← holding [v, ov] (eval i env)
      standAt p2
      holding [v, ov, iv] (setItem ov iv v)
      release [v, ov, iv] []) := by
  intro v
  cases i <;> first | rfl | cases h
mutual
theorem good_s : ∀ (c : Cs), GoodS K T k P Γ c
  | .nil => fun X W sc st S h0 => by cases h0
  | .cons _ _ => fun X W sc st S h0 => by cases h0
  | .pass => fun X W sc st S h0 => by
    have h0 : isPass st = true := h0
    cases st <;> first | (cases h0; done) | exact ss_pass
  | .brk => fun X W sc st S h0 => by
    have h0 : isBrk st = true := h0
    cases st <;> first | (cases h0; done) | exact ss_break
  | .retN => fun X W sc st S h0 => by
    have h0 : isRetN st = true := h0
    cases st with
    | Return o p =>
      cases o with
      | none => exact ss_retN
      | some e => cases h0
    | _ => cases h0
  | .ret e => fun X W sc st S h0 => by
    obtain ⟨x, v, ha⟩ := onS_ok h0
    obtain ⟨p, rfl⟩ := vRet_ok v
    exact ss_ret (good_e e X W sc _ S.toSnd ha).1
  | .expr e => fun X W sc st S h0 => by
    obtain ⟨x, v, ha⟩ := onS_ok h0
    obtain ⟨p, rfl⟩ := vExp_ok v
    obtain ⟨h1, h2⟩ := ba ha
    exact ss_expr (sw_off (by simpa using h1)) (good_e e X W sc _ S.toSnd h2).1
  | .asg i e => fun X W sc st S h0 => by
    obtain ⟨⟨x, p1, b⟩, v, ha⟩ := onS_ok h0
    obtain ⟨p, rfl⟩ := vAsg_ok v
    obtain ⟨g1, g2⟩ := ba ha
    obtain ⟨h1, h2⟩ := ba g1
    obtain ⟨h3, h4⟩ := ba g2
    have hi : X.N[i]? = some x := by rw [S.toSnd.N]; exact of_decide_eq_true h1
    have hx : Loc X.env.scope x := by rw [S.toSnd.scope]; exact locC_ok h2
    simp only [] at h4
    cases q : swLc sc x p1 b with
    | none => rw [q] at h4; cases h4
    | some r =>
      rw [q] at h4
      have q' : swLc X.env.scope x p1 b = some r := by rw [S.toSnd.scope]; exact q
      cases r with
      | false => exact ss_asg S.toSnd.ctx.nd hi hx (.inl (S.fn x)) (swLc_ok S.kind q') (good_e e X W sc _ S.toSnd h3).1
      | true =>
        cases b <;> first | (cases q; done) | skip
        rename_i elt gs scope pos
        have hl : X.env.scope.names.lookup x = some .local := by
          have q : some ((sc.names.lookup x == some .local) && _) = some true := q
          injection q with q
          obtain ⟨q1, _⟩ := ba q
          rw [S.toSnd.scope]
          exact eq_of_beq q1
        obtain ⟨tg, iter, ifs, own, fi, t, ft, fe, rfl, L, ee⟩ := good_lc S.toSnd h4 h3
        show SS X K T W _ (exAsg i (ev K Γ e))
        rw [ee]
        exact ss_asgLc hi hl (swLc_ok S.kind q') L
  | .par ix es => fun X W sc st S h0 => good_par S h0
  | .unp t e => fun X W sc st S h0 => by
    obtain ⟨⟨ts, kt, p1, b⟩, v, ha⟩ := onS_ok h0
    obtain ⟨p, rfl⟩ := vUnp_ok v
    obtain ⟨h1, g2⟩ := ba ha
    obtain ⟨h2, h3⟩ := ba g2
    have hg : PG X (.Tuple ts kt p1) (gOf X.K t) := tg_pg S.toSnd.ctx.calm S.toSnd.ctx.nd (fun x _ => .inl (S.fn x)) (by rw [S.toSnd.N, S.toSnd.scope]; exact h1)
    have hs : swapsWithSole [.Tuple ts kt p1] b p.line X.env = pure false := by
      show swapsWith b (some (.Tuple ts kt p1)) p.line X.env = pure false
      refine sw_off ?_
      clear ha h0 v h3
      cases b <;> first | rfl | cases h2
    have hw : swappedStores [.Tuple ts kt p1] b X.env = pure none := by
      clear ha h0 v h3 hs
      cases b <;> first | rfl | cases h2
    exact ss_unp S.toSnd.ctx.kk hg rfl hs hw (good_e e X W sc _ S.toSnd h3).1
  | .app i e => fun X W sc st S h0 => by
    obtain ⟨⟨x, b⟩, v, ha⟩ := onS_ok h0
    obtain ⟨p1, ap, cp, p, rfl, n1, n2⟩ := vApp_ok v
    obtain ⟨g1, g2⟩ := ba ha
    obtain ⟨h1, g3⟩ := ba g1
    obtain ⟨h2, h3⟩ := ba g3
    obtain ⟨m1, m2, m3⟩ := okName_of h3
    exact ss_append (by rw [S.toSnd.N]; exact of_decide_eq_true h1) (S.toSnd.vis h2) m1 m2 n1 n2 (good_e e X W sc _ S.toSnd g2).1
  | .store i kx e => fun X W sc st S h0 => by
    obtain ⟨⟨x, kk, b⟩, v, ha⟩ := onS_ok h0
    obtain ⟨p1, p2, p, rfl⟩ := vSto_ok v
    obtain ⟨g1, g2⟩ := ba ha
    obtain ⟨h1, g3⟩ := ba g1
    obtain ⟨h2, h3⟩ := ba g3
    obtain ⟨g4, g5⟩ := ba g2
    obtain ⟨h4, h5⟩ := ba g4
    obtain ⟨h6, h7⟩ := ba g5
    obtain ⟨m1, m2, m3⟩ := okName_of h3
    have h4 : isComp b = false := by simpa using h4
    have hs : swapsWithSole [.Subscript (.Name x p1) kk p2] b p.line X.env = pure false := by
      show swapsWith b (some (.Subscript (.Name x p1) kk p2)) p.line X.env = pure false
      exact sw_off h4
    exact ss_store (by rw [S.toSnd.N]; exact of_decide_eq_true h1) (S.toSnd.vis h2) m1 m2 hs rfl (ass_sub h5) (good_e e X W sc _ S.toSnd h7).1 (good_e kx X W sc _ S.toSnd h6).1
  | .aug q i e => fun X W sc st S h0 => by
    obtain ⟨⟨x, b⟩, v, ha⟩ := onS_ok h0
    obtain ⟨p1, p, rfl⟩ := vAug_ok v
    obtain ⟨g1, g2⟩ := ba ha
    obtain ⟨h1, h2⟩ := ba g1
    have hi : X.N[i]? = some x := by rw [S.toSnd.N]; exact of_decide_eq_true h1
    have hx : Loc X.env.scope x := by rw [S.toSnd.scope]; exact locC_ok h2
    have g := (good_e e X W sc _ S.toSnd g2).1
    cases q with
    | true => exact ss_aug S.toSnd.ctx.nd hi hx (.inl (S.fn x)) ip_sub g
    | false => exact ss_aug S.toSnd.ctx.nd hi hx (.inl (S.fn x)) ip_add g
  | .ife c a b => fun X W sc st S h0 => by
    obtain ⟨⟨t, x, y⟩, v, ha⟩ := onS_ok h0
    obtain ⟨p, rfl⟩ := vIfS_ok v
    obtain ⟨g1, g2⟩ := ba ha
    obtain ⟨h1, h2⟩ := ba g1
    obtain ⟨h3, h4⟩ := ba g2
    exact ss_if ((good_e c X W sc _ S.toSnd h2).2 h1) (good_b a X W sc _ S h3) (good_b b X W sc _ S h4)
  | .for_ t it b => fun X W sc st S h0 => by
    obtain ⟨⟨tg, i, y⟩, v, ha⟩ := onS_ok h0
    obtain ⟨p, rfl⟩ := vFor_ok v
    obtain ⟨g1, g2⟩ := ba ha
    obtain ⟨h1, g3⟩ := ba g1
    obtain ⟨h2, h3⟩ := ba g3
    exact ss_for S.toSnd.ctx.own S.toSnd.ctx.calm S.toSnd.ctx.kk (good_i it X W sc tg i S.toSnd h3) (tg_pg S.toSnd.ctx.calm S.toSnd.ctx.nd (fun x _ => .inl (S.fn x)) (by rw [S.toSnd.N, S.toSnd.scope]; exact h1)) (good_b b X W sc _ S g2) h2
  | .whl n c b => fun X W sc st S h0 => by
    obtain ⟨⟨t, y⟩, v, ha⟩ := onS_ok h0
    obtain ⟨p, rfl⟩ := vWh_ok v
    obtain ⟨g1, g2⟩ := ba ha
    obtain ⟨h1, h2⟩ := ba g1
    exact ss_while S.toSnd.ctx.own ((good_e c X W sc _ S.toSnd h2).2 h1) (good_b b X W sc _ S g2)
  | .raise _ _ _ => fun X W sc st S h0 => by cases h0
  | .stuck => fun X W sc st S h0 => fun F H σ s D R h => h.elim
theorem good_b : ∀ (c : Cs), GoodB K T k P Γ c
  | .nil => fun X W sc st S h0 => by
    have e0 : st = [] := List.isEmpty_iff.mp h0
    subst e0
    exact sb_nil
  | .cons s r => fun X W sc st S h0 => by
    cases st with
    | nil => cases h0
    | cons a b =>
      obtain ⟨h1, h2⟩ := ba (show (chS P sc s a && chB P sc r b) = true from h0)
      exact sb_cons (good_s s X W sc _ S h1) (good_b r X W sc _ S h2)
  | .pass | .brk | .retN | .ret _ | .expr _ | .asg _ _ | .par _ _ | .unp _ _ | .app _ _ | .store _ _ _ | .aug _ _ _ | .ife _ _ _ | .for_ _ _ _ | .whl _ _ _ | .raise _ _ _ | .stuck => fun X W sc st S h0 => by cases h0
end
end
end BF
set_option Elab.async false
set_option linter.all false
set_option autoImplicit false
set_option maxRecDepth 100000
set_option maxHeartbeats 4000000
namespace BF
open PySem PySem.Spec PyProof.Rows L2
/-! ## the draws -/
structure Dr where
  st : Int
  cs : List Int
  ix : Int
def drT (a0 a1 : Addr) (hne : a0 ≠ a1) : Gt Dr where
  fp := fun a => a = a0 ∨ a = a1
  gr := fun g H => H a0 = some (.lst [.int g.st, .ref a1, .int g.ix]) ∧ H a1 = some (.lst (g.cs.map V.int)) ∧ g.cs.length ≤ 63
  live := fun g H a h f => by
    obtain ⟨h1, h2, _⟩ := h
    rcases f with rfl | rfl
    · rw [h1]; exact fun z => by cases z
    · rw [h2]; exact fun z => by cases z
  dep := fun g H H' h e => by
    obtain ⟨h1, h2, h3⟩ := h
    exact ⟨(e _ (.inl rfl)).trans h1, (e _ (.inr rfl)).trans h2, h3⟩
def Dr.at (g : Dr) : Nat := (g.ix % (if (g.cs.length : Int) > 1 then (g.cs.length : Int) else 1)).toNat
def Dr.cell (g : Dr) : Int := (g.cs ++ [0]).getD g.at 0
def Dr.turn (g : Dr) : Int := (g.st * 48271 + g.cell * 69621 + 11) % 2147483647
def nxV (g : Dr) (cap : Int) : Int := if 10 ^ 18 ≤ g.cell then g.cell % cap else (g.turn / 7) % cap
def nxG (g : Dr) (cap : Int) : Dr := if 10 ^ 18 ≤ g.cell then { g with cs := g.cs.set g.at (g.cell / cap) } else ⟨g.turn, g.cs, g.ix + 1⟩
theorem nxV_nn {g : Dr} {cap : Int} (h : 0 < cap) : 0 ≤ nxV g cap := by
  unfold nxV; split <;> exact Int.emod_nonneg _ (by omega)
theorem nxV_lt {g : Dr} {cap : Int} (h : 0 < cap) : nxV g cap < cap := by
  unfold nxV; split <;> exact Int.emod_lt_of_pos _ h
def mNext (a0 : Addr) : Mir Dr := fun ds g => match ds with
  | [.ref a, .int cap] => if a = a0 ∧ 0 < cap ∧ cap < 1073741824 then .ok (.int (nxV g cap)) (nxG g cap) else .no
  | _ => .no
abbrev rIntC : List V → Hp → VK → Prop := fun xs H Q => (∃ i, xs = [.int i] ∧ Q (.int i) H) ∨ ∃ k, xs = [.bl k] ∧ Q (.int (if k then 1 else 0)) H
abbrev rMaxC : List V → Hp → VK → Prop := fun xs H Q => ∃ i j, xs = [.int i, .int j] ∧ Q (.int (if j > i then j else i)) H
abbrev rLenC (K : PySem.W.Frag) : List V → Hp → VK → Prop := fun xs H Q => ∃ p ys, xs = [.ref p] ∧ (SqL K H p ys ∨ SqT K H p ys) ∧ Q (.int ys.length) H
abbrev rLstC (K : PySem.W.Frag) : List V → Hp → VK → Prop := fun xs H Q => ∃ p ys, xs = [.ref p] ∧ (SqL K H p ys ∨ SqT K H p ys) ∧ ∀ l, H l = none → Q (.ref l) (upd H l (.lst ys))
section
variable (K : PySem.W.Frag)
def tH (i : Int) : TE := tOp (rIxL K) (tVar 0) (tC (.int i))
abbrev oMod : R2 := rI (fun _ j => 0 < j) fun i j => .int (i % j)
abbrev oDiv : R2 := rI CDiv fun i j => .int (i / j)
abbrev oMul : R2 := rI CMul fun i j => .int (i * j)
abbrev oAdd : R2 := rI0 fun i j => .int (i + j)
abbrev oGe : R2 := rI0 fun i j => .bl (decide (j ≤ i))
abbrev oPow : R2 := rI CPow fun i j => .int (i ^ j.toNat)
def trN1 : TS := tAsg (tOp (rIxL K) (tOp rCat (tH K 1) (tLst (tCons (tC (.int 0)) tNil))) (tOp oMod (tCB rIntC (tCons (tH K 2) tNil)) (tCB rMaxC (tCons (tC (.int 1)) (tCons (tCB (rLenC K) (tCons (tH K 1) tNil)) tNil))))) (gName 2)
def trN2a : TS := tAsg (tOp oDiv (tVar 2) (tVar 1)) (gSub (tH K 1) (tOp oMod (tCB rIntC (tCons (tH K 2) tNil)) (tCB (rLenC K) (tCons (tH K 1) tNil))) rSetL)
def trN2b : TS := tRet (tOp oMod (tCB rIntC (tCons (tVar 2) tNil)) (tVar 1))
def trN2 : TS := tIfS (tTest (tOp oGe (tVar 2) (tOp oPow (tC (.int 10)) (tC (.int 18))))) (tSeq (trN2a K) trN2b) tNext
def trN3 : TS := tAsg (tOp oMod (tCB rIntC (tCons (tOp oAdd (tOp oAdd (tOp oMul (tH K 0) (tC (.int 48271))) (tOp oMul (tVar 2) (tC (.int 69621)))) (tC (.int 11))) tNil)) (tC (.int 2147483647))) (gSub (tVar 0) (tC (.int 0)) rSetL)
def trN4 : TS := tAsg (tOp oAdd (tH K 2) (tC (.int 1))) (gSub (tVar 0) (tC (.int 2)) rSetL)
def trN5 : TS := tRet (tOp oMod (tCB rIntC (tCons (tOp oDiv (tH K 0) (tC (.int 7))) tNil)) (tVar 1))
def trN : TS := tSeq (trN1 K) (tSeq (trN2 K) (tSeq (trN3 K) (tSeq (trN4 K) (trN5 K))))
end
theorem tH_ok {K : PySem.W.Frag} {a0 a1 : Addr} {g : Dr} {σ : Sl} {H : Hp} {Q : VK} {i : Int} {v : V} (h0 : σ[0]? = some (some (.ref a0))) (h : H a0 = some (.lst [.int g.st, .ref a1, .int g.ix])) (hi : L2.atI [.int g.st, .ref a1, .int g.ix] i = some v) (q : Q v H) : tH K i σ H Q :=
  ⟨_, h0, a0, _, i, v, rfl, rfl, .inl (.inl h), hi, q⟩
theorem at_lt (g : Dr) : g.at < (g.cs ++ [(0 : Int)]).length ∧ ((g.at : Nat) : Int) = g.ix % (if (g.cs.length : Int) > 1 then (g.cs.length : Int) else 1) := by
  unfold Dr.at
  have h1 : 0 < (if (g.cs.length : Int) > 1 then (g.cs.length : Int) else 1) ∧ (if (g.cs.length : Int) > 1 then (g.cs.length : Int) else 1) ≤ g.cs.length + 1 := by split <;> omega
  generalize (if (g.cs.length : Int) > 1 then (g.cs.length : Int) else 1) = m at h1 ⊢
  have h2 := Int.emod_nonneg g.ix (show m ≠ 0 by omega)
  have h3 := Int.emod_lt_of_pos g.ix h1.1
  rw [List.length_append]
  refine ⟨?_, Int.toNat_of_nonneg h2⟩
  simp only [List.length_cons, List.length_nil]
  omega
theorem at_big {g : Dr} (h : 10 ^ 18 ≤ g.cell) : 0 < g.cs.length ∧ g.at < g.cs.length ∧ ((g.at : Nat) : Int) = g.ix % (g.cs.length : Int) := by
  obtain ⟨h1, h2⟩ := at_lt g
  have hl : g.at < g.cs.length := by
    apply Classical.byContradiction
    intro n
    unfold Dr.cell at h
    rw [List.getD_eq_getElem?_getD, List.getElem?_append_right (by omega)] at h
    rw [List.length_append] at h1
    have e : g.at - g.cs.length = 0 := by simp at h1; omega
    rw [e] at h
    exact absurd h (by decide)
  have hp : 0 < g.cs.length := by omega
  refine ⟨hp, hl, ?_⟩
  rw [h2]
  congr 1
  split <;> omega
theorem cell_big {g : Dr} (h : g.at < g.cs.length) : g.cs[g.at]? = some g.cell := by
  unfold Dr.cell
  rw [List.getD_eq_getElem?_getD, List.getElem?_append_left h, List.getElem?_eq_getElem h]
  rfl
theorem cell_at (g : Dr) : L2.atI (g.cs.map V.int ++ [V.int 0]) (g.ix % (if (g.cs.length : Int) > 1 then (g.cs.length : Int) else 1)) = some (.int g.cell) := by
  obtain ⟨h1, h2⟩ := at_lt g
  rw [← h2]
  refine atI_nat ?_
  have e : g.cs.map V.int ++ [V.int 0] = (g.cs ++ [(0 : Int)]).map V.int := by simp
  rw [e, List.getElem?_map]
  unfold Dr.cell
  rw [List.getD_eq_getElem?_getD, List.getElem?_eq_getElem h1]
  rfl
theorem upd_none {H : Hp} {a b : Addr} {o : HO} (e : upd H a o b = none) : H b = none := by
  unfold upd at e
  split at e
  · cases e
  · exact e
theorem ixN_nat {n j : Nat} (hj : j < n) : ixN n (j : Int) = some j := by
  unfold ixN
  rw [if_pos (by omega), if_pos (by omega)]
  simp
section
variable {K : PySem.W.Frag} {a0 a1 : Addr} {g : Dr} {cap : Int} {H : Hp} {D : Ends}
abbrev slN (a0 : Addr) (cap : Int) (c : Option V) : Sl := [some (.ref a0), some (.int cap), c]
theorem n1 {c : Option V} (h1 : H a0 = some (.lst [.int g.st, .ref a1, .int g.ix])) (h2 : H a1 = some (.lst (g.cs.map V.int))) (h3 : g.cs.length ≤ 63)
    (q : ∀ p q, H p = none → H q = none → p ≠ q → D.nx (slN a0 cap (some (.int g.cell))) (upd (upd H p (.lst [.int 0])) q (.lst (g.cs.map V.int ++ [.int 0])))) : trN1 K D (slN a0 cap c) H := by
  have e0 : (slN a0 cap c)[0]? = some (some (.ref a0)) := rfl
  refine tH_ok e0 h1 (show L2.atI _ 1 = some (.ref a1) from rfl) ?_
  refine ⟨by decide +kernel, fun p hp => ?_⟩
  have n0 : a0 ≠ p := fun z => by rw [← z, h1] at hp; cases hp
  have n1 : a1 ≠ p := fun z => by rw [← z, h2] at hp; cases hp
  refine ⟨a1, p, _, _, rfl, rfl, (upd_ne n1).trans h2, upd_same, ?_, fun r hr => ?_⟩
  · rw [List.length_map, sizeLine_eq]; simp only [List.length_cons, List.length_nil]; omega
  have hr' : H r = none := upd_none hr
  have rp : r ≠ p := fun z => by rw [z, upd_same] at hr; cases hr
  have r0 : a0 ≠ r := fun z => by rw [← z, h1] at hr'; cases hr'
  have r1 : a1 ≠ r := fun z => by rw [← z, h2] at hr'; cases hr'
  have k1 : upd (upd H p (.lst [.int 0])) r (.lst (g.cs.map V.int ++ [.int 0])) a0 = some (.lst [.int g.st, .ref a1, .int g.ix]) := by rw [upd_ne r0, upd_ne n0, h1]
  have k2 : upd (upd H p (.lst [.int 0])) r (.lst (g.cs.map V.int ++ [.int 0])) a1 = some (.lst (g.cs.map V.int)) := by rw [upd_ne r1, upd_ne n1, h2]
  refine tH_ok e0 k1 (show L2.atI _ 2 = some (.int g.ix) from rfl) ?_
  refine .inl ⟨g.ix, rfl, ?_⟩
  refine tH_ok e0 k1 (show L2.atI _ 1 = some (.ref a1) from rfl) ?_
  refine ⟨a1, _, rfl, .inl (.inl (.inl k2)), ?_⟩
  refine ⟨1, _, rfl, ?_⟩
  refine ⟨g.ix, _, rfl, rfl, ?_, ?_⟩
  · split <;> omega
  refine ⟨r, _, _, _, rfl, rfl, .inl (.inl upd_same), ?_, q p r hp hr' (Ne.symm rp)⟩
  rw [List.length_map]
  exact cell_at g
theorem n2t {c : Int} (q : if (10 : Int) ^ 18 ≤ c then (tSeq (trN2a K) trN2b) D (slN a0 cap (some (.int c))) H else D.nx (slN a0 cap (some (.int c))) H) : trN2 K D (slN a0 cap (some (.int c))) H := by
  have e2 : (slN a0 cap (some (.int c)))[2]? = some (some (.int c)) := rfl
  refine ⟨_, e2, 10, 18, rfl, rfl, ⟨by decide, by decide, by decide⟩, ?_⟩
  refine ⟨c, _, rfl, rfl, _, rfl, ?_⟩
  by_cases h : (10 : Int) ^ 18 ≤ c
  · rw [if_pos h] at q
    rw [if_pos (by simpa using h)]
    exact q
  · rw [if_neg h] at q
    rw [if_neg (by simpa using h)]
    exact q
theorem n2a (hb : 10 ^ 18 ≤ g.cell) (hc : 0 < cap) (hc2 : cap < 1073741824) (h1 : H a0 = some (.lst [.int g.st, .ref a1, .int g.ix])) (h2 : H a1 = some (.lst (g.cs.map V.int)))
    (q : D.rt (.int (g.cell % cap)) (upd H a1 (.lst ((g.cs.set g.at (g.cell / cap)).map V.int)))) : (tSeq (trN2a K) trN2b) D (slN a0 cap (some (.int g.cell))) H := by
  have e0 : (slN a0 cap (some (.int g.cell)))[0]? = some (some (.ref a0)) := rfl
  have e1 : (slN a0 cap (some (.int g.cell)))[1]? = some (some (.int cap)) := rfl
  have e2 : (slN a0 cap (some (.int g.cell)))[2]? = some (some (.int g.cell)) := rfl
  obtain ⟨b1, b2, b3⟩ := at_big hb
  refine ⟨_, e2, _, e1, g.cell, cap, rfl, rfl, ⟨hc, hc2⟩, ?_⟩
  refine tH_ok e0 h1 (show L2.atI _ 1 = some (.ref a1) from rfl) ?_
  refine tH_ok e0 h1 (show L2.atI _ 2 = some (.int g.ix) from rfl) ?_
  refine .inl ⟨g.ix, rfl, ?_⟩
  refine tH_ok e0 h1 (show L2.atI _ 1 = some (.ref a1) from rfl) ?_
  refine ⟨a1, _, rfl, .inl (.inl (.inl h2)), ?_⟩
  refine ⟨g.ix, _, rfl, rfl, by rw [List.length_map]; omega, ?_⟩
  refine ⟨a1, _, _, g.at, rfl, rfl, h2, ?_, ?_⟩
  · rw [List.length_map, ← b3]; exact ixN_nat b2
  rw [← List.map_set]
  exact ⟨_, e2, .inl ⟨g.cell, rfl, _, e1, g.cell, cap, rfl, rfl, hc, q⟩⟩
theorem n345 (hc : 0 < cap) (h1 : H a0 = some (.lst [.int g.st, .ref a1, .int g.ix]))
    (q : D.rt (.int (g.turn / 7 % cap)) (upd (upd H a0 (.lst [.int g.turn, .ref a1, .int g.ix])) a0 (.lst [.int g.turn, .ref a1, .int (g.ix + 1)]))) : (tSeq (trN3 K) (tSeq (trN4 K) (trN5 K))) D (slN a0 cap (some (.int g.cell))) H := by
  have e0 : (slN a0 cap (some (.int g.cell)))[0]? = some (some (.ref a0)) := rfl
  have e1 : (slN a0 cap (some (.int g.cell)))[1]? = some (some (.int cap)) := rfl
  have e2 : (slN a0 cap (some (.int g.cell)))[2]? = some (some (.int g.cell)) := rfl
  refine tH_ok e0 h1 (show L2.atI _ 0 = some (.int g.st) from rfl) ?_
  refine ⟨g.st, 48271, rfl, rfl, .inr (by decide), _, e2, g.cell, 69621, rfl, rfl, .inr (by decide), ?_⟩
  refine ⟨_, _, rfl, rfl, _, _, rfl, rfl, .inl ⟨_, rfl, _, _, rfl, rfl, show (0 : Int) < 2147483647 by decide, ?_⟩⟩
  refine ⟨_, e0, a0, _, 0, 0, rfl, rfl, h1, rfl, ?_⟩
  have k1 : upd H a0 (.lst [.int g.turn, .ref a1, .int g.ix]) a0 = some (.lst [.int g.turn, .ref a1, .int g.ix]) := upd_same
  refine tH_ok (g := ⟨g.turn, g.cs, g.ix⟩) e0 k1 (show L2.atI _ 2 = some (.int g.ix) from rfl) ?_
  refine ⟨g.ix, 1, rfl, rfl, _, e0, a0, _, 2, 2, rfl, rfl, k1, rfl, ?_⟩
  have k2 : upd (upd H a0 (.lst [.int g.turn, .ref a1, .int g.ix])) a0 (.lst [.int g.turn, .ref a1, .int (g.ix + 1)]) a0 = some (.lst [.int g.turn, .ref a1, .int (g.ix + 1)]) := upd_same
  refine tH_ok (g := ⟨g.turn, g.cs, g.ix + 1⟩) e0 k2 (show L2.atI _ 0 = some (.int g.turn) from rfl) ?_
  exact ⟨g.turn, 7, rfl, rfl, show (0 : Int) < 7 ∧ (7 : Int) < 1073741824 by decide, .inl ⟨_, rfl, _, e1, _, _, rfl, rfl, hc, q⟩⟩
end
theorem next_run {K : PySem.W.Frag} {a0 a1 : Addr} {hne : a0 ≠ a1} {g : Dr} {cap : Int} {H : Hp} {D : Ends} (hg : (drT a0 a1 hne).gr g H) (hc : 0 < cap) (hc2 : cap < 1073741824)
    (hQ : ∀ H', (∀ a o, H a = some o → ¬ (drT a0 a1 hne).fp a → H' a = some o) → (drT a0 a1 hne).gr (nxG g cap) H' → D.rt (.int (nxV g cap)) H') : trN K D (slN a0 cap none) H := by
  obtain ⟨h1, h2, h3⟩ := hg
  refine n1 h1 h2 h3 fun p q hp hq hpq => ?_
  have n0 : a0 ≠ p := fun z => by rw [← z, h1] at hp; cases hp
  have n1 : a1 ≠ p := fun z => by rw [← z, h2] at hp; cases hp
  have r0 : a0 ≠ q := fun z => by rw [← z, h1] at hq; cases hq
  have r1 : a1 ≠ q := fun z => by rw [← z, h2] at hq; cases hq
  have k1 : upd (upd H p (.lst [.int 0])) q (.lst (g.cs.map V.int ++ [.int 0])) a0 = some (.lst [.int g.st, .ref a1, .int g.ix]) := by rw [upd_ne r0, upd_ne n0, h1]
  have k2 : upd (upd H p (.lst [.int 0])) q (.lst (g.cs.map V.int ++ [.int 0])) a1 = some (.lst (g.cs.map V.int)) := by rw [upd_ne r1, upd_ne n1, h2]
  have kp : ∀ a o, H a = some o → upd (upd H p (.lst [.int 0])) q (.lst (g.cs.map V.int ++ [.int 0])) a = some o := fun a o e => by
    have z1 : a ≠ p := fun z => by rw [z, hp] at e; cases e
    have z2 : a ≠ q := fun z => by rw [z, hq] at e; cases e
    rw [upd_ne z2, upd_ne z1, e]
  refine n2t ?_
  by_cases hb : (10 : Int) ^ 18 ≤ g.cell
  · rw [if_pos hb]
    refine n2a hb hc hc2 k1 k2 ?_
    have ev : nxV g cap = g.cell % cap := if_pos hb
    have eg : nxG g cap = { g with cs := g.cs.set g.at (g.cell / cap) } := if_pos hb
    rw [← ev]
    refine hQ _ (fun a o e nf => ?_) ?_
    · rw [upd_ne fun z => nf (.inr z)]
      exact kp a o e
    · rw [eg]
      exact ⟨(upd_ne hne).trans k1, upd_same, by rw [List.length_set]; exact h3⟩
  · rw [if_neg hb]
    refine n345 hc k1 ?_
    have ev : nxV g cap = g.turn / 7 % cap := if_neg hb
    have eg : nxG g cap = ⟨g.turn, g.cs, g.ix + 1⟩ := if_neg hb
    rw [← ev]
    refine hQ _ (fun a o e nf => ?_) ?_
    · rw [upd_ne fun z => nf (.inl z), upd_ne fun z => nf (.inl z)]
      exact kp a o e
    · rw [eg]
      exact ⟨upd_same, by rw [upd_ne (Ne.symm hne), upd_ne (Ne.symm hne)]; exact k2, h3⟩
/-- the draw keeps its promise -/
theorem next_sp {K : Env1} {a0 a1 : Addr} {hne : a0 ≠ a1} {vs : List V} {H : Hp} {Q : VK} {E : XK} {x y z : Str} (h : spD K (drT a0 a1 hne) 2 (mNext a0) vs H Q E) : trN K.K { nx := fun _ H' => Q .non H', rt := Q } (L2.start [x, y, z] vs) H := by
  obtain ⟨F, ds, g, hl, h2, h3, h4, h5, h6⟩ := h
  match vs, hl, h3 with
  | [v, w], _, .cons rv (.cons rw' .nil) =>
    rename_i d e
    cases d <;> first | (exact h6.elim) | skip
    rename_i a
    cases e <;> first | (exact h6.elim) | skip
    rename_i cap
    rw [show mNext a0 [.ref a, .int cap] g = (if a = a0 ∧ 0 < cap ∧ cap < 1073741824 then Fr.ok (.int (nxV g cap)) (nxG g cap) else .no) from rfl] at h6
    split at h6
    · rename_i g1 g2 q
      split at q
      · rename_i c
        cases q
        obtain ⟨rfl, c1, c2⟩ := c
        cases rv
        cases rw'
        refine next_run (g := g) h4 c1 c2 fun H' kp hg => ?_
        refine h6 (.int _) F H' ⟨Le.refl _, fun a o e => ?_, fun a o e nf => kp a o e nf, fun a n => .inl n, hg, h5⟩ (.int _)
        refine kp a o (h2 a o e) fun nf => ?_
        rw [h5 a nf] at e
        cases e
      · cases q
    · rename_i q
      split at q <;> cases q
    · exact h6.elim
end BF
set_option Elab.async false
set_option linter.all false
set_option autoImplicit false
set_option maxRecDepth 100000
set_option maxHeartbeats 4000000
namespace BF
open PySem PySem.Spec PyProof.Rows L2
/-! ## the draws' defs in a law -/
abbrev nextB (p1 p2 p3 p4 p5 p6 p7 p8 p9 p10 p11 p12 p13 p14 p15 p16 p17 p18 p19 p20 p21 p22 p23 p24 p25 p26 p27 p28 p29 p30 p31 p32 p33 p34 p35 p36 p37 p38 p39 p40 p41 p42 p43 p44 p45 p46 p47 p48 p49 p50 p51 p52 p53 p54 p55 p56 p57 p58 p59 p60 p61 p62 p63 p64 p65 p66 p67 p68 p69 p70 p71 p72 p73 p74 p75 p76 p77 p78 p79 p80 p81 p82 p83 p84 p85 p86 p87 p88 p89 p90 p91 p92 : Pos) (k1 k2 k3 k4 k5 k6 k7 k8 k9 k10 k11 k12 k13 k14 k15 k16 k17 k18 k19 k20 k21 : Nat) : List Stmt :=
  [(.Assign [(.Name "_law_cell" p1)] (.Subscript (.BinOp (.Subscript (.Name "_law_h" p2) (.Constant (.int 1) k1 p3) p4) .Add (.List [(.Constant (.int 0) k2 p5)] p6) p7) (.BinOp (.Call (.Name "int" p8) [(.Subscript (.Name "_law_h" p9) (.Constant (.int 2) k3 p10) p11)] [] p12) .Mod (.Call (.Name "max" p13) [(.Constant (.int 1) k4 p14), (.Call (.Name "len" p15) [(.Subscript (.Name "_law_h" p16) (.Constant (.int 1) k5 p17) p18)] [] p19)] [] p20) p21) p22) p23),
   (.If (.Compare (.Name "_law_cell" p24) [.GtE] [(.BinOp (.Constant (.int 10) k6 p25) .Pow (.Constant (.int 18) k7 p26) p27)] p28) [(.Assign [(.Subscript (.Subscript (.Name "_law_h" p29) (.Constant (.int 1) k8 p30) p31) (.BinOp (.Call (.Name "int" p32) [(.Subscript (.Name "_law_h" p33) (.Constant (.int 2) k9 p34) p35)] [] p36) .Mod (.Call (.Name "len" p37) [(.Subscript (.Name "_law_h" p38) (.Constant (.int 1) k10 p39) p40)] [] p41) p42) p43)] (.BinOp (.Name "_law_cell" p44) .FloorDiv (.Name "_law_cap" p45) p46) p47),
   (.Return (some (.BinOp (.Call (.Name "int" p48) [(.Name "_law_cell" p49)] [] p50) .Mod (.Name "_law_cap" p51) p52)) p53)] [] p54),
   (.Assign [(.Subscript (.Name "_law_h" p55) (.Constant (.int 0) k11 p56) p57)] (.BinOp (.Call (.Name "int" p58) [(.BinOp (.BinOp (.BinOp (.Subscript (.Name "_law_h" p59) (.Constant (.int 0) k12 p60) p61) .Mult (.Constant (.int 48271) k13 p62) p63) .Add (.BinOp (.Name "_law_cell" p64) .Mult (.Constant (.int 69621) k14 p65) p66) p67) .Add (.Constant (.int 11) k15 p68) p69)] [] p70) .Mod (.Constant (.int 2147483647) k16 p71) p72) p73),
   (.Assign [(.Subscript (.Name "_law_h" p74) (.Constant (.int 2) k17 p75) p76)] (.BinOp (.Subscript (.Name "_law_h" p77) (.Constant (.int 2) k18 p78) p79) .Add (.Constant (.int 1) k19 p80) p81) p82),
   (.Return (some (.BinOp (.Call (.Name "int" p83) [(.BinOp (.Subscript (.Name "_law_h" p84) (.Constant (.int 0) k20 p85) p86) .FloorDiv (.Constant (.int 7) k21 p87) p88)] [] p89) .Mod (.Name "_law_cap" p90) p91)) p92)]
abbrev mixB (p1 p2 p3 p4 p5 p6 p7 p8 p9 p10 p11 p12 p13 p14 p15 p16 p17 p18 p19 p20 p21 p22 p23 p24 p25 p26 p27 p28 p29 p30 : Pos) (k1 k2 k3 k4 k5 : Nat) : List Stmt :=
  [(.Assign [(.Name "_law_state" p1)] (.Name "_law_seed" p2) p3),
   (.For (.Name "_law_cell" p4) (.Name "_law_script" p5) [(.Assign [(.Name "_law_state" p6)] (.BinOp (.Call (.Name "int" p7) [(.BinOp (.BinOp (.BinOp (.Name "_law_state" p8) .Mult (.Constant (.int 48271) k1 p9) p10) .Add (.BinOp (.Call (.Name "int" p11) [(.Name "_law_cell" p12)] [] p13) .Mod (.Constant (.int 2147483629) k2 p14) p15) p16) .Add (.Constant (.int 1) k3 p17) p18)] [] p19) .Mod (.Constant (.int 2147483647) k4 p20) p21) p22)] [] p23),
   (.Return (some (.List [(.Name "_law_state" p24), (.Call (.Name "list" p25) [(.Name "_law_script" p26)] [] p27), (.Constant (.int 0) k5 p28)] p29)) p30)]
theorem vis_par {N P : List Str} {sc : Scope} (S : FnScope N P sc) {x : Str} (h : x ∈ P) : Vis sc x := by
  rcases S.par x h with e | e
  · exact Or.inl e
  · exact Or.inr (Or.inl e)
section
variable {P : Program} {w : World} {K : Env1} {mg : Str → Option Value} {base : Heap} {f : Addr} {fd : FuncData} {pa : Arguments} {bd : List Stmt} {sc : Scope} {q : Str}
theorem ok_next {a0 a1 : Addr} {hne : a0 ≠ a1} {CX : CXT} {p1 p2 p3 p4 p5 p6 p7 p8 p9 p10 p11 p12 p13 p14 p15 p16 p17 p18 p19 p20 p21 p22 p23 p24 p25 p26 p27 p28 p29 p30 p31 p32 p33 p34 p35 p36 p37 p38 p39 p40 p41 p42 p43 p44 p45 p46 p47 p48 p49 p50 p51 p52 p53 p54 p55 p56 p57 p58 p59 p60 p61 p62 p63 p64 p65 p66 p67 p68 p69 p70 p71 p72 p73 p74 p75 p76 p77 p78 p79 p80 p81 p82 p83 p84 p85 p86 p87 p88 p89 p90 p91 p92 : Pos} {k1 k2 k3 k4 k5 k6 k7 k8 k9 k10 k11 k12 k13 k14 k15 k16 k17 k18 k19 k20 k21 : Nat}
    (F : FunD K.K "_law_next" q pa bd sc [] [] f fd) (S : FnScope ["_law_h", "_law_cap", "_law_cell"] ["_law_h", "_law_cap"] sc) (hl : sc.names.lookup ("_law_cell" : Str) = some .local) (hi : sc.names.lookup ("int" : Str) = some .globalImplicit) (hm : sc.names.lookup ("max" : Str) = some .globalImplicit) (hn : sc.names.lookup ("len" : Str) = some .globalImplicit) (mi : mg "int" = none) (mm : mg "max" = none) (ml : mg "len" = none)
    (hb : bd = nextB p1 p2 p3 p4 p5 p6 p7 p8 p9 p10 p11 p12 p13 p14 p15 p16 p17 p18 p19 p20 p21 p22 p23 p24 p25 p26 p27 p28 p29 p30 p31 p32 p33 p34 p35 p36 p37 p38 p39 p40 p41 p42 p43 p44 p45 p46 p47 p48 p49 p50 p51 p52 p53 p54 p55 p56 p57 p58 p59 p60 p61 p62 p63 p64 p65 p66 p67 p68 p69 p70 p71 p72 p73 p74 p75 p76 p77 p78 p79 p80 p81 p82 p83 p84 p85 p86 p87 p88 p89 p90 p91 p92 k1 k2 k3 k4 k5 k6 k7 k8 k9 k10 k11 k12 k13 k14 k15 k16 k17 k18 k19 k20 k21) :
    FnOk P w K.K mg base CX 1 f fd ["_law_h", "_law_cap"] (spD K (drT a0 a1 hne) 2 (mNext a0)) := by
  refine F.ok (CX := CX) S (fun vs H Q E h => ?_) (fun cdv A outer s H vs Q E hr h => ⟨trN K.K, ?_, next_sp h⟩)
  · obtain ⟨F, ds, g, hl, _⟩ := h
    exact hl
  rw [hb]
  have v0 : Vis sc "_law_h" := vis_par S List.mem_cons_self
  have v1 : Vis sc "_law_cap" := vis_par S (List.mem_cons_of_mem _ List.mem_cons_self)
  have v2 : Vis sc "_law_cell" := .inl hl
  have bi : bootBuiltins "int" = some (.type "int") := by decide +kernel
  have bm : bootBuiltins "max" = some (.builtin "max") := by decide +kernel
  have bl : bootBuiltins "len" = some (.builtin "len") := by decide +kernel
  have eh : ∀ {p : Pos}, PE (cxOf CX P w K.K mg base ["_law_h", "_law_cap", "_law_cell"] q sc f cdv A outer s H E) (.Name "_law_h" p) (tVar 0) := fun {p} => pe_var rfl v0
  have ec : ∀ {p : Pos}, PE (cxOf CX P w K.K mg base ["_law_h", "_law_cap", "_law_cell"] q sc f cdv A outer s H E) (.Name "_law_cap" p) (tVar 1) := fun {p} => pe_var rfl v1
  have el : ∀ {p : Pos}, PE (cxOf CX P w K.K mg base ["_law_h", "_law_cap", "_law_cell"] q sc f cdv A outer s H E) (.Name "_law_cell" p) (tVar 2) := fun {p} => pe_var rfl v2
  have eH : ∀ {i : Int} {k : Nat} {p p' p'' : Pos}, PE (cxOf CX P w K.K mg base ["_law_h", "_law_cap", "_law_cell"] q sc f cdv A outer s H E) (.Subscript (.Name "_law_h" p) (.Constant (.int i) k p') p'') (tH K.K i) := fun {i k p p' p''} => pe_ix ix_list eh pe_int fun _ _ => rfl
  refine pss_cons (ps_set S.nd rfl (.inl hl) (pe_ix ix_list (pe_op op_cat eH (pe_lst (pa_cons pe_int pa_nil))) (pe_op op_mod (pe_callTy call_int1 hi mi bi (pa_cons eH pa_nil)) (pe_callB (call_max2 rfl) hm mm bm (pa_cons pe_int (pa_cons (pe_callB call_len_seq hn ml bl (pa_cons eH pa_nil)) pa_nil)))) fun _ _ => rfl)) ?_
  refine pss_cons (ps_if (pt_cmpR op_ge el (pe_op op_pow pe_int pe_int) rfl) (pss_cons (ps_asg (pe_op op_fdiv el ec) (pg_sub eH (pe_op op_mod (pe_callTy call_int1 hi mi bi (pa_cons eH pa_nil)) (pe_callB call_len_seq hn ml bl (pa_cons eH pa_nil))) set_list)) (pss_one (ps_ret (pe_op op_mod (pe_callTy call_int1 hi mi bi (pa_cons el pa_nil)) ec)))) pss_nil) ?_
  refine pss_cons (ps_asg (pe_op op_mod (pe_callTy call_int1 hi mi bi (pa_cons (pe_op op_add (pe_op op_add (pe_op op_mul eH pe_int) (pe_op op_mul el pe_int)) pe_int) pa_nil)) pe_int) (pg_sub eh pe_int set_list)) ?_
  refine pss_cons (ps_asg (pe_op op_add eH pe_int) (pg_sub eh pe_int set_list)) ?_
  exact pss_one (ps_ret (pe_op op_mod (pe_callTy call_int1 hi mi bi (pa_cons (pe_op op_fdiv eH pe_int) pa_nil)) ec))
end
end BF
set_option Elab.async false
set_option linter.all false
set_option autoImplicit false
set_option maxRecDepth 100000
set_option maxHeartbeats 4000000
namespace BF
open PySem PySem.Spec PyProof.Rows L2
def spMix (K : PySem.W.Frag) : Sp := fun vs H Q _ => ∃ (a : Addr) (ns : List Int) (seed : Int), vs = [.ref a, .int seed] ∧ SqL K H a (ns.map V.int) ∧ ns.length ≤ 63 ∧
  ∀ (st : Int) a1 a0, H a1 = none → H a0 = none → a0 ≠ a1 → Q (.ref a0) (upd (upd H a1 (.lst (ns.map V.int))) a0 (.lst [.int st, .ref a1, .int 0]))
def trMb : TS := tAsg (tOp oMod (tCB rIntC (tCons (tOp oAdd (tOp oAdd (tOp oMul (tVar 2) (tC (.int 48271))) (tOp oMod (tCB rIntC (tCons (tVar 3) tNil)) (tC (.int 2147483629)))) (tC (.int 1))) tNil)) (tC (.int 2147483647))) (gName 2)
def trM (K : PySem.W.Frag) : TS := tSeq (tAsg (tVar 1) (gName 2)) (tSeq (tFor (iList K (tVar 0)) (gName 3) trMb) (tRet (tLst (tCons (tVar 2) (tCons (tCB (rLstC K) (tCons (tVar 0) tNil)) (tCons (tC (.int 0)) tNil))))))
theorem mix_run {K : PySem.W.Frag} {vs : List V} {H : Hp} {Q : VK} {E : XK} {x y z t : Str} (h : spMix K vs H Q E) : trM K { nx := fun _ H' => Q .non H', rt := Q } (L2.start [x, y, z, t] vs) H := by
  obtain ⟨a, ns, seed, rfl, hs, hl, q⟩ := h
  refine ⟨.int seed, rfl, ?_⟩
  refine ⟨.ref a, rfl, a, rfl, ⟨_, hs⟩, ?_⟩
  refine for_list (xs := ns.map V.int) (fun i σ H' => H' = H ∧ ∃ (st : Int) (c : Option V), σ = [some (.ref a), some (.int seed), some (.int st), c]) ⟨rfl, seed, none, rfl⟩ (fun i σ H' _ p => by rw [p.1]; exact hs) (fun i v σ H' e p => ?_) (fun σ H' p => ?_)
  · obtain ⟨rfl, st, c, rfl⟩ := p
    rw [List.getElem?_map] at e
    cases e2 : ns[i]? with
    | none => rw [e2] at e; cases e
    | some n =>
      rw [e2] at e
      cases e
      refine ⟨_, rfl, st, 48271, rfl, rfl, .inr (by decide), ?_⟩
      refine ⟨_, rfl, .inl ⟨n, rfl, n, 2147483629, rfl, rfl, show (0 : Int) < 2147483629 by decide, ?_⟩⟩
      exact ⟨_, _, rfl, rfl, _, _, rfl, rfl, .inl ⟨_, rfl, _, _, rfl, rfl, show (0 : Int) < 2147483647 by decide, rfl, _, _, rfl⟩⟩
  · obtain ⟨rfl, st, c, rfl⟩ := p
    refine ⟨_, rfl, _, rfl, a, _, rfl, .inl hs, fun a1 h1 => ⟨by show 3 ≤ sizeLine; decide +kernel, fun a0 h0 => ?_⟩⟩
    have ne : a0 ≠ a1 := fun z => by rw [z, upd_same] at h0; cases h0
    exact q st a1 a0 h1 (upd_none h0) ne
section
variable {P : Program} {w : World} {K : Env1} {mg : Str → Option Value} {base : Heap} {f : Addr} {fd : FuncData} {pa : Arguments} {bd : List Stmt} {sc : Scope} {q : Str}
theorem ok_mix {p1 p2 p3 p4 p5 p6 p7 p8 p9 p10 p11 p12 p13 p14 p15 p16 p17 p18 p19 p20 p21 p22 p23 p24 p25 p26 p27 p28 p29 p30 : Pos} {k1 k2 k3 k4 k5 : Nat}
    (F : FunD K.K "_law_mix" q pa bd sc [] [] f fd) (S : FnScope ["_law_script", "_law_seed", "_law_state", "_law_cell"] ["_law_script", "_law_seed"] sc) (hl : sc.names.lookup ("_law_cell" : Str) = some .local) (hst : sc.names.lookup ("_law_state" : Str) = some .local) (hi : sc.names.lookup ("int" : Str) = some .globalImplicit) (hn : sc.names.lookup ("list" : Str) = some .globalImplicit) (mi : mg "int" = none) (ml : mg "list" = none)
    (hb : bd = mixB p1 p2 p3 p4 p5 p6 p7 p8 p9 p10 p11 p12 p13 p14 p15 p16 p17 p18 p19 p20 p21 p22 p23 p24 p25 p26 p27 p28 p29 p30 k1 k2 k3 k4 k5) :
    FnOk P w K.K mg base (L2.CX P w) 1 f fd ["_law_script", "_law_seed"] (spMix K.K) := by
  refine F.ok (CX := L2.CX P w) S (fun vs H Q E h => ?_) (fun cdv A outer s H vs Q E hr h => ⟨trM K.K, ?_, mix_run h⟩)
  · obtain ⟨a, ns, seed, rfl, _⟩ := h
    rfl
  rw [hb]
  have v0 : Vis sc "_law_script" := vis_par S List.mem_cons_self
  have v1 : Vis sc "_law_seed" := vis_par S (List.mem_cons_of_mem _ List.mem_cons_self)
  have bi : bootBuiltins "int" = some (.type "int") := by decide +kernel
  have bl : bootBuiltins "list" = some (.type "list") := by decide +kernel
  refine pss_cons (ps_set S.nd rfl (.inl hst) (pe_var rfl v1)) ?_
  refine pss_cons (ps_for (passes_of rfl) rfl (pi_list (pe_var rfl v0)) (pg_name S.nd rfl (.inl hl) (.inr hl)) (pss_one (ps_set S.nd rfl (.inl hst) (pe_op op_mod (pe_callTy call_int1 hi mi bi (pa_cons (pe_op op_add (pe_op op_add (pe_op op_mul (pe_var rfl (.inl hst)) pe_int) (pe_op op_mod (pe_callTy call_int1 hi mi bi (pa_cons (pe_var rfl (.inl hl)) pa_nil)) pe_int)) pe_int) pa_nil)) pe_int)))) ?_
  exact pss_one (ps_ret (pe_lst (pa_cons (pe_var rfl (.inl hst)) (pa_cons (pe_callTy call_list_of hn ml bl (pa_cons (pe_var rfl v0) pa_nil)) (pa_cons pe_int pa_nil)))))
end
/-! ## the globals, whatever the context -/
structure G0 {G : Type} (P : Program) (w : World) (mg : Str → Option Value) (base : Heap) (K : Env1) (T : Gt G) (k : Nat) (M : Pm) (Γ : Gam G) : Prop where
  gn : M.gn = Γ.map fun p => (p.1, kindG p.2)
  cst : ∀ (j : Nat) x d, Γ[j]? = some (x, .cst d) → ∃ u v, mg x = some u ∧ RelV v u ∧ ∀ F, Rep K F v d
  fn : ∀ (j : Nat) x n m, Γ[j]? = some (x, .fn n m) → ∃ kf f fd ps, kf ≤ k ∧ FnOk P w K.K mg base (L2.CX P w) kf f fd ps (spD K T n m) ∧ mg x = some (.ref f) ∧ PySem.W.keepIn K.K (.ref f) = true ∧ Binds K.K fd ps []
  mks : ∀ (j : Nat) x c f n m, Γ[j]? = some (x, .mk c f n m) → ∃ kf fi fd ps, 0 < n ∧ kf + 1 ≤ k ∧ FnOk P w K.K mg base (L2.CX P w) kf fi fd ps (spI K T c f n m) ∧ mg x = some (.ref (K.co c)) ∧ Mk K.K (K.co c) fi ∧ Binds K.K fd ps []
  bl : ∀ x ∈ M.bl, mg x = none
  csE : M.cs = K.cs
  cs : ∀ c ∈ K.cs, ClsOk K c
  csG : ∀ c ∈ K.cs, mg c = some (.ref (K.co c))
  ats : ∀ q ∈ M.ats, Cls K.K (K.co q.1) ∧ NoAttr K.K (K.co q.1) q.2
section
variable {G : Type} {P : Program} {w : World} {mg : Str → Option Value} {base : Heap} {K : Env1} {T : Gt G} {k : Nat} {M : Pm} {Γ : Gam G}
theorem G0.ok {N : List Str} {qual : Str} {scope : Scope} {f : Addr} {cdv : Value} {A : Around} {outer : List Env} {s : Shared} {H : Hp} {E : XK} (h : G0 P w mg base K T k M Γ) : GOk (cxOf (L2.CX P w) P w K.K mg base N qual scope f cdv A outer s H E) K T k { M with N := N } Γ :=
  ⟨h.gn, h.cst, h.fn, h.mks, h.bl, h.csE, h.cs, h.csG, h.ats⟩
theorem snoc_get {α : Type} {l : List α} {a b : α} {j : Nat} (h : (l ++ [a])[j]? = some b) : l[j]? = some b ∨ b = a := by
  by_cases c : j < l.length
  · rw [List.getElem?_append_left c] at h; exact .inl h
  · rw [List.getElem?_append_right (by omega)] at h
    cases e : j - l.length with
    | zero => rw [e] at h; cases h; exact .inr rfl
    | succ n => rw [e] at h; cases h
/-- one more def -/
theorem G0.snoc {k' kf n : Nat} {x : Str} {m : Mir G} {f : Addr} {fd : FuncData} {ps : List Str} (h : G0 P w mg base K T k M Γ) (hk : k ≤ k') (hf : kf ≤ k') (F : FnOk P w K.K mg base (L2.CX P w) kf f fd ps (spD K T n m)) (hm : mg x = some (.ref f)) (kp : PySem.W.keepIn K.K (.ref f) = true) (hb : Binds K.K fd ps []) :
    G0 P w mg base K T k' { M with gn := M.gn ++ [(x, .fn n)] } (Γ ++ [(x, .fn n m)]) where
  gn := by rw [List.map_append, ← h.gn]; rfl
  cst := fun j y d e => by
    rcases snoc_get e with e | e
    · exact h.cst j y d e
    · cases e
  fn := fun j y n' m' e => by
    rcases snoc_get e with e | e
    · obtain ⟨kf, f, fd, ps, h1, h2⟩ := h.fn j y n' m' e
      exact ⟨kf, f, fd, ps, Nat.le_trans h1 hk, h2⟩
    · cases e
      exact ⟨kf, f, fd, ps, hf, F, hm, kp, hb⟩
  mks := fun j y c f' n' m' e => by
    rcases snoc_get e with e | e
    · obtain ⟨kf, f, fd, ps, h0, h1, h2⟩ := h.mks j y c f' n' m' e
      exact ⟨kf, f, fd, ps, h0, Nat.le_trans h1 hk, h2⟩
    · cases e
  bl := h.bl
  csE := h.csE
  cs := h.cs
  csG := h.csG
  ats := h.ats
/-- one more class -/
theorem G0.snocM {k' kf n : Nat} {x c fl : Str} {m : Mir G} {f : Addr} {fd : FuncData} {ps : List Str} (h : G0 P w mg base K T k M Γ) (hk : k ≤ k') (hf : kf + 1 ≤ k') (hn : 0 < n) (F : FnOk P w K.K mg base (L2.CX P w) kf f fd ps (spI K T c fl n m)) (hm : mg x = some (.ref (K.co c))) (mk : Mk K.K (K.co c) f) (hb : Binds K.K fd ps []) :
    G0 P w mg base K T k' { M with gn := M.gn ++ [(x, .fn n)] } (Γ ++ [(x, .mk c fl n m)]) where
  gn := by rw [List.map_append, ← h.gn]; rfl
  cst := fun j y d e => by
    rcases snoc_get e with e | e
    · exact h.cst j y d e
    · cases e
  fn := fun j y n' m' e => by
    rcases snoc_get e with e | e
    · obtain ⟨kf, f, fd, ps, h1, h2⟩ := h.fn j y n' m' e
      exact ⟨kf, f, fd, ps, Nat.le_trans h1 hk, h2⟩
    · cases e
  mks := fun j y c f' n' m' e => by
    rcases snoc_get e with e | e
    · obtain ⟨kf, f, fd, ps, h0, h1, h2⟩ := h.mks j y c f' n' m' e
      exact ⟨kf, f, fd, ps, h0, Nat.le_trans h1 hk, h2⟩
    · cases e
      exact ⟨kf, f, fd, ps, hn, hf, F, hm, mk, hb⟩
  bl := h.bl
  csE := h.csE
  cs := h.cs
  csG := h.csG
  ats := h.ats
theorem G0.sndF {N ps : List Str} {qual : Str} {scope : Scope} {f : Addr} {cdv : Value} {A : Around} {outer : List Env} {s : Shared} {H : Hp} {E : XK} (h : G0 P w mg base K T k M Γ) (S : FnScope N ps scope) (hr : Room k (A.deeper (envOfC qual scope s.heap.objs.size f cdv))) :
    SndF (cxOf (L2.CX P w) P w K.K mg base N qual scope f cdv A outer s H E) K T (fun cls dd _ H => E cls dd H) k { M with N := N } Γ scope :=
  ⟨⟨ctx_fn S hr, h.ok, rfl, rfl⟩, fun _ => rfl, S.kind⟩
/-- a def that the check takes -/
theorem def_ok {x qual : Str} {params : Arguments} {body : List Stmt} {scope : Scope} {f : Addr} {fd : FuncData} {N ps : List Str} {code : Cs} (h : G0 P w mg base K T k M Γ) (Fn : FunD K.K x qual params body scope [] [] f fd) (S : FnScope N ps scope) (hc : chB { M with N := N } scope code body = true) :
    FnOk P w K.K mg base (L2.CX P w) (k + 1) f fd ps (spD K T ps.length (runF N.length (ex K Γ code))) :=
  fn_okD Fn S fun cdv A outer s H E hr => good_b code _ _ _ _ (h.sndF S hr) hc
/-- a promise that asks nothing -/
theorem def_no {x qual : Str} {params : Arguments} {body : List Stmt} {scope : Scope} {f : Addr} {fd : FuncData} {N ps : List Str} (k : Nat) (n : Nat) (Fn : FunD K.K x qual params body scope [] [] f fd) (S : FnScope N ps scope) :
    FnOk P w K.K mg base (L2.CX P w) (k + 1) f fd ps (spD K T n (fun _ _ => .no)) := by
  refine Fn.ok (CX := L2.CX P w) S (fun vs H Q E h => ?_) (fun cdv A outer s H vs Q E hr h => ?_)
  · obtain ⟨_, _, _, _, _, _, _, _, z⟩ := h; exact z.elim
  · obtain ⟨_, _, _, _, _, _, _, _, z⟩ := h; exact z.elim
end
end BF
set_option Elab.async false
set_option linter.all false
set_option autoImplicit false
set_option maxRecDepth 100000
set_option maxHeartbeats 4000000
namespace BF
open PySem PySem.Spec PyProof.Rows L2
section
variable {G : Type}
/-- __init__: expressions, then self.f = e -/
def runIp (K : Env1) (Γ : Gam G) : List Ce → Ce → Sg G → Fr G
  | [], e, s => (match ev K Γ e s with
    | .ok x s1 => (match use s1 x with
      | .ok d s2 => .ok d s2.g
      | _ => .no)
    | .er x g => .er x g
    | .no => .no)
  | c :: cs, e, s => (match ev K Γ c s with
    | .ok _ s1 => runIp K Γ cs e s1
    | .er x g => .er x g
    | .no => .no)
def runI (K : Env1) (Γ : Gam G) (n : Nat) (cs : List Ce) (e : Ce) : Mir G := fun ds g => runIp K Γ cs e ⟨none :: (ds.map (fun d => some (false, d)) ++ List.replicate (n - (ds.length + 1)) none), g⟩
def vIL : List Stmt → Option (Str × Str × Expr)
  | [.Assign [.Attribute (.Name s _) f _] v _] => some (s, f, v)
  | _ => none
theorem vIL_ok {b : List Stmt} {s f : Str} {v : Expr} (h : vIL b = some (s, f, v)) : ∃ p1 p2 p3, b = [.Assign [.Attribute (.Name s p1) f p2] v p3] := by
  unfold vIL at h; split at h <;> first | (cases h; exact ⟨_, _, _, rfl⟩) | cases h
def vIE : List Stmt → Option (Expr × List Stmt)
  | .Expr v _ :: r => some (v, r)
  | _ => none
theorem vIE_ok {b r : List Stmt} {v : Expr} (h : vIE b = some (v, r)) : ∃ p, b = .Expr v p :: r := by
  unfold vIE at h; split at h <;> first | (cases h; exact ⟨_, rfl⟩) | cases h
def chIni (P : Pm) (sc : Scope) (self fl : Str) : List Ce → Ce → List Stmt → Bool
  | [], e, b => onS (vIL b) fun q => (decide (q.1 = self) && decide (q.2.1 = fl)) && (!isComp q.2.2 && chE P sc e q.2.2)
  | c :: cs, e, b => onS (vIE b) fun q => (!isComp q.1 && chE P sc c q.1) && chIni P sc self fl cs e q.2
end
section
variable {G : Type} {X : Cx} {K : Env1} {T : Gt G} {W : WX1} {k : Nat} {P : Pm} {Γ : Gam G} {sc : Scope} {x : Addr} {σ : Sl} {C : Addr} {self fl : Str}
theorem ini_b (S : SndF X K T W k P Γ sc) (hN0 : P.N[0]? = some self) (hv : isVis sc self = true) (hok : okName self = true) (hC : Cls K.K C) (hA : NoAttr K.K C fl) (hσ : σ[0]? = some (some (.ref x))) :
    ∀ (cs : List Ce) (e : Ce) (body : List Stmt), chIni P sc self fl cs e body = true → ∀ (F H : Hp) (s : Sg G) (D : Ends), Rl K T F H s σ → (match runIp K Γ cs e s with
      | .ok d g' => ∀ v F' H', Xst T F H s σ F' H' g' → Rep K F' v d → ∃ dx, H' x = some (.ins C dx []) ∧ D.nx σ (upd H' x (.ins C dx [(fl, v)]))
      | .er y g' => PstX K T W F H s σ y g'
      | .no => False) → wpB X body D σ H := by
  intro cs
  induction cs with
  | nil =>
    intro e body h F H s D R hp
    obtain ⟨⟨s1, f1, v⟩, vv, ha⟩ := onS_ok (show onS (vIL body) _ = true from h)
    obtain ⟨p1, p2, p3, rfl⟩ := vIL_ok vv
    · obtain ⟨g1, g2⟩ := ba ha
      obtain ⟨h1, h2⟩ := ba g1
      obtain ⟨h3, h4⟩ := ba g2
      have e1 : s1 = self := of_decide_eq_true h1
      have e2 : f1 = fl := of_decide_eq_true h2
      have h3 : isComp v = false := by simpa using h3
      have h4 : chE P sc e v = true := h4
      subst e1 e2
      obtain ⟨m1, m2, m3⟩ := okName_of hok
      have hs : swapsWith v (some (.Attribute (.Name s1 p1) f1 p2)) p3.line X.env = pure false := sw_off h3
      refine wpB_of (pss_one (ps_fld (pe_var (by rw [S.toSnd.N]; exact hN0) (S.toSnd.vis hv) m1 m2) (pe_self X v) hs)) ?_
      refine (good_e e X W sc v S.toSnd h4).1 F H σ s _ R ?_
      unfold runIp at hp
      cases q : ev K Γ e s with
      | no => rw [q] at hp; exact hp.elim
      | er y g => rw [q] at hp; exact hp
      | ok y s1 =>
        rw [q] at hp
        simp only [] at hp
        intro w F1 H1 S1 R1 r1
        cases q2 : use s1 y with
        | no => rw [q2] at hp; exact hp.elim
        | er z g => rw [q2] at hp; exact hp.elim
        | ok d s2 =>
          rw [q2] at hp
          obtain ⟨F2, R2, S2, p2⟩ := r1.used S1 R R1 q2
          obtain ⟨dx, k1, k2⟩ := hp w F2 H1 (S2.xst R2) p2
          exact ⟨.ref x, hσ, x, C, dx, [], rfl, k1, by rw [← S.toSnd.ctx.kk]; exact hC, by rw [← S.toSnd.ctx.kk]; exact hA, by decide, k2⟩
  | cons c cs ih =>
    intro e body h F H s D R hp
    obtain ⟨⟨v, r⟩, vv, ha⟩ := onS_ok (show onS (vIE body) _ = true from h)
    obtain ⟨p, rfl⟩ := vIE_ok vv
    · obtain ⟨g1, g2⟩ := ba ha
      obtain ⟨h1, h2⟩ := ba g1
      refine wpB_of (pss_cons (ps_expr (pe_self X v) (sw_off (by simpa using h1))) (pss_self X r)) ?_
      refine (good_e c X W sc v S.toSnd h2).1 F H σ s _ R ?_
      unfold runIp at hp
      cases q : ev K Γ c s with
      | no => rw [q] at hp; exact hp.elim
      | er y g => rw [q] at hp; exact hp
      | ok y s1 =>
        rw [q] at hp
        simp only [] at hp
        intro w F1 H1 S1 R1 r1
        refine ih e r g2 F1 H1 s1 D R1 ?_
        cases q2 : runIp K Γ cs e s1 with
        | no => rw [q2] at hp; exact hp.elim
        | er z g => rw [q2] at hp; exact PstX.step S1 R R1 hp
        | ok d g =>
          rw [q2] at hp
          exact fun v F' H' xs rv => hp v F' H' (xs.after S1 R) rv
theorem Rl.drop0 {F H : Hp} {y : Option (Bool × D)} {l : List (Option (Bool × D))} {g : G} (R : Rl K T F H ⟨y :: l, g⟩ σ) : Rl K T F H ⟨none :: l, g⟩ σ := by
  have up : ∀ (i : Nat) (z : Bool × D), (none :: l)[i]? = some (some z) → (y :: l)[i]? = some (some z) := fun i z h => by
    cases i with
    | zero => cases h
    | succ i => exact h
  exact ⟨R.sub, R.len, fun i d h => R.val i d (up i _ h), fun i d h => R.own i d (up i _ h), fun i j d e p h1 h2 => R.inj i j d e p (up i _ h1) (up j _ h2), R.gs, R.gf⟩
end
/-- __init__ that the check takes -/
theorem ini_ok {G : Type} {P : Program} {w : World} {mg : Str → Option Value} {base : Heap} {K : Env1} {T : Gt G} {k n : Nat} {M : Pm} {Γ : Gam G} {x qual cn self fl : Str} {params : Arguments} {body : List Stmt} {scope : Scope} {f : Addr} {fd : FuncData} {N ps : List Str} {cs : List Ce} {e : Ce}
    (h : G0 P w mg base K T k M Γ) (Fn : FunD K.K x qual params body scope [] [] f fd) (S : FnScope N ps scope) (hps : ps.length = n + 1) (hN0 : N[0]? = some self) (hv : isVis scope self = true) (hok : okName self = true) (hC : Cls K.K (K.co cn)) (hA : NoAttr K.K (K.co cn) fl) (hc : chIni { M with N := N } scope self fl cs e body = true) :
    FnOk P w K.K mg base (L2.CX P w) (k + 1) f fd ps (spI K T cn fl n (runI K Γ N.length cs e)) := by
  refine Fn.ok (CX := L2.CX P w) S (fun vs H Q E h => ?_) (fun cdv A outer s H vs Q E hr h2 => ⟨_, pss_self _ _, ?_⟩)
  · obtain ⟨F, x, dx, us, ds, g, h1, h2, _⟩ := h
    rw [h1, List.length_cons, h2, hps]
  · obtain ⟨F, x, dx, us, ds, g, rfl, h1, h2, h3, h4, h5, h6, h7, h8, h9⟩ := h2
    have R0 := Rl.start (N := N) h2 (Reps.cons (Rep.ref (K := K) (F := F) x) h3) h4 h5
    have R1 : Rl K T F H ⟨none :: (ds.map (fun d => some (false, d)) ++ List.replicate (N.length - (ds.length + 1)) none), g⟩ (L2.start N (.ref x :: us)) := R0.drop0
    have no : ∀ a, ¬ Ownd (⟨none :: (ds.map (fun d => some (false, d)) ++ List.replicate (N.length - (ds.length + 1)) none), g⟩ : Sg G) (L2.start N (.ref x :: us)) a := fun a z => by
      obtain ⟨i, d, z1, z2⟩ := z
      cases i with
      | zero => cases z1
      | succ i => exact start_noown (N := N) (vs := .ref x :: us) (ds := .ref x :: ds) (g0 := g) ⟨i + 1, d, z1, z2⟩
    refine ini_b (h.sndF S hr) hN0 hv hok hC hA rfl cs e body hc F H _ _ R1 ?_
    have h9 : (match runIp K Γ cs e (⟨none :: (ds.map (fun d => some (false, d)) ++ List.replicate (N.length - (ds.length + 1)) none), g⟩ : Sg G) with
      | .ok d g' => ∀ v F' H', Fst1 T x F H F' H' g' → H' x = some (.ins (K.co cn) dx [(fl, v)]) → F' x = none → Rep K F' v d → Q .non H'
      | .er e g' => ∀ cls dd F' H', Fst1 T x F H F' H' g' → ErR K e cls dd F' H' → E cls dd H'
      | .no => False) := by
      have z := h9
      unfold runI at z
      cases q : runIp K Γ cs e (⟨none :: (ds.map (fun d => some (false, d)) ++ List.replicate (N.length - (ds.length + 1)) none), g⟩ : Sg G) with
      | no => rw [q] at z; exact z
      | er y g' => rw [q] at z; exact z
      | ok d g' => rw [q] at z; exact z
    cases q : runIp K Γ cs e (⟨none :: (ds.map (fun d => some (false, d)) ++ List.replicate (N.length - (ds.length + 1)) none), g⟩ : Sg G) with
    | no => rw [q] at h9; exact h9.elim
    | er y g' =>
      rw [q] at h9
      intro cls dd F' H' σ' xs er
      refine h9 cls dd F' H' ⟨xs.le, xs.sub, fun a o e nf _ => xs.keep a o e (no a) nf, fun a n => ?_, xs.gs, xs.gf⟩ er
      rcases xs.new a n with z | z | z
      · exact .inl z
      · exact .inr z
      · exact (no a z).elim
    | ok d g' =>
      rw [q] at h9
      intro v F' H' xs rv
      have hx : H' x = some (.ins (K.co cn) dx []) := xs.keep x _ h6 (no x) h8
      have Fx : F' x = none := by
        apply Classical.byContradiction
        intro z
        rcases xs.new x z with z | z | z
        · exact z h7
        · rw [h6] at z; cases z
        · exact no x z
      refine ⟨dx, hx, h9 v F' (upd H' x (.ins (K.co cn) dx [(fl, v)])) ⟨xs.le, fun a o e => ?_, fun a o e nf ne => ?_, fun a n => ?_, ?_, xs.gf⟩ upd_same Fx rv⟩
      · rw [upd_ne (fun z => by rw [z, Fx] at e; cases e)]; exact xs.sub a o e
      · rw [upd_ne ne]; exact xs.keep a o e (no a) nf
      · rcases xs.new a n with z | z | z
        · exact .inl z
        · exact .inr z
        · exact (no a z).elim
      · exact T.dep _ _ _ xs.gs fun a ha => upd_ne (fun z : a = x => h8 (z ▸ ha))
/-! ## a law -/
def spLaw (K : PySem.W.Frag) : Sp := fun vs H Q _ => ∃ (a : Addr) (ns : List Int), vs = [.ref a] ∧ ns.length ≤ 63 ∧ SqL K H a (ns.map V.int) ∧ ∀ H', Q (.bl true) H'
theorem law_ok {P : Program} {w : World} {mg : Str → Option Value} {base : Heap} {K : Env1} {k kM : Nat} {M : Pm} {Γ : Addr → Gam Dr} {x qual : Str} {params : Arguments} {rest : List Stmt} {scope : Scope} {f fM : Addr} {fd fdM : FuncData} {N1 : List Str} {code : Cs} {seed : Int} {p1 p2 p3 p4 p5 p6 : Pos} {k1 : Nat}
    (h : ∀ a0 a1 (hne : a0 ≠ a1), G0 P w mg base K (drT a0 a1 hne) k M (Γ a0))
    (Fn : FunD K.K x qual params (.Assign [.Name "_law_h" p1] (.Call (.Name "_law_mix" p2) [.Name "_law_script" p3, .Constant (.int seed) k1 p4] [] p5) p6 :: rest) scope [] [] f fd) (S : FnScope ("_law_script" :: "_law_h" :: N1) ["_law_script"] scope)
    (hl : locC scope "_law_h" = true) (hm : scope.names.lookup ("_law_mix" : Str) = some .globalImplicit) (FM : FnOk P w K.K mg base (L2.CX P w) kM fM fdM ["_law_script", "_law_seed"] (spMix K.K)) (hk : kM ≤ k) (gM : mg "_law_mix" = some (.ref fM)) (kp : PySem.W.keepIn K.K (.ref fM) = true) (bM : Binds K.K fdM ["_law_script", "_law_seed"] [])
    (hc : chB { M with N := "_law_script" :: "_law_h" :: N1 } scope code rest = true)
    (hrun : ∀ (a a0 : Addr) (g : Dr), ∃ g', ex K (Γ a0) code ⟨some (false, .ref a) :: some (false, .ref a0) :: List.replicate N1.length none, g⟩ = .rt (.bl true) g') :
    FnOk P w K.K mg base (L2.CX P w) (k + 1) f fd ["_law_script"] (spLaw K.K) := by
  refine Fn.ok (CX := L2.CX P w) S (fun vs H Q E h => ?_) (fun cdv A outer s H vs Q E hr h2 => ⟨_, pss_cons (ps_set S.nd (i := 1) rfl (locC_ok hl) (pe_call FM (hr.mono hk) hm gM kp bM .nil (ctx_fn (K := K) S hr).pass (pa_cons (pe_var (i := 0) rfl (vis_par S List.mem_cons_self)) (pa_cons pe_int pa_nil)))) (pss_self _ _), ?_⟩)
  · obtain ⟨a, ns, rfl, _⟩ := h
    rfl
  · obtain ⟨a, ns, rfl, h1, h2, hQ⟩ := h2
    refine ⟨.ref a, rfl, ⟨a, ns, seed, rfl, h2, h1, fun st a1 a0 n1 n0 ne => ?_⟩⟩
    obtain ⟨g', e⟩ := hrun a a0 ⟨st, ns, 0⟩
    have R : Rl K (drT a0 a1 ne) (fun _ => none) (upd (upd H a1 (.lst (ns.map V.int))) a0 (.lst [.int st, .ref a1, .int 0])) ⟨some (false, .ref a) :: some (false, .ref a0) :: List.replicate N1.length none, ⟨st, ns, 0⟩⟩ (some (.ref a) :: some (.ref a0) :: List.replicate N1.length none) := by
      have no : ∀ (i : Nat) (y : Bool × D), (some (false, D.ref a) :: some (false, D.ref a0) :: List.replicate N1.length none)[i]? = some (some y) → (i = 0 ∧ y = (false, D.ref a)) ∨ (i = 1 ∧ y = (false, D.ref a0)) := fun i y h => by
        match i with
        | 0 => cases h; exact .inl ⟨rfl, rfl⟩
        | 1 => cases h; exact .inr ⟨rfl, rfl⟩
        | i + 2 =>
          have h : (List.replicate N1.length (none : Option (Bool × D)))[i]? = some (some y) := h
          rw [List.getElem?_replicate] at h
          split at h <;> cases h
      refine ⟨(fun a o e => by cases e), by simp, fun i d h => ?_, fun i d h => ?_, fun i j d e p h1 => ?_, ⟨upd_same, (upd_ne (Ne.symm ne)).trans upd_same, h1⟩, fun _ _ => rfl⟩
      · rcases no i _ h with ⟨rfl, e⟩ | ⟨rfl, e⟩
        · cases e; exact ⟨_, rfl, .ref a⟩
        · cases e; exact ⟨_, rfl, .ref a0⟩
      · rcases no i _ h with ⟨rfl, e⟩ | ⟨rfl, e⟩ <;> cases e
      · rcases no i _ h1 with ⟨rfl, e⟩ | ⟨rfl, e⟩ <;> cases e
    refine good_b code _ _ _ _ ((h a0 a1 ne).sndF S hr) hc _ _ _ _ _ R ?_
    rw [e]
    intro v F' H' xs rv
    cases rv
    exact hQ H'
end BF
set_option Elab.async false
set_option linter.all false
set_option autoImplicit false
set_option maxRecDepth 100000
set_option maxHeartbeats 4000000
namespace BF
open PySem PySem.Spec PyProof.Rows L2
section
variable {G : Type} {P : Program} {w : World} {mg : Str → Option Value} {base : Heap} {K : Env1} {T : Gt G} {k : Nat} {M : Pm} {Γ : Gam G}
theorem G0.nil {cs : List Str} {ats : List (Str × Str)} {bl : List Str} (hb : ∀ x ∈ bl, mg x = none) (hE : cs = K.cs) (hc : ∀ c ∈ K.cs, ClsOk K c) (hg : ∀ c ∈ K.cs, mg c = some (.ref (K.co c))) (ha : ∀ q ∈ ats, Cls K.K (K.co q.1) ∧ NoAttr K.K (K.co q.1) q.2) : G0 P w mg base K T 0 ⟨[], [], cs, ats, bl⟩ [] where
  gn := rfl
  cst := fun j x d e => by cases e
  fn := fun j x n m e => by cases e
  mks := fun j x c f n m e => by cases e
  bl := hb
  csE := hE
  cs := hc
  csG := hg
  ats := ha
theorem G0.snocC {x : Str} {d : D} {u : Value} {v : V} (h : G0 P w mg base K T k M Γ) (hm : mg x = some u) (hr : RelV v u) (hR : ∀ F, Rep K F v d) : G0 P w mg base K T k { M with gn := M.gn ++ [(x, .cst)] } (Γ ++ [(x, .cst d)]) where
  gn := by rw [List.map_append, ← h.gn]; rfl
  cst := fun j y d e => by
    rcases snoc_get e with e | e
    · exact h.cst j y d e
    · cases e; exact ⟨u, v, hm, hr, hR⟩
  fn := fun j y n' m' e => by
    rcases snoc_get e with e | e
    · exact h.fn j y n' m' e
    · cases e
  mks := fun j y c f' n' m' e => by
    rcases snoc_get e with e | e
    · exact h.mks j y c f' n' m' e
    · cases e
  bl := h.bl
  csE := h.csE
  cs := h.cs
  csG := h.csG
  ats := h.ats
/-- a def that calls itself, to a depth -/
def recM (K : Env1) (Γ : Gam G) (x : Str) (np nN : Nat) (code : Cs) : Nat → Mir G
  | 0 => fun _ _ => .no
  | n + 1 => runF nN (ex K (Γ ++ [(x, .fn np (recM K Γ x np nN code n))]) code)
theorem rec_ok {x qual : Str} {params : Arguments} {body : List Stmt} {scope : Scope} {f : Addr} {fd : FuncData} {N ps : List Str} {code : Cs} (h : G0 P w mg base K T k M Γ) (Fn : FunD K.K x qual params body scope [] [] f fd) (S : FnScope N ps scope) (hm : mg x = some (.ref f)) (kp : PySem.W.keepIn K.K (.ref f) = true) (hb : Binds K.K fd ps [])
    (hc : chB { { M with gn := M.gn ++ [(x, Gk.fn ps.length)] } with N := N } scope code body = true) : ∀ n, FnOk P w K.K mg base (L2.CX P w) (k + 1 + n) f fd ps (spD K T ps.length (recM K Γ x ps.length N.length code n))
  | 0 => def_no k ps.length Fn S
  | n + 1 => def_ok (h.snoc (k' := k + 1 + n) (by omega) (Nat.le_refl _) (rec_ok h Fn S hm kp hb hc n) hm kp hb) Fn S hc
end
/-- nothing leaves a law -/
theorem law0 {P : Program} {w : World} {K : PySem.W.Frag} {mg : Str → Option Value} {base : Heap} {k : Nat} {f : Addr} {fd : FuncData} {ps : List Str} (F : FnOk P w K mg base (L2.CX P w) k f fd ps (spLaw K)) : FnOk P w K mg base CX0 k f fd ps (spLaw K) := by
  refine ⟨F.len, fun A outer s H args us vs Q E hr he hb hv hs => codeAny_mono (F.run A outer s H args us vs Q (fun _ _ _ => False) hr he hb hv hs) fun r s' h => ?_⟩
  cases r with
  | ok v => cases v <;> exact h
  | error e =>
    obtain ⟨_, _, _, _, _, _, _, _, _, _, _, _, z⟩ := h
    exact z
end BF
set_option Elab.async false
set_option linter.all false
set_option autoImplicit false
set_option maxRecDepth 100000
set_option maxHeartbeats 2000000
namespace BF
open PySem PySem.Spec PyProof.Rows L2
/-! ## how the evaluator is run by rewriting -/
section
variable {G : Type} {α β : Type}
@[simp] theorem rb_ok {a : α} {s : Sg G} {f : α → Sg G → Rs G β} : (Rs.ok a s).bind f = f a s := rfl
@[simp] theorem rb_er {x : Er} {g : G} {f : α → Sg G → Rs G β} : (Rs.er x g : Rs G α).bind f = .er x g := rfl
@[simp] theorem rb_no {f : α → Sg G → Rs G β} : (Rs.no : Rs G α).bind f = .no := rfl
theorem rb_congr {r r' : Rs G α} {f : α → Sg G → Rs G β} (h : r = r') : r.bind f = r'.bind f := by rw [h]
end
@[simp] theorem isi_non_int (K : Env1) : isiO K (.bty "int") [.non, .ty "int"] = some (.vl (.bl false)) := rfl
@[simp] theorem isi_non_bool (K : Env1) : isiO K (.bty "bool") [.non, .ty "bool"] = some (.vl (.bl false)) := rfl
@[simp] theorem isi_non_tuple (K : Env1) : isiO K (.bty "tuple") [.non, .ty "tuple"] = some (.vl (.bl false)) := rfl
@[simp] theorem isi_non_list (K : Env1) : isiO K (.bty "list") [.non, .ty "list"] = some (.vl (.bl false)) := rfl
@[simp] theorem isi_non_str (K : Env1) : isiO K (.bty "str") [.non, .ty "str"] = some (.vl (.bl false)) := rfl
@[simp] theorem isiT_non (K : Env1) : isiTO K "tuple" "list" [.non, .tup [.ty "tuple", .ty "list"]] = some (.vl (.bl false)) := rfl
@[simp] theorem isi_bl_int (K : Env1) (b : Bool) : isiO K (.bty "int") [(.bl b), .ty "int"] = some (.vl (.bl true)) := rfl
@[simp] theorem isi_bl_bool (K : Env1) (b : Bool) : isiO K (.bty "bool") [(.bl b), .ty "bool"] = some (.vl (.bl true)) := rfl
@[simp] theorem isi_bl_tuple (K : Env1) (b : Bool) : isiO K (.bty "tuple") [(.bl b), .ty "tuple"] = some (.vl (.bl false)) := rfl
@[simp] theorem isi_bl_list (K : Env1) (b : Bool) : isiO K (.bty "list") [(.bl b), .ty "list"] = some (.vl (.bl false)) := rfl
@[simp] theorem isi_bl_str (K : Env1) (b : Bool) : isiO K (.bty "str") [(.bl b), .ty "str"] = some (.vl (.bl false)) := rfl
@[simp] theorem isiT_bl (K : Env1) (b : Bool) : isiTO K "tuple" "list" [(.bl b), .tup [.ty "tuple", .ty "list"]] = some (.vl (.bl false)) := rfl
@[simp] theorem isi_int_int (K : Env1) (i : Int) : isiO K (.bty "int") [(.int i), .ty "int"] = some (.vl (.bl true)) := rfl
@[simp] theorem isi_int_bool (K : Env1) (i : Int) : isiO K (.bty "bool") [(.int i), .ty "bool"] = some (.vl (.bl false)) := rfl
@[simp] theorem isi_int_tuple (K : Env1) (i : Int) : isiO K (.bty "tuple") [(.int i), .ty "tuple"] = some (.vl (.bl false)) := rfl
@[simp] theorem isi_int_list (K : Env1) (i : Int) : isiO K (.bty "list") [(.int i), .ty "list"] = some (.vl (.bl false)) := rfl
@[simp] theorem isi_int_str (K : Env1) (i : Int) : isiO K (.bty "str") [(.int i), .ty "str"] = some (.vl (.bl false)) := rfl
@[simp] theorem isiT_int (K : Env1) (i : Int) : isiTO K "tuple" "list" [(.int i), .tup [.ty "tuple", .ty "list"]] = some (.vl (.bl false)) := rfl
@[simp] theorem isi_str_int (K : Env1) (z : Str) : isiO K (.bty "int") [(.str z), .ty "int"] = some (.vl (.bl false)) := rfl
@[simp] theorem isi_str_bool (K : Env1) (z : Str) : isiO K (.bty "bool") [(.str z), .ty "bool"] = some (.vl (.bl false)) := rfl
@[simp] theorem isi_str_tuple (K : Env1) (z : Str) : isiO K (.bty "tuple") [(.str z), .ty "tuple"] = some (.vl (.bl false)) := rfl
@[simp] theorem isi_str_list (K : Env1) (z : Str) : isiO K (.bty "list") [(.str z), .ty "list"] = some (.vl (.bl false)) := rfl
@[simp] theorem isi_str_str (K : Env1) (z : Str) : isiO K (.bty "str") [(.str z), .ty "str"] = some (.vl (.bl true)) := rfl
@[simp] theorem isiT_str (K : Env1) (z : Str) : isiTO K "tuple" "list" [(.str z), .tup [.ty "tuple", .ty "list"]] = some (.vl (.bl false)) := rfl
@[simp] theorem isi_lst_int (K : Env1) (xs : List D) : isiO K (.bty "int") [(.lst xs), .ty "int"] = some (.vl (.bl false)) := rfl
@[simp] theorem isi_lst_bool (K : Env1) (xs : List D) : isiO K (.bty "bool") [(.lst xs), .ty "bool"] = some (.vl (.bl false)) := rfl
@[simp] theorem isi_lst_tuple (K : Env1) (xs : List D) : isiO K (.bty "tuple") [(.lst xs), .ty "tuple"] = some (.vl (.bl false)) := rfl
@[simp] theorem isi_lst_list (K : Env1) (xs : List D) : isiO K (.bty "list") [(.lst xs), .ty "list"] = some (.vl (.bl true)) := rfl
@[simp] theorem isi_lst_str (K : Env1) (xs : List D) : isiO K (.bty "str") [(.lst xs), .ty "str"] = some (.vl (.bl false)) := rfl
@[simp] theorem isiT_lst (K : Env1) (xs : List D) : isiTO K "tuple" "list" [(.lst xs), .tup [.ty "tuple", .ty "list"]] = some (.vl (.bl true)) := rfl
@[simp] theorem isi_tup_int (K : Env1) (xs : List D) : isiO K (.bty "int") [(.tup xs), .ty "int"] = some (.vl (.bl false)) := rfl
@[simp] theorem isi_tup_bool (K : Env1) (xs : List D) : isiO K (.bty "bool") [(.tup xs), .ty "bool"] = some (.vl (.bl false)) := rfl
@[simp] theorem isi_tup_tuple (K : Env1) (xs : List D) : isiO K (.bty "tuple") [(.tup xs), .ty "tuple"] = some (.vl (.bl true)) := rfl
@[simp] theorem isi_tup_list (K : Env1) (xs : List D) : isiO K (.bty "list") [(.tup xs), .ty "list"] = some (.vl (.bl false)) := rfl
@[simp] theorem isi_tup_str (K : Env1) (xs : List D) : isiO K (.bty "str") [(.tup xs), .ty "str"] = some (.vl (.bl false)) := rfl
@[simp] theorem isiT_tup (K : Env1) (xs : List D) : isiTO K "tuple" "list" [(.tup xs), .tup [.ty "tuple", .ty "list"]] = some (.vl (.bl true)) := rfl
@[simp] theorem clD_bty (K : Env1) (n : String) : clD K (.bty n) = .ty n := rfl
@[simp] theorem sq_runF_1 : type_of% @runF.eq_1 := @runF.eq_1
@[simp] theorem sq_ex_1 : type_of% @ex.eq_1 := @ex.eq_1
@[simp] theorem sq_ex_2 : type_of% @ex.eq_2 := @ex.eq_2
@[simp] theorem sq_ex_3 : type_of% @ex.eq_3 := @ex.eq_3
@[simp] theorem sq_ex_4 : type_of% @ex.eq_4 := @ex.eq_4
@[simp] theorem sq_ex_5 : type_of% @ex.eq_5 := @ex.eq_5
@[simp] theorem sq_ex_6 : type_of% @ex.eq_6 := @ex.eq_6
@[simp] theorem sq_ex_7 : type_of% @ex.eq_7 := @ex.eq_7
@[simp] theorem sq_ex_8 : type_of% @ex.eq_8 := @ex.eq_8
@[simp] theorem sq_ex_9 : type_of% @ex.eq_9 := @ex.eq_9
@[simp] theorem sq_ex_10 : type_of% @ex.eq_10 := @ex.eq_10
@[simp] theorem sq_ex_11 : type_of% @ex.eq_11 := @ex.eq_11
@[simp] theorem sq_ex_12 : type_of% @ex.eq_12 := @ex.eq_12
@[simp] theorem sq_ex_13 : type_of% @ex.eq_13 := @ex.eq_13
@[simp] theorem sq_ex_14 : type_of% @ex.eq_14 := @ex.eq_14
@[simp] theorem sq_ex_15 : type_of% @ex.eq_15 := @ex.eq_15
@[simp] theorem sq_ex_16 : type_of% @ex.eq_16 := @ex.eq_16
@[simp] theorem sq_ex_17 : type_of% @ex.eq_17 := @ex.eq_17
@[simp] theorem sq_ex_18 : type_of% @ex.eq_18 := @ex.eq_18
@[simp] theorem sq_exSeq_1 : type_of% @exSeq.eq_1 := @exSeq.eq_1
@[simp] theorem sq_exRet_1 : type_of% @exRet.eq_1 := @exRet.eq_1
@[simp] theorem sq_exE_1 : type_of% @exE.eq_1 := @exE.eq_1
@[simp] theorem sq_exIf_1 : type_of% @exIf.eq_1 := @exIf.eq_1
@[simp] theorem sq_exAsg_1 : type_of% @exAsg.eq_1 := @exAsg.eq_1
@[simp] theorem sq_exDrop_1 : type_of% @exDrop.eq_1 := @exDrop.eq_1
@[simp] theorem sq_exFor_1 : type_of% @exFor.eq_1 := @exFor.eq_1
@[simp] theorem sq_exPar_1 : type_of% @exPar.eq_1 := @exPar.eq_1
@[simp] theorem sq_exL_1 : type_of% @exL.eq_1 := @exL.eq_1
@[simp] theorem sq_exUnp_1 : type_of% @exUnp.eq_1 := @exUnp.eq_1
@[simp] theorem sq_exAppend_1 : type_of% @exAppend.eq_1 := @exAppend.eq_1
@[simp] theorem sq_exApp_1 : type_of% @exApp.eq_1 := @exApp.eq_1
@[simp] theorem sq_exStore_1 : type_of% @exStore.eq_1 := @exStore.eq_1
@[simp] theorem sq_exAug_1 : type_of% @exAug.eq_1 := @exAug.eq_1
@[simp] theorem sq_ev_1 : type_of% @ev.eq_1 := @ev.eq_1
@[simp] theorem sq_ev_2 : type_of% @ev.eq_2 := @ev.eq_2
@[simp] theorem sq_ev_3 : type_of% @ev.eq_3 := @ev.eq_3
@[simp] theorem sq_ev_4 : type_of% @ev.eq_4 := @ev.eq_4
@[simp] theorem sq_ev_5 : type_of% @ev.eq_5 := @ev.eq_5
@[simp] theorem sq_ev_6 : type_of% @ev.eq_6 := @ev.eq_6
@[simp] theorem sq_ev_7 : type_of% @ev.eq_7 := @ev.eq_7
@[simp] theorem sq_ev_8 : type_of% @ev.eq_8 := @ev.eq_8
@[simp] theorem sq_ev_9 : type_of% @ev.eq_9 := @ev.eq_9
@[simp] theorem sq_ev_10 : type_of% @ev.eq_10 := @ev.eq_10
@[simp] theorem sq_ev_11 : type_of% @ev.eq_11 := @ev.eq_11
@[simp] theorem sq_ev_12 : type_of% @ev.eq_12 := @ev.eq_12
@[simp] theorem sq_ev_13 : type_of% @ev.eq_13 := @ev.eq_13
@[simp] theorem sq_ev_14 : type_of% @ev.eq_14 := @ev.eq_14
@[simp] theorem sq_ev_15 : type_of% @ev.eq_15 := @ev.eq_15
@[simp] theorem sq_ev_16 : type_of% @ev.eq_16 := @ev.eq_16
@[simp] theorem sq_ev_17 : type_of% @ev.eq_17 := @ev.eq_17
@[simp] theorem sq_ev_18 : type_of% @ev.eq_18 := @ev.eq_18
@[simp] theorem sq_ev_19 : type_of% @ev.eq_19 := @ev.eq_19
@[simp] theorem sq_ev_20 : type_of% @ev.eq_20 := @ev.eq_20
@[simp] theorem sq_ev_21 : type_of% @ev.eq_21 := @ev.eq_21
@[simp] theorem sq_ev_22 : type_of% @ev.eq_22 := @ev.eq_22
@[simp] theorem sq_ev_23 : type_of% @ev.eq_23 := @ev.eq_23
@[simp] theorem sq_evA_1 : type_of% @evA.eq_1 := @evA.eq_1
@[simp] theorem sq_evA_2 : type_of% @evA.eq_2 := @evA.eq_2
@[simp] theorem sq_evB_1 : type_of% @evB.eq_1 := @evB.eq_1
@[simp] theorem sq_evB_2 : type_of% @evB.eq_2 := @evB.eq_2
@[simp] theorem sq_evB_3 : type_of% @evB.eq_3 := @evB.eq_3
@[simp] theorem sq_evI_1 : type_of% @evI.eq_1 := @evI.eq_1
@[simp] theorem sq_evI_2 : type_of% @evI.eq_2 := @evI.eq_2
@[simp] theorem sq_evI_3 : type_of% @evI.eq_3 := @evI.eq_3
@[simp] theorem sq_evI_4 : type_of% @evI.eq_4 := @evI.eq_4
@[simp] theorem sq_evOp_1 : type_of% @evOp.eq_1 := @evOp.eq_1
@[simp] theorem sq_evCons_1 : type_of% @evCons.eq_1 := @evCons.eq_1
@[simp] theorem sq_evNil_1 : type_of% @evNil.eq_1 := @evNil.eq_1
@[simp] theorem sq_evVar_1 : type_of% @evVar.eq_1 := @evVar.eq_1
@[simp] theorem sq_evC_1 : type_of% @evC.eq_1 := @evC.eq_1
@[simp] theorem sq_evIf_1 : type_of% @evIf.eq_1 := @evIf.eq_1
@[simp] theorem sq_evAnd_1 : type_of% @evAnd.eq_1 := @evAnd.eq_1
@[simp] theorem sq_evOr_1 : type_of% @evOr.eq_1 := @evOr.eq_1
@[simp] theorem sq_evNot_1 : type_of% @evNot.eq_1 := @evNot.eq_1
@[simp] theorem sq_evTup_1 : type_of% @evTup.eq_1 := @evTup.eq_1
@[simp] theorem sq_evLst_1 : type_of% @evLst.eq_1 := @evLst.eq_1
@[simp] theorem sq_evCall_1 : type_of% @evCall.eq_1 := @evCall.eq_1
@[simp] theorem sq_evChain_1 : type_of% @evChain.eq_1 := @evChain.eq_1
@[simp] theorem sq_evSeq_1 : type_of% @evSeq.eq_1 := @evSeq.eq_1
@[simp] theorem sq_evRg1_1 : type_of% @evRg1.eq_1 := @evRg1.eq_1
@[simp] theorem sq_evRg2_1 : type_of% @evRg2.eq_1 := @evRg2.eq_1
@[simp] theorem sq_evEnum_1 : type_of% @evEnum.eq_1 := @evEnum.eq_1
@[simp] theorem sq_pks_1 : type_of% @pks.eq_1 := @pks.eq_1
@[simp] theorem sq_pks_2 : type_of% @pks.eq_2 := @pks.eq_2
@[simp] theorem sq_pk_1 : type_of% @pk.eq_1 := @pk.eq_1
@[simp] theorem sq_pk_2 : type_of% @pk.eq_2 := @pk.eq_2
@[simp] theorem sq_pk_3 : type_of% @pk.eq_3 := @pk.eq_3
@[simp] theorem sq_look_1 : type_of% @look.eq_1 := @look.eq_1
@[simp] theorem sq_use_1 : type_of% @use.eq_1 := @use.eq_1
@[simp] theorem sq_use_2 : type_of% @use.eq_2 := @use.eq_2
@[simp] theorem sq_use_3 : type_of% @use.eq_3 := @use.eq_3
@[simp] theorem sq_uses_1 : type_of% @uses.eq_1 := @uses.eq_1
@[simp] theorem sq_uses_2 : type_of% @uses.eq_2 := @uses.eq_2
@[simp] theorem sq_frzS_1 : type_of% @frzS.eq_1 := @frzS.eq_1
@[simp] theorem sq_tst_1 : type_of% @tst.eq_1 := @tst.eq_1
@[simp] theorem sq_one_1 : type_of% @one.eq_1 := @one.eq_1
@[simp] theorem sq_one_2 : type_of% @one.eq_2 := @one.eq_2
@[simp] theorem sq_two_1 : type_of% @two.eq_1 := @two.eq_1
@[simp] theorem sq_two_2 : type_of% @two.eq_2 := @two.eq_2
@[simp] theorem sq_sc_1 : type_of% @sc.eq_1 := @sc.eq_1
@[simp] theorem sq_boF_1 : type_of% @boF.eq_1 := @boF.eq_1
@[simp] theorem sq_boF_2 : type_of% @boF.eq_2 := @boF.eq_2
@[simp] theorem sq_boF_3 : type_of% @boF.eq_3 := @boF.eq_3
@[simp] theorem sq_boF_4 : type_of% @boF.eq_4 := @boF.eq_4
@[simp] theorem sq_boF_5 : type_of% @boF.eq_5 := @boF.eq_5
@[simp] theorem sq_boF_6 : type_of% @boF.eq_6 := @boF.eq_6
@[simp] theorem sq_coF_1 : type_of% @coF.eq_1 := @coF.eq_1
@[simp] theorem sq_coF_2 : type_of% @coF.eq_2 := @coF.eq_2
@[simp] theorem sq_coF_3 : type_of% @coF.eq_3 := @coF.eq_3
@[simp] theorem sq_coF_4 : type_of% @coF.eq_4 := @coF.eq_4
@[simp] theorem sq_coF_5 : type_of% @coF.eq_5 := @coF.eq_5
@[simp] theorem sq_coF_6 : type_of% @coF.eq_6 := @coF.eq_6
@[simp] theorem sq_coF_7 : type_of% @coF.eq_7 := @coF.eq_7
@[simp] theorem sq_coF_8 : type_of% @coF.eq_8 := @coF.eq_8
@[simp] theorem sq_coF_9 : type_of% @coF.eq_9 := @coF.eq_9
@[simp] theorem sq_coF_10 : type_of% @coF.eq_10 := @coF.eq_10
@[simp] theorem sq_blF_1 : type_of% @blF.eq_1 := @blF.eq_1
@[simp] theorem sq_blF_2 : type_of% @blF.eq_2 := @blF.eq_2
@[simp] theorem sq_blF_3 : type_of% @blF.eq_3 := @blF.eq_3
@[simp] theorem sq_blF_4 : type_of% @blF.eq_4 := @blF.eq_4
@[simp] theorem sq_blF_5 : type_of% @blF.eq_5 := @blF.eq_5
@[simp] theorem sq_blF_6 : type_of% @blF.eq_6 := @blF.eq_6
@[simp] theorem sq_blF_7 : type_of% @blF.eq_7 := @blF.eq_7
@[simp] theorem sq_blF_8 : type_of% @blF.eq_8 := @blF.eq_8
@[simp] theorem sq_blF_9 : type_of% @blF.eq_9 := @blF.eq_9
@[simp] theorem sq_blF_10 : type_of% @blF.eq_10 := @blF.eq_10
@[simp] theorem sq_blF_11 : type_of% @blF.eq_11 := @blF.eq_11
@[simp] theorem sq_blF_12 : type_of% @blF.eq_12 := @blF.eq_12
@[simp] theorem sq_addO_1 : type_of% @addO.eq_1 := @addO.eq_1
@[simp] theorem sq_addO_2 : type_of% @addO.eq_2 := @addO.eq_2
@[simp] theorem sq_addO_3 : type_of% @addO.eq_3 := @addO.eq_3
@[simp] theorem sq_addO_4 : type_of% @addO.eq_4 := @addO.eq_4
@[simp] theorem sq_addO_5 : type_of% @addO.eq_5 := @addO.eq_5
@[simp] theorem sq_subO_1 : type_of% @subO.eq_1 := @subO.eq_1
@[simp] theorem sq_subO_2 : type_of% @subO.eq_2 := @subO.eq_2
@[simp] theorem sq_modO_1 : type_of% @modO.eq_1 := @modO.eq_1
@[simp] theorem sq_modO_2 : type_of% @modO.eq_2 := @modO.eq_2
@[simp] theorem sq_fdivO_1 : type_of% @fdivO.eq_1 := @fdivO.eq_1
@[simp] theorem sq_fdivO_2 : type_of% @fdivO.eq_2 := @fdivO.eq_2
@[simp] theorem sq_powO_1 : type_of% @powO.eq_1 := @powO.eq_1
@[simp] theorem sq_powO_2 : type_of% @powO.eq_2 := @powO.eq_2
@[simp] theorem sq_ltO_1 : type_of% @ltO.eq_1 := @ltO.eq_1
@[simp] theorem sq_ltO_2 : type_of% @ltO.eq_2 := @ltO.eq_2
@[simp] theorem sq_leO_1 : type_of% @leO.eq_1 := @leO.eq_1
@[simp] theorem sq_leO_2 : type_of% @leO.eq_2 := @leO.eq_2
@[simp] theorem sq_gtO_1 : type_of% @gtO.eq_1 := @gtO.eq_1
@[simp] theorem sq_gtO_2 : type_of% @gtO.eq_2 := @gtO.eq_2
@[simp] theorem sq_geO_1 : type_of% @geO.eq_1 := @geO.eq_1
@[simp] theorem sq_geO_2 : type_of% @geO.eq_2 := @geO.eq_2
@[simp] theorem sq_isO_1 : type_of% @isO.eq_1 := @isO.eq_1
@[simp] theorem sq_isO_2 : type_of% @isO.eq_2 := @isO.eq_2
@[simp] theorem sq_isnO_1 : type_of% @isnO.eq_1 := @isnO.eq_1
@[simp] theorem sq_isnO_2 : type_of% @isnO.eq_2 := @isnO.eq_2
@[simp] theorem sq_negO_1 : type_of% @negO.eq_1 := @negO.eq_1
@[simp] theorem sq_negO_2 : type_of% @negO.eq_2 := @negO.eq_2
@[simp] theorem sq_ixO_1 : type_of% @ixO.eq_1 := @ixO.eq_1
@[simp] theorem sq_ixO_2 : type_of% @ixO.eq_2 := @ixO.eq_2
@[simp] theorem sq_ixO_3 : type_of% @ixO.eq_3 := @ixO.eq_3
@[simp] theorem sq_lenO_1 : type_of% @lenO.eq_1 := @lenO.eq_1
@[simp] theorem sq_lenO_2 : type_of% @lenO.eq_2 := @lenO.eq_2
@[simp] theorem sq_lenO_3 : type_of% @lenO.eq_3 := @lenO.eq_3
@[simp] theorem sq_lenO_4 : type_of% @lenO.eq_4 := @lenO.eq_4
@[simp] theorem sq_intO_1 : type_of% @intO.eq_1 := @intO.eq_1
@[simp] theorem sq_intO_2 : type_of% @intO.eq_2 := @intO.eq_2
@[simp] theorem sq_intO_3 : type_of% @intO.eq_3 := @intO.eq_3
@[simp] theorem sq_isNon_1 : type_of% @isNon.eq_1 := @isNon.eq_1
@[simp] theorem sq_isNon_2 : type_of% @isNon.eq_2 := @isNon.eq_2
@[simp] theorem sq_asgO_1 : type_of% @asgO.eq_1 := @asgO.eq_1
@[simp] theorem sq_asgO_2 : type_of% @asgO.eq_2 := @asgO.eq_2
@[simp] theorem sq_asgO_3 : type_of% @asgO.eq_3 := @asgO.eq_3
@[simp] theorem sq_asgT_1 : type_of% @asgT.eq_1 := @asgT.eq_1
@[simp] theorem sq_asgT_2 : type_of% @asgT.eq_2 := @asgT.eq_2
@[simp] theorem sq_asgT_3 : type_of% @asgT.eq_3 := @asgT.eq_3
@[simp] theorem sq_asgN_1 : type_of% @asgN.eq_1 := @asgN.eq_1
@[simp] theorem sq_asgs_1 : type_of% @asgs.eq_1 := @asgs.eq_1
@[simp] theorem sq_asgs_2 : type_of% @asgs.eq_2 := @asgs.eq_2
@[simp] theorem sq_asgs_3 : type_of% @asgs.eq_3 := @asgs.eq_3
@[simp] theorem sq_asgsO_1 : type_of% @asgsO.eq_1 := @asgsO.eq_1
@[simp] theorem sq_asgsO_2 : type_of% @asgsO.eq_2 := @asgsO.eq_2
@[simp] theorem sq_asgsO_3 : type_of% @asgsO.eq_3 := @asgsO.eq_3
@[simp] theorem sq_nrms_1 : type_of% @nrms.eq_1 := @nrms.eq_1
@[simp] theorem sq_nrms_2 : type_of% @nrms.eq_2 := @nrms.eq_2
@[simp] theorem sq_nrms_3 : type_of% @nrms.eq_3 := @nrms.eq_3
@[simp] theorem sq_nrms_4 : type_of% @nrms.eq_4 := @nrms.eq_4
@[simp] theorem sq_setS_1 : type_of% @setS.eq_1 := @setS.eq_1
@[simp] theorem sq_isOwnL_1 : type_of% @isOwnL.eq_1 := @isOwnL.eq_1
@[simp] theorem sq_tupleO_1 : type_of% @tupleO.eq_1 := @tupleO.eq_1
@[simp] theorem sq_tupleO_2 : type_of% @tupleO.eq_2 := @tupleO.eq_2
@[simp] theorem sq_tupleO_3 : type_of% @tupleO.eq_3 := @tupleO.eq_3
@[simp] theorem sq_listO_1 : type_of% @listO.eq_1 := @listO.eq_1
@[simp] theorem sq_listO_2 : type_of% @listO.eq_2 := @listO.eq_2
@[simp] theorem sq_listO_3 : type_of% @listO.eq_3 := @listO.eq_3
@[simp] theorem sq_max2O_1 : type_of% @max2O.eq_1 := @max2O.eq_1
@[simp] theorem sq_max2O_2 : type_of% @max2O.eq_2 := @max2O.eq_2
@[simp] theorem sq_min2O_1 : type_of% @min2O.eq_1 := @min2O.eq_1
@[simp] theorem sq_min2O_2 : type_of% @min2O.eq_2 := @min2O.eq_2
@[simp] theorem sq_attrO_1 : type_of% @attrO.eq_1 := @attrO.eq_1
@[simp] theorem sq_attrO_2 : type_of% @attrO.eq_2 := @attrO.eq_2
@[simp] theorem sq_slcO_1 : type_of% @slcO.eq_1 := @slcO.eq_1
@[simp] theorem sq_slcO_2 : type_of% @slcO.eq_2 := @slcO.eq_2
@[simp] theorem sq_slcO_3 : type_of% @slcO.eq_3 := @slcO.eq_3
@[simp] theorem sq_slLo_1 : type_of% @slLo.eq_1 := @slLo.eq_1
@[simp] theorem sq_slLo_2 : type_of% @slLo.eq_2 := @slLo.eq_2
@[simp] theorem sq_slHi_1 : type_of% @slHi.eq_1 := @slHi.eq_1
@[simp] theorem sq_slHi_2 : type_of% @slHi.eq_2 := @slHi.eq_2
@[simp] theorem sq_mkM_1 : type_of% @mkM.eq_1 := @mkM.eq_1
@[simp] theorem sq_evLc_1 : type_of% @evLc.eq_1 := @evLc.eq_1
@[simp] theorem sq_wipeS_1 : type_of% @wipeS.eq_1 := @wipeS.eq_1
@[simp] theorem sq_wipeO_1 : type_of% @wipeO.eq_1 := @wipeO.eq_1
@[simp] theorem sq_wipeO_2 : type_of% @wipeO.eq_2 := @wipeO.eq_2
@[simp] theorem sq_restS_1 : type_of% @restS.eq_1 := @restS.eq_1
@[simp] theorem sq_restL_1 : type_of% @restL.eq_1 := @restL.eq_1
@[simp] theorem sq_restL_2 : type_of% @restL.eq_2 := @restL.eq_2
theorem forL_nil {G : Type} {t : Tg} {body : Sg G → Ro G} {s : Sg G} : forL t body [] s = .nx s := rfl
end BF
set_option Elab.async false
set_option linter.all false
set_option autoImplicit false
set_option maxRecDepth 100000
set_option maxHeartbeats 2000000
namespace BF
open PySem PySem.Spec PyProof.Rows L2
/-! ## loops and comprehensions by an invariant -/
inductive All2 {α β : Type} (R : α → β → Prop) : List α → List β → Prop
  | nil : All2 R [] []
  | cons {a : α} {b : β} {as : List α} {bs : List β} : R a b → All2 R as bs → All2 R (a :: as) (b :: bs)
theorem All2.length {α β : Type} {R : α → β → Prop} {as : List α} {bs : List β} (h : All2 R as bs) : bs.length = as.length := by
  induction h with
  | nil => rfl
  | cons _ _ ih => simp [ih]
theorem All2.right {α β : Type} {R : α → β → Prop} {P : β → Prop} (hp : ∀ a b, R a b → P b) {as : List α} {bs : List β} (h : All2 R as bs) : ∀ b ∈ bs, P b := by
  induction h with
  | nil => intro b hb; cases hb
  | cons r _ ih =>
    intro b hb
    rcases List.mem_cons.mp hb with rfl | hb
    · exact hp _ _ r
    · exact ih b hb
theorem All2.map {α β γ : Type} {f : α → γ → β} {as : List α} {bs : List β} (h : All2 (fun a b => ∃ c, b = f a c) as bs) : True := trivial
section
variable {G : Type} {t : Tg} {body : Sg G → Ro G} {ft fe : Sg G → Rs G Ov} {own : List Nat}
/-- a loop that runs to its end: I tells of what is left and of the state -/
theorem forL_ind (I : List D → Sg G → Prop) (h : ∀ d ds s, I (d :: ds) s → ∃ s1 s2, asgT t d s = some s1 ∧ body s1 = .nx s2 ∧ I ds s2) : ∀ (ds : List D) (s : Sg G), I ds s → ∃ s', forL t body ds s = .nx s' ∧ I [] s'
  | [], s, i => ⟨s, rfl, i⟩
  | d :: ds, s, i => by
    obtain ⟨s1, s2, h1, h2, h3⟩ := h d ds s i
    obtain ⟨s', h4, h5⟩ := forL_ind I h ds s2 h3
    refine ⟨s', ?_, h5⟩
    unfold forL
    rw [h1]
    show (match body s1 with
      | .nx s2 => forL t body ds s2
      | .ct s2 => forL t body ds s2
      | .bk s2 => .nx s2
      | .rt d g => .rt d g
      | .er x g => .er x g
      | .no => .no) = _
    rw [h2]
    exact h4
/-- a comprehension with no condition -/
theorem lcL_all (I : Sg G → Prop) (R : D → D → Prop) : ∀ (ds : List D) (s : Sg G), (∀ d ∈ ds, ∀ s, I s → ∃ s1 y s3 r s4, asgT t d s = some s1 ∧ fe s1 = .ok y s3 ∧ use s3 y = .ok r s4 ∧ I (wipeS s4 own) ∧ R d r) → I s → ∃ rs s', lcL t (evC (.bl true)) fe own ds s = .ok rs s' ∧ I s' ∧ All2 R ds rs
  | [], s, _, i => ⟨[], s, rfl, i, .nil⟩
  | d :: ds, s, h, i => by
    obtain ⟨s1, y, s3, r, s4, h1, h2, h3, h4, h5⟩ := h d List.mem_cons_self s i
    obtain ⟨rs, s', h6, h7, h8⟩ := lcL_all I R ds (wipeS s4 own) (fun d hd => h d (List.mem_cons_of_mem _ hd)) h4
    refine ⟨r :: rs, s', ?_, h7, .cons h5 h8⟩
    unfold lcL
    rw [h1]
    simp only [evC, tst, pk]
    rw [h2]
    simp only []
    rw [h3]
    simp only []
    rw [h6]
    rfl
/-- a comprehension that leaves the state -/
theorem lcL_map (f : D → D) {s0 : Sg G} (ds : List D) (h : ∀ d ∈ ds, ∃ s1 y s3 s4, asgT t d s0 = some s1 ∧ fe s1 = .ok y s3 ∧ use s3 y = .ok (f d) s4 ∧ wipeS s4 own = s0) : lcL t (evC (.bl true)) fe own ds s0 = .ok (ds.map f) s0 := by
  obtain ⟨rs, s', h1, h2, h3⟩ := lcL_all (t := t) (fe := fe) (own := own) (fun s => s = s0) (fun d r => r = f d) ds s0 (fun d hd s e => by
    subst e
    obtain ⟨s1, y, s3, s4, k1, k2, k3, k4⟩ := h d hd
    exact ⟨s1, y, s3, f d, s4, k1, k2, k3, k4, rfl⟩) rfl
  subst h2
  rw [h1]
  congr 1
  clear h1 h
  induction h3 with
  | nil => rfl
  | cons r _ ih => rw [r, ih]; rfl
/-- a comprehension with a condition -/
theorem lcL_filter (p : D → Bool) (f : D → D) {s0 : Sg G} : ∀ (ds : List D), (∀ d ∈ ds, ∃ s1 x s2, asgT t d s0 = some s1 ∧ ft s1 = .ok x s2 ∧ tst s2 x = some (p d) ∧ (p d = false → wipeS s2 own = s0) ∧ (p d = true → ∃ y s3 s4, fe s2 = .ok y s3 ∧ use s3 y = .ok (f d) s4 ∧ wipeS s4 own = s0)) → lcL t ft fe own ds s0 = .ok ((ds.filter p).map f) s0
  | [], _ => rfl
  | d :: ds, h => by
    obtain ⟨s1, x, s2, h1, h2, h3, h4, h5⟩ := h d List.mem_cons_self
    have ih := lcL_filter p f ds (fun d hd => h d (List.mem_cons_of_mem _ hd))
    unfold lcL
    rw [h1]
    simp only []
    rw [h2]
    simp only []
    rw [h3]
    cases q : p d with
    | false =>
      simp only []
      rw [h4 q, ih, List.filter_cons_of_neg (by simp [q])]
    | true =>
      obtain ⟨y, s3, s4, k1, k2, k3⟩ := h5 q
      simp only []
      rw [k1]
      simp only []
      rw [k2]
      simp only []
      rw [k3, ih, List.filter_cons_of_pos (by simp [q])]
      rfl
theorem lcL_none (ds : List D) {s0 : Sg G} (h : ∀ d ∈ ds, ∃ s1 x s2, asgT t d s0 = some s1 ∧ ft s1 = .ok x s2 ∧ tst s2 x = some false ∧ wipeS s2 own = s0) : lcL t ft fe own ds s0 = .ok [] s0 := by
  have := lcL_filter (t := t) (ft := ft) (fe := fe) (own := own) (fun _ => false) id ds (s0 := s0) (fun d hd => by
    obtain ⟨s1, x, s2, h1, h2, h3, h4⟩ := h d hd
    exact ⟨s1, x, s2, h1, h2, h3, fun _ => h4, fun z => by cases z⟩)
  rw [this]
  simp
end
/-! ## the draws -/
theorem next_eq {a0 : Addr} {cap : Int} {g : Dr} (h : 0 < cap) (h2 : cap < 1073741824) : ∃ (v : Nat) (g' : Dr), mNext a0 [.ref a0, .int cap] g = .ok (.int v) g' ∧ (v : Int) < cap := by
  refine ⟨(nxV g cap).toNat, nxG g cap, ?_, ?_⟩
  · show (if a0 = a0 ∧ 0 < cap ∧ cap < 1073741824 then Fr.ok (.int (nxV g cap)) (nxG g cap) else .no) = _
    rw [if_pos ⟨rfl, h, h2⟩, Int.toNat_of_nonneg (nxV_nn h)]
  · rw [Int.toNat_of_nonneg (nxV_nn h)]; exact nxV_lt h
/-! ## machines as data -/
def nat (n : Nat) : D := .int n
def rowD (r : List Nat) : D := .tup (r.map nat)
def stepsD (s : List (List Nat)) : D := .tup (s.map rowD)
def partsD (s : List (List Nat)) (good : List Nat) : D := .tup [stepsD s, rowD good]
def machD (s : List (List Nat)) (good : List Nat) : D := .obj "Machine" "parts" (partsD s good)
/-- what a machine's steps are: L letters -/
structure StOk (s : List (List Nat)) (L : Nat) : Prop where
  n1 : 1 ≤ s.length
  n8 : s.length ≤ 8
  l1 : 1 ≤ L
  l3 : L ≤ 3
  len : ∀ r ∈ s, r.length = L
  lt : ∀ r ∈ s, ∀ x ∈ r, x < s.length
structure GdOk (n : Nat) (good : List Nat) : Prop where
  inc : good.Pairwise (· < ·)
  lt : ∀ x ∈ good, x < n
theorem intsD_nat (n : Nat) : intsD 0 n = (List.range n).map nat := by
  unfold intsD nat
  congr 1
  funext i
  simp
theorem atI_map {α β : Type} {xs : List α} {j : Nat} {f : α → β} (h : j < xs.length) : L2.atI (xs.map f) (j : Int) = some (f xs[j]) := by
  refine atI_nat ?_
  rw [List.getElem?_map, List.getElem?_eq_getElem h]
  rfl
end BF
set_option Elab.async false
set_option linter.all false
set_option maxRecDepth 100000
set_option maxHeartbeats 0
namespace BF
open PySem PySem.Spec PyProof.Rows L2
def N_is_integer : List PySem.Str := (["thing", "low", "high"] : List PySem.Str)
def c_is_integer : Cs :=
  (.cons (.ret (.bop true (.cons (.isi (.bty "int") (.var 0)) (.cons (.not (.isi (.bty "bool") (.var 0))) (.cons (.chain .le .le (.var 1) (.var 0) (.var 2)) .nil)))))
  .nil)
def N_check_steps : List PySem.Str := (["thing", "index", "row", "stand"] : List PySem.Str)
def c_check_steps_e1 (u_is_integer : Nat) : Ce :=
  (.call u_is_integer (.cons (.var 3) (.cons (.cst (.int 0)) (.cons (.bin .sub (.blt .len (.cons (.var 0) .nil)) (.cst (.int 1))) .nil))))
def c_check_steps_b1 (u_MOST_LETTERS u_is_integer : Nat) : Cs :=
  (.cons (.ife (.bop false (.cons (.not (.isi (.bty "tuple") (.var 2))) (.cons (.not (.chain .le .le (.cst (.int 1)) (.blt .len (.cons (.var 2) .nil)) (.glo u_MOST_LETTERS))) (.cons (.cmp .ne (.blt .len (.cons (.var 2) .nil)) (.blt .len (.cons (.ix (.var 0) (.cst (.int 0))) .nil))) .nil)))) (.cons .stuck
  .nil) .nil)
  (.cons (.ife (.not (.blt .all (.cons (.lc0 (c_check_steps_e1 u_is_integer) (.nm 3) (.seq (.var 2)) [3]) .nil))) (.cons .stuck
  .nil) .nil)
  .nil))
def c_check_steps (u_MOST_STANDS u_MOST_LETTERS u_is_integer : Nat) : Cs :=
  (.cons (.ife (.bop false (.cons (.not (.isi (.bty "tuple") (.var 0))) (.cons (.not (.chain .le .le (.cst (.int 1)) (.blt .len (.cons (.var 0) .nil)) (.glo u_MOST_STANDS))) .nil))) (.cons .stuck
  .nil) .nil)
  (.cons (.for_ (.tp [1, 2]) (.enum (.var 0)) (c_check_steps_b1 u_MOST_LETTERS u_is_integer))
  .nil))
def N_check_good : List PySem.Str := (["thing", "stands", "last", "stand"] : List PySem.Str)
def c_check_good_b1 (u_is_integer : Nat) : Cs :=
  (.cons (.ife (.not (.call u_is_integer (.cons (.var 3) (.cons (.bin .add (.var 2) (.cst (.int 1))) (.cons (.bin .sub (.var 1) (.cst (.int 1))) .nil))))) (.cons .stuck
  .nil) .nil)
  (.cons (.asg 2 (.var 3))
  .nil))
def c_check_good (u_is_integer : Nat) : Cs :=
  (.cons (.ife (.not (.isi (.bty "tuple") (.var 0))) (.cons .stuck
  .nil) .nil)
  (.cons (.asg 2 (.neg (.cst (.int 1))))
  (.cons (.for_ (.nm 3) (.seq (.var 0)) (c_check_good_b1 u_is_integer))
  .nil)))
def N_Machine_init : List PySem.Str := (["self", "steps", "good"] : List PySem.Str)
def cp_Machine_init (u_check_steps u_check_good : Nat) : List Ce := [(.call u_check_steps (.cons (.var 1) .nil)), (.call u_check_good (.cons (.var 2) (.cons (.blt .len (.cons (.var 1) .nil)) .nil)))]
def ce_Machine_init : Ce := (.tup (.cons (.var 1) (.cons (.var 2) .nil)))
def N__law_alike : List PySem.Str := (["_law_found", "_law_due", "_law_k"] : List PySem.Str)
def c__law_alike_e1 : Ce :=
  (.var 2)
def c__law_alike_t1 (u__law_alike : Nat) : Ce :=
  (.not (.call u__law_alike (.cons (.ix (.var 0) (.var 2)) (.cons (.ix (.var 1) (.var 2)) .nil))))
def c__law_alike (u__law_alike : Nat) : Cs :=
  (.cons (.ife (.isiT "tuple" "list" (.var 1)) (.cons (.ife (.bop false (.cons (.not (.isiT "tuple" "list" (.var 0))) (.cons (.cmp .ne (.isi (.bty "list") (.var 0)) (.isi (.bty "list") (.var 1))) .nil))) (.cons (.ret (.cst (.bl false)))
  .nil) .nil)
  (.cons (.ife (.cmp .ne (.blt .len (.cons (.var 0) .nil)) (.blt .len (.cons (.var 1) .nil))) (.cons (.ret (.cst (.bl false)))
  .nil) .nil)
  (.cons (.ret (.cmp .eq (.lc1 c__law_alike_e1 (.nm 2) (.rg1 (.blt .len (.cons (.var 1) .nil))) (c__law_alike_t1 u__law_alike) [2]) (.lst .nil)))
  .nil))) .nil)
  (.cons (.ife (.bop false (.cons (.cmp .is (.var 1) (.cst .non)) (.cons (.isi (.bty "str") (.var 1)) .nil))) (.cons (.ret (.bop true (.cons (.cmp .eq (.var 0) (.var 1)) (.cons (.cmp .eq (.isi (.bty "str") (.var 0)) (.isi (.bty "str") (.var 1))) .nil))))
  .nil) .nil)
  (.cons (.ret (.bop true (.cons (.isi (.bty "int") (.var 0)) (.cons (.cmp .eq (.isi (.bty "bool") (.var 0)) (.isi (.bty "bool") (.var 1))) (.cons (.cmp .eq (.var 0) (.var 1)) .nil)))))
  .nil)))
def N__law_pick : List PySem.Str := (["_law_h", "_law_things"] : List PySem.Str)
def c__law_pick (u__law_next : Nat) : Cs :=
  (.cons (.ret (.ix (.var 1) (.call u__law_next (.cons (.var 0) (.cons (.blt .len (.cons (.var 1) .nil)) .nil)))))
  .nil)
def N_check_row : List PySem.Str := (["machine", "thing", "index", "letter"] : List PySem.Str)
def c_check_row_b1 (u_is_integer : Nat) : Cs :=
  (.cons (.ife (.not (.call u_is_integer (.cons (.var 3) (.cons (.cst (.int 0)) (.cons (.bin .sub (.blt .len (.cons (.ix (.ix (.attr "Machine" "parts" (.var 0)) (.cst (.int 0))) (.cst (.int 0))) .nil)) (.cst (.int 1))) .nil))))) (.cons .stuck
  .nil) .nil)
  .nil)
def c_check_row (u_MOST_LONG u_is_integer : Nat) : Cs :=
  (.cons (.ife (.bop false (.cons (.not (.isi (.bty "tuple") (.var 1))) (.cons (.cmp .gt (.blt .len (.cons (.var 1) .nil)) (.glo u_MOST_LONG)) .nil))) (.cons .stuck
  .nil) .nil)
  (.cons (.for_ (.tp [2, 3]) (.enum (.var 1)) (c_check_row_b1 u_is_integer))
  .nil))
def N_stand_behind : List PySem.Str := (["machine", "row", "here", "letter"] : List PySem.Str)
def c_stand_behind_b1 : Cs :=
  (.cons (.asg 2 (.ix (.ix (.ix (.attr "Machine" "parts" (.var 0)) (.cst (.int 0))) (.var 2)) (.var 3)))
  .nil)
def c_stand_behind (u_check_row : Nat) : Cs :=
  (.cons (.expr (.call u_check_row (.cons (.var 0) (.cons (.var 1) .nil))))
  (.cons (.asg 2 (.cst (.int 0)))
  (.cons (.for_ (.nm 3) (.seq (.var 1)) c_stand_behind_b1)
  (.cons (.ret (.var 2))
  .nil))))
def N_lets : List PySem.Str := (["machine", "row"] : List PySem.Str)
def c_lets (u_stand_behind : Nat) : Cs :=
  (.cons (.ret (.cmp .isin (.call u_stand_behind (.cons (.var 0) (.cons (.var 1) .nil))) (.ix (.attr "Machine" "parts" (.var 0)) (.cst (.int 1)))))
  .nil)
def N__law_parts : List PySem.Str := (["_law_h", "_law_letters", "_law_many", "_law_early", "_law_steps", "_law_good", "_law_stand", "_law_low", "_law_letter"] : List PySem.Str)
def c__law_parts_e1 (u__law_next : Nat) : Ce :=
  (.bin .add (.var 7) (.call u__law_next (.cons (.var 0) (.cons (.bin .sub (.var 2) (.var 7)) .nil))))
def c__law_parts_b1 (u__law_pick u__law_next : Nat) : Cs :=
  (.cons (.asg 7 (.ife (.bop true (.cons (.cmp .lt (.var 6) (.var 3)) (.cons (.cmp .lt (.bin .add (.var 6) (.cst (.int 1))) (.var 2)) .nil))) (.bin .add (.var 6) (.cst (.int 1))) (.call u__law_pick (.cons (.var 0) (.cons (.lst (.cons (.cst (.int 0)) (.cons (.blt .min2 (.cons (.var 3) (.cons (.bin .sub (.var 2) (.cst (.int 1))) .nil))) .nil))) .nil)))))
  (.cons (.app 4 (.blt .tuple (.cons (.lc0 (c__law_parts_e1 u__law_next) (.nm 8) (.rg1 (.var 1)) [8]) .nil)))
  (.cons (.ife (.cmp .eq (.call u__law_next (.cons (.var 0) (.cons (.cst (.int 2)) .nil))) (.cst (.int 0))) (.cons (.app 5 (.var 6))
  .nil) .nil)
  .nil)))
def c__law_parts (u__law_next u__law_pick : Nat) : Cs :=
  (.cons (.par [2, 3] (.cons (.bin .add (.cst (.int 1)) (.call u__law_next (.cons (.var 0) (.cons (.call u__law_pick (.cons (.var 0) (.cons (.lst (.cons (.cst (.int 3)) (.cons (.cst (.int 8)) .nil))) .nil))) .nil)))) (.cons (.call u__law_next (.cons (.var 0) (.cons (.cst (.int 5)) .nil))) .nil)))
  (.cons (.par [4, 5] (.cons (.lst .nil) (.cons (.lst .nil) .nil)))
  (.cons (.for_ (.nm 6) (.rg1 (.var 2)) (c__law_parts_b1 u__law_pick u__law_next))
  (.cons (.ret (.tup (.cons (.blt .tuple (.cons (.var 4) .nil)) (.cons (.blt .tuple (.cons (.var 5) .nil)) .nil))))
  .nil))))
def N__law_end : List PySem.Str := (["_law_parts_here", "_law_stand", "_law_row", "_law_letter"] : List PySem.Str)
def c__law_end_b1 : Cs :=
  (.cons (.asg 1 (.ix (.ix (.ix (.var 0) (.cst (.int 0))) (.var 1)) (.var 3)))
  .nil)
def c__law_end : Cs :=
  (.cons (.for_ (.nm 3) (.seq (.var 2)) c__law_end_b1)
  (.cons (.ret (.var 1))
  .nil))
def N_check_pair : List PySem.Str := (["one", "other"] : List PySem.Str)
def c_check_pair : Cs :=
  (.cons (.ife (.cmp .ne (.blt .len (.cons (.ix (.ix (.attr "Machine" "parts" (.var 0)) (.cst (.int 0))) (.cst (.int 0))) .nil)) (.blt .len (.cons (.ix (.ix (.attr "Machine" "parts" (.var 1)) (.cst (.int 0))) (.cst (.int 0))) .nil))) (.cons .stuck
  .nil) .nil)
  .nil)
def N_is_unlike : List PySem.Str := (["one", "other", "pair"] : List PySem.Str)
def c_is_unlike : Cs :=
  (.cons (.ret (.cmp .ne (.cmp .isin (.ix (.var 2) (.cst (.int 0))) (.ix (.attr "Machine" "parts" (.var 0)) (.cst (.int 1)))) (.cmp .isin (.ix (.var 2) (.cst (.int 1))) (.ix (.attr "Machine" "parts" (.var 1)) (.cst (.int 1))))))
  .nil)
def N_word : List PySem.Str := (["one", "other", "found"] : List PySem.Str)
def c_word (u_check_pair u_counted u_BEGIN u_MANY u_FEW u_ALIKE : Nat) : Cs :=
  (.cons (.expr (.call u_check_pair (.cons (.var 0) (.cons (.var 1) .nil))))
  (.cons (.asg 2 (.call u_counted (.cons (.var 0) (.cons (.var 1) (.cons (.glo u_BEGIN) .nil)))))
  (.cons (.ife (.cmp .is (.var 2) (.cst .non)) (.cons (.ret (.glo u_MANY))
  .nil) .nil)
  (.cons (.ret (.ife (.cmp .gt (.ix (.var 2) (.cst (.int 0))) (.cst (.int 0))) (.glo u_FEW) (.glo u_ALIKE)))
  .nil))))
def N_count_unlike : List PySem.Str := (["one", "other", "found"] : List PySem.Str)
def c_count_unlike (u_check_pair u_counted u_BEGIN : Nat) : Cs :=
  (.cons (.expr (.call u_check_pair (.cons (.var 0) (.cons (.var 1) .nil))))
  (.cons (.asg 2 (.call u_counted (.cons (.var 0) (.cons (.var 1) (.cons (.glo u_BEGIN) .nil)))))
  (.cons (.ret (.ife (.cmp .isn (.var 2) (.cst .non)) (.ix (.var 2) (.cst (.int 0))) (.cst .non)))
  .nil)))
def N_longest : List PySem.Str := (["one", "other", "found"] : List PySem.Str)
def c_longest (u_check_pair u_counted u_BEGIN : Nat) : Cs :=
  (.cons (.expr (.call u_check_pair (.cons (.var 0) (.cons (.var 1) .nil))))
  (.cons (.asg 2 (.call u_counted (.cons (.var 0) (.cons (.var 1) (.cons (.glo u_BEGIN) .nil)))))
  (.cons (.ret (.ife (.cmp .isn (.var 2) (.cst .non)) (.ix (.var 2) (.cst (.int 1))) (.cst .non)))
  .nil)))
def N_unlike_of : List PySem.Str := (["one", "other", "length"] : List PySem.Str)
def c_unlike_of (u_check_pair u_is_integer u_MOST_LENGTH u_by_length u_BEGIN : Nat) : Cs :=
  (.cons (.expr (.call u_check_pair (.cons (.var 0) (.cons (.var 1) .nil))))
  (.cons (.ife (.not (.call u_is_integer (.cons (.var 2) (.cons (.cst (.int 0)) (.cons (.glo u_MOST_LENGTH) .nil))))) (.cons .stuck
  .nil) .nil)
  (.cons (.ret (.ix (.ix (.call u_by_length (.cons (.var 0) (.cons (.var 1) (.cons (.glo u_BEGIN) (.cons (.var 2) .nil))))) (.var 2)) (.glo u_BEGIN)))
  .nil)))
def N__law_near : List PySem.Str := (["_law_h", "_law_parts_here", "_law_steps", "_law_good", "_law_change", "_law_stand", "_law_spot", "_law_row", "_law_one"] : List PySem.Str)
def c__law_near_e1 : Ce :=
  (.var 8)
def c__law_near_t1 : Ce :=
  (.cmp .ne (.cmp .isin (.var 8) (.var 3)) (.cmp .eq (.var 8) (.var 5)))
def c__law_near_b1 (u__law_next u__law_pick : Nat) : Cs :=
  (.cons (.asg 5 (.call u__law_next (.cons (.var 0) (.cons (.call u__law_pick (.cons (.var 0) (.cons (.lst (.cons (.cst (.int 1)) (.cons (.blt .len (.cons (.var 2) .nil)) .nil))) .nil))) .nil))))
  (.cons (.ife (.cmp .eq (.call u__law_next (.cons (.var 0) (.cons (.cst (.int 2)) .nil))) (.cst (.int 0))) (.cons (.asg 3 (.blt .tuple (.cons (.lc1 c__law_near_e1 (.nm 8) (.rg1 (.blt .len (.cons (.var 2) .nil))) c__law_near_t1 [8]) .nil)))
  .nil) (.cons (.asg 6 (.call u__law_next (.cons (.var 0) (.cons (.blt .len (.cons (.ix (.var 2) (.cst (.int 0))) .nil)) .nil))))
  (.cons (.asg 7 (.bin .add (.bin .add (.slHi (.ix (.var 2) (.var 5)) (.var 6)) (.tup (.cons (.call u__law_next (.cons (.var 0) (.cons (.blt .len (.cons (.var 2) .nil)) .nil))) .nil))) (.slLo (.ix (.var 2) (.var 5)) (.bin .add (.var 6) (.cst (.int 1))))))
  (.cons (.asg 2 (.bin .add (.bin .add (.slHi (.var 2) (.var 5)) (.tup (.cons (.var 7) .nil))) (.slLo (.var 2) (.bin .add (.var 5) (.cst (.int 1))))))
  .nil))))
  .nil))
def c__law_near (u__law_pick u__law_next : Nat) : Cs :=
  (.cons (.unp (.tp [2, 3]) (.var 1))
  (.cons (.for_ (.nm 4) (.rg1 (.call u__law_pick (.cons (.var 0) (.cons (.lst (.cons (.cst (.int 0)) (.cons (.cst (.int 1)) (.cons (.cst (.int 1)) (.cons (.cst (.int 2)) .nil))))) .nil)))) (c__law_near_b1 u__law_next u__law_pick))
  (.cons (.ret (.tup (.cons (.var 2) (.cons (.var 3) .nil))))
  .nil)))
def N__law_two : List PySem.Str := (["_law_h", "_law_letters", "_law_one"] : List PySem.Str)
def c__law_two (u__law_next u__law_parts u__law_near : Nat) : Cs :=
  (.cons (.asg 1 (.bin .add (.cst (.int 1)) (.call u__law_next (.cons (.var 0) (.cons (.cst (.int 3)) .nil)))))
  (.cons (.asg 2 (.call u__law_parts (.cons (.var 0) (.cons (.var 1) .nil))))
  (.cons (.ret (.tup (.cons (.var 2) (.cons (.ife (.cmp .gt (.call u__law_next (.cons (.var 0) (.cons (.cst (.int 3)) .nil))) (.cst (.int 0))) (.call u__law_near (.cons (.var 0) (.cons (.var 2) .nil))) (.call u__law_parts (.cons (.var 0) (.cons (.var 1) .nil)))) .nil))))
  .nil)))
def N__law_unlike : List PySem.Str := (["_law_one", "_law_other", "_law_begin", "_law_known", "_law_many", "_law_found", "_law_pair", "_law_k"] : List PySem.Str)
def c__law_unlike_e1 : Ce :=
  (.var 6)
def c__law_unlike_t1 : Ce :=
  (.cmp .ne (.cmp .isin (.ix (.var 6) (.cst (.int 0))) (.ix (.var 0) (.cst (.int 1)))) (.cmp .isin (.ix (.var 6) (.cst (.int 1))) (.ix (.var 1) (.cst (.int 1)))))
def c__law_unlike_e2 : Ce :=
  (.var 7)
def c__law_unlike_t2 : Ce :=
  (.cmp .gt (.ix (.var 5) (.var 7)) (.cst (.int 0)))
def c__law_unlike (u__law_pairs u__law_lengths : Nat) : Cs :=
  (.cons (.asg 3 (.call u__law_pairs (.cons (.var 0) (.cons (.var 1) (.cons (.var 2) .nil)))))
  (.cons (.ife (.cmp .eq (.lc1 c__law_unlike_e1 (.nm 6) (.seq (.var 3)) c__law_unlike_t1 [6]) (.lst .nil)) (.cons (.ret (.tup (.cons (.cst (.int 0)) (.cons (.neg (.cst (.int 1))) .nil))))
  .nil) .nil)
  (.cons (.asg 4 (.blt .len (.cons (.var 3) .nil)))
  (.cons (.asg 5 (.call u__law_lengths (.cons (.var 0) (.cons (.var 1) (.cons (.var 2) (.cons (.bin .mul (.cst (.int 2)) (.var 4)) .nil))))))
  (.cons (.ife (.cmp .gt (.blt .sum (.cons (.slLo (.var 5) (.var 4)) .nil)) (.cst (.int 0))) (.cons (.ret (.cst .non))
  .nil) .nil)
  (.cons (.ret (.tup (.cons (.blt .sum (.cons (.var 5) .nil)) (.cons (.blt .max (.cons (.bin .add (.lst (.cons (.neg (.cst (.int 1))) .nil)) (.lc1 c__law_unlike_e2 (.nm 7) (.rg1 (.var 4)) c__law_unlike_t2 [7])) .nil)) .nil))))
  .nil))))))
def N_kth_unlike : List PySem.Str := (["one", "other", "k", "found", "most", "length", "counts"] : List PySem.Str)
def c_kth_unlike_w1 (u_BEGIN : Nat) : Ce :=
  (.cmp .ge (.var 2) (.ix (.ix (.var 6) (.var 5)) (.glo u_BEGIN)))
def c_kth_unlike_b1 (u_BEGIN u_grown : Nat) : Cs :=
  (.cons (.aug true 2 (.ix (.ix (.var 6) (.var 5)) (.glo u_BEGIN)))
  (.cons (.aug false 5 (.cst (.int 1)))
  (.cons (.asg 6 (.call u_grown (.cons (.var 0) (.cons (.var 1) (.cons (.var 6) .nil)))))
  .nil)))
def c_kth_unlike (u_check_pair u_counted u_BEGIN u_MOST_INDEX u_is_integer u_by_length u_grown u_row_by : Nat) : Cs :=
  (.cons (.expr (.call u_check_pair (.cons (.var 0) (.cons (.var 1) .nil))))
  (.cons (.asg 3 (.call u_counted (.cons (.var 0) (.cons (.var 1) (.cons (.glo u_BEGIN) .nil)))))
  (.cons (.asg 4 (.ife (.cmp .is (.var 3) (.cst .non)) (.glo u_MOST_INDEX) (.blt .min2 (.cons (.glo u_MOST_INDEX) (.cons (.bin .sub (.ix (.var 3) (.cst (.int 0))) (.cst (.int 1))) .nil)))))
  (.cons (.ife (.not (.call u_is_integer (.cons (.var 2) (.cons (.cst (.int 0)) (.cons (.var 4) .nil))))) (.cons .stuck
  .nil) .nil)
  (.cons (.par [5, 6] (.cons (.cst (.int 0)) (.cons (.call u_by_length (.cons (.var 0) (.cons (.var 1) (.cons (.glo u_BEGIN) (.cons (.cst (.int 0)) .nil))))) .nil)))
  (.cons (.whl 1000 (c_kth_unlike_w1 u_BEGIN) (c_kth_unlike_b1 u_BEGIN u_grown))
  (.cons (.ret (.call u_row_by (.cons (.var 0) (.cons (.var 1) (.cons (.glo u_BEGIN) (.cons (.var 5) (.cons (.var 2) (.cons (.var 6) .nil))))))))
  .nil)))))))
def N_ring : List PySem.Str := (["one", "other", "some", "pair", "ways", "head", "ends", "tail", "goal"] : List PySem.Str)
def c_ring_e1 : Ce :=
  (.tup (.cons (.blt .len (.cons (.ix (.var 4) (.var 8)) .nil)) (.cons (.ix (.var 4) (.var 8)) .nil)))
def c_ring_t1 (u_is_unlike : Nat) : Ce :=
  (.call u_is_unlike (.cons (.var 0) (.cons (.var 1) (.cons (.var 8) .nil))))
def c_ring_b1 (u_ways_from u_BEGIN u_is_unlike : Nat) : Cs :=
  (.cons (.asg 4 (.call u_ways_from (.cons (.var 0) (.cons (.var 1) (.cons (.var 3) .nil)))))
  (.cons (.ife (.bop true (.cons (.cmp .isin (.var 3) (.var 2)) (.cons (.cmp .isin (.var 3) (.var 4)) .nil))) (.cons (.asg 5 (.ife (.cmp .eq (.var 3) (.glo u_BEGIN)) (.tup .nil) (.ix (.call u_ways_from (.cons (.var 0) (.cons (.var 1) (.cons (.glo u_BEGIN) .nil)))) (.var 3))))
  (.cons (.asg 6 (.lc1 c_ring_e1 (.nm 8) (.seq (.var 4)) (c_ring_t1 u_is_unlike) [8]))
  (.cons (.asg 7 (.ife (.call u_is_unlike (.cons (.var 0) (.cons (.var 1) (.cons (.var 3) .nil)))) (.tup .nil) (.ix (.blt .min (.cons (.var 6) .nil)) (.cst (.int 1)))))
  (.cons (.ret (.tup (.cons (.var 5) (.cons (.ix (.var 4) (.var 3)) (.cons (.var 7) .nil)))))
  .nil)))) .nil)
  .nil))
def c_ring (u_check_pair u_counted u_BEGIN u_useful u_come_to u_ways_from u_is_unlike : Nat) : Cs :=
  (.cons (.expr (.call u_check_pair (.cons (.var 0) (.cons (.var 1) .nil))))
  (.cons (.ife (.cmp .isn (.call u_counted (.cons (.var 0) (.cons (.var 1) (.cons (.glo u_BEGIN) .nil)))) (.cst .non)) (.cons (.ret (.cst .non))
  .nil) .nil)
  (.cons (.asg 2 (.call u_useful (.cons (.var 0) (.cons (.var 1) (.cons (.glo u_BEGIN) .nil)))))
  (.cons (.for_ (.nm 3) (.seq (.call u_come_to (.cons (.var 0) (.cons (.var 1) (.cons (.glo u_BEGIN) .nil))))) (c_ring_b1 u_ways_from u_BEGIN u_is_unlike))
  (.cons (.ret (.cst .non))
  .nil)))))
def N_check_stand : List PySem.Str := (["machine", "thing"] : List PySem.Str)
def c_check_stand (u_is_integer : Nat) : Cs :=
  (.cons (.ife (.not (.call u_is_integer (.cons (.var 1) (.cons (.cst (.int 0)) (.cons (.bin .sub (.blt .len (.cons (.ix (.attr "Machine" "parts" (.var 0)) (.cst (.int 0))) .nil)) (.cst (.int 1))) .nil))))) (.cons .stuck
  .nil) .nil)
  .nil)
def N_apart : List PySem.Str := (["machine", "one", "other", "found"] : List PySem.Str)
def c_apart (u_check_stand u_counted : Nat) : Cs :=
  (.cons (.expr (.call u_check_stand (.cons (.var 0) (.cons (.var 1) .nil))))
  (.cons (.expr (.call u_check_stand (.cons (.var 0) (.cons (.var 2) .nil))))
  (.cons (.asg 3 (.call u_counted (.cons (.var 0) (.cons (.var 0) (.cons (.tup (.cons (.var 1) (.cons (.var 2) .nil))) .nil)))))
  (.cons (.ret (.ife (.cmp .isn (.var 3) (.cst .non)) (.ix (.var 3) (.cst (.int 0))) (.cst .non)))
  .nil))))
def N_kinds_of : List PySem.Str := (["machine", "found", "firsts", "stand", "like", "at", "first"] : List PySem.Str)
def c_kinds_of_e1 : Ce :=
  (.var 5)
def c_kinds_of_t1 (u_counted : Nat) : Ce :=
  (.cmp .isn (.call u_counted (.cons (.var 0) (.cons (.var 0) (.cons (.tup (.cons (.var 6) (.cons (.var 3) .nil))) .nil)))) (.cst .non))
def c_kinds_of_b1 (u_counted : Nat) : Cs :=
  (.cons (.asg 4 (.lc1 c_kinds_of_e1 (.tp [5, 6]) (.enum (.var 2)) (c_kinds_of_t1 u_counted) [5, 6]))
  (.cons (.ife (.cmp .eq (.var 4) (.lst .nil)) (.cons (.app 1 (.blt .len (.cons (.var 2) .nil)))
  (.cons (.app 2 (.var 3))
  .nil)) (.cons (.app 1 (.ix (.var 4) (.cst (.int 0))))
  .nil))
  .nil))
def c_kinds_of (u_counted : Nat) : Cs :=
  (.cons (.par [1, 2] (.cons (.lst .nil) (.cons (.lst .nil) .nil)))
  (.cons (.for_ (.nm 3) (.rg1 (.blt .len (.cons (.ix (.attr "Machine" "parts" (.var 0)) (.cst (.int 0))) .nil))) (c_kinds_of_b1 u_counted))
  (.cons (.ret (.var 1))
  .nil)))
def N_kinds : List PySem.Str := (["machine"] : List PySem.Str)
def c_kinds (u_kinds_of : Nat) : Cs :=
  (.cons (.ret (.blt .tuple (.cons (.call u_kinds_of (.cons (.var 0) .nil)) .nil)))
  .nil)
def N_rows_to : List PySem.Str := (["machine", "stand"] : List PySem.Str)
def c_rows_to (u_check_stand u_come_counts : Nat) : Cs :=
  (.cons (.expr (.call u_check_stand (.cons (.var 0) (.cons (.var 1) .nil))))
  (.cons (.ret (.ix (.call u_come_counts (.cons (.var 0) .nil)) (.var 1)))
  .nil))
def N_classes_by : List PySem.Str := (["steps", "marks", "found", "many", "at", "row", "goal"] : List PySem.Str)
def c_classes_by_w1 : Ce :=
  (.cmp .lt (.var 3) (.bin .add (.blt .max (.cons (.var 2) .nil)) (.cst (.int 1))))
def c_classes_by_e1 : Ce :=
  (.ix (.var 2) (.var 6))
def c_classes_by_e2 : Ce :=
  (.tup (.cons (.ix (.var 2) (.var 4)) (.cons (.blt .tuple (.cons (.lc0 c_classes_by_e1 (.nm 6) (.seq (.var 5)) [6]) .nil)) .nil)))
def c_classes_by_b1 (u_numbered : Nat) : Cs :=
  (.cons (.asg 3 (.bin .add (.blt .max (.cons (.var 2) .nil)) (.cst (.int 1))))
  (.cons (.asg 2 (.call u_numbered (.cons (.lc0 c_classes_by_e2 (.tp [4, 5]) (.enum (.var 0)) [4, 5]) .nil)))
  .nil))
def c_classes_by (u_numbered : Nat) : Cs :=
  (.cons (.par [2, 3] (.cons (.call u_numbered (.cons (.var 1) .nil)) (.cons (.cst (.int 0)) .nil)))
  (.cons (.whl 1000 c_classes_by_w1 (c_classes_by_b1 u_numbered))
  (.cons (.ret (.var 2))
  .nil)))
def N_machine_by : List PySem.Str := (["steps", "marks", "stand", "mark"] : List PySem.Str)
def c_machine_by_e1 : Ce :=
  (.var 2)
def c_machine_by_t1 : Ce :=
  (.var 3)
def c_machine_by (u_Machine : Nat) : Cs :=
  (.cons (.ret (.call u_Machine (.cons (.var 0) (.cons (.blt .tuple (.cons (.lc1 c_machine_by_e1 (.tp [2, 3]) (.enum (.var 1)) c_machine_by_t1 [2, 3]) .nil)) .nil))))
  .nil)
def N_marks_of : List PySem.Str := (["machine", "stand"] : List PySem.Str)
def c_marks_of_e1 : Ce :=
  (.cmp .isin (.var 1) (.ix (.attr "Machine" "parts" (.var 0)) (.cst (.int 1))))
def c_marks_of : Cs :=
  (.cons (.ret (.lc0 c_marks_of_e1 (.nm 1) (.rg1 (.blt .len (.cons (.ix (.attr "Machine" "parts" (.var 0)) (.cst (.int 0))) .nil))) [1]))
  .nil)
def N_small : List PySem.Str := (["machine", "steps", "marks"] : List PySem.Str)
def c_small (u_shrunk u_marks_of u_machine_by : Nat) : Cs :=
  (.cons (.unp (.tp [1, 2]) (.call u_shrunk (.cons (.ix (.attr "Machine" "parts" (.var 0)) (.cst (.int 0))) (.cons (.call u_marks_of (.cons (.var 0) .nil)) .nil))))
  (.cons (.ret (.call u_machine_by (.cons (.var 1) (.cons (.var 2) .nil))))
  .nil))
def N__law_same : List PySem.Str := (["_law_parts_here", "_law_one", "_law_other", "_law_known", "_law_pair"] : List PySem.Str)
def c__law_same_e1 : Ce :=
  (.var 4)
def c__law_same_t1 : Ce :=
  (.cmp .ne (.cmp .isin (.ix (.var 4) (.cst (.int 0))) (.ix (.var 0) (.cst (.int 1)))) (.cmp .isin (.ix (.var 4) (.cst (.int 1))) (.ix (.var 0) (.cst (.int 1)))))
def c__law_same (u__law_pairs : Nat) : Cs :=
  (.cons (.asg 3 (.call u__law_pairs (.cons (.var 0) (.cons (.var 0) (.cons (.tup (.cons (.var 1) (.cons (.var 2) .nil))) .nil)))))
  (.cons (.ret (.cmp .eq (.lc1 c__law_same_e1 (.nm 4) (.seq (.var 3)) c__law_same_t1 [4]) (.lst .nil)))
  .nil))
def N__law_least : List PySem.Str := (["_law_parts_here", "_law_line", "_law_rows", "_law_k", "_law_row", "_law_goal", "_law_like", "_law_at"] : List PySem.Str)
def c__law_least_e1 : Ce :=
  (.var 7)
def c__law_least_t1 (u__law_same : Nat) : Ce :=
  (.call u__law_same (.cons (.var 0) (.cons (.ix (.var 1) (.var 7)) (.cons (.var 5) .nil))))
def c__law_least_b1 (u__law_same : Nat) : Cs :=
  (.cons (.asg 6 (.lc1 c__law_least_e1 (.nm 7) (.rg1 (.blt .len (.cons (.var 1) .nil))) (c__law_least_t1 u__law_same) [7]))
  (.cons (.ife (.cmp .eq (.var 6) (.lst .nil)) (.cons (.asg 6 (.lst (.cons (.blt .len (.cons (.var 1) .nil)) .nil)))
  (.cons (.app 1 (.var 5))
  .nil)) .nil)
  (.cons (.app 4 (.ix (.var 6) (.cst (.int 0))))
  .nil)))
def c__law_least_b2 (u__law_same : Nat) : Cs :=
  (.cons (.ife (.cmp .lt (.var 3) (.blt .len (.cons (.var 1) .nil))) (.cons (.asg 4 (.lst .nil))
  (.cons (.for_ (.nm 5) (.seq (.ix (.ix (.var 0) (.cst (.int 0))) (.ix (.var 1) (.var 3)))) (c__law_least_b1 u__law_same))
  (.cons (.app 2 (.blt .tuple (.cons (.var 4) .nil)))
  .nil))) .nil)
  .nil)
def c__law_least_e2 : Ce :=
  (.var 3)
def c__law_least_t2 : Ce :=
  (.cmp .isin (.ix (.var 1) (.var 3)) (.ix (.var 0) (.cst (.int 1))))
def c__law_least (u__law_same : Nat) : Cs :=
  (.cons (.par [1, 2] (.cons (.lst (.cons (.cst (.int 0)) .nil)) (.cons (.lst .nil) .nil)))
  (.cons (.for_ (.nm 3) (.rg1 (.blt .len (.cons (.ix (.var 0) (.cst (.int 0))) .nil))) (c__law_least_b2 u__law_same))
  (.cons (.ret (.tup (.cons (.blt .tuple (.cons (.var 2) .nil)) (.cons (.blt .tuple (.cons (.lc1 c__law_least_e2 (.nm 3) (.rg1 (.blt .len (.cons (.var 1) .nil))) c__law_least_t2 [3]) .nil)) .nil))))
  .nil)))
def N_is_marked : List PySem.Str := (["one", "other", "how"] : List PySem.Str)
def c_is_marked (u_EITHER u_BOTH : Nat) : Cs :=
  (.cons (.ife (.cmp .eq (.var 2) (.glo u_EITHER)) (.cons (.ret (.bop false (.cons (.var 0) (.cons (.var 1) .nil))))
  .nil) .nil)
  (.cons (.ret (.ife (.cmp .eq (.var 2) (.glo u_BOTH)) (.bop true (.cons (.var 0) (.cons (.var 1) .nil))) (.cmp .ne (.var 0) (.var 1))))
  .nil))
def N__law_alike_2 : List PySem.Str := (["_law_found", "_law_due_here", "_law_k"] : List PySem.Str)
def c__law_alike_2_e1 : Ce :=
  (.var 2)
def c__law_alike_2_t1 (u__law_alike : Nat) : Ce :=
  (.not (.call u__law_alike (.cons (.ix (.var 0) (.var 2)) (.cons (.ix (.var 1) (.var 2)) .nil))))
def c__law_alike_2 (u__law_alike : Nat) : Cs :=
  (.cons (.ife (.isiT "tuple" "list" (.var 1)) (.cons (.ife (.bop false (.cons (.not (.isiT "tuple" "list" (.var 0))) (.cons (.cmp .ne (.isi (.bty "list") (.var 0)) (.isi (.bty "list") (.var 1))) .nil))) (.cons (.ret (.cst (.bl false)))
  .nil) .nil)
  (.cons (.ife (.cmp .ne (.blt .len (.cons (.var 0) .nil)) (.blt .len (.cons (.var 1) .nil))) (.cons (.ret (.cst (.bl false)))
  .nil) .nil)
  (.cons (.ret (.cmp .eq (.lc1 c__law_alike_2_e1 (.nm 2) (.rg1 (.blt .len (.cons (.var 1) .nil))) (c__law_alike_2_t1 u__law_alike) [2]) (.lst .nil)))
  .nil))) .nil)
  (.cons (.ife (.bop false (.cons (.cmp .is (.var 1) (.cst .non)) (.cons (.isi (.bty "str") (.var 1)) .nil))) (.cons (.ret (.bop true (.cons (.cmp .eq (.var 0) (.var 1)) (.cons (.cmp .eq (.isi (.bty "str") (.var 0)) (.isi (.bty "str") (.var 1))) .nil))))
  .nil) .nil)
  (.cons (.ret (.bop true (.cons (.isi (.bty "int") (.var 0)) (.cons (.cmp .eq (.isi (.bty "bool") (.var 0)) (.isi (.bty "bool") (.var 1))) (.cons (.cmp .eq (.var 0) (.var 1)) .nil)))))
  .nil)))
def N_fewest : List PySem.Str := (["machine"] : List PySem.Str)
def c_fewest (u_lean_parts : Nat) : Cs :=
  (.cons (.ret (.blt .len (.cons (.ix (.call u_lean_parts (.cons (.var 0) .nil)) (.cst (.int 0))) .nil)))
  .nil)
def N_lean : List PySem.Str := (["machine", "steps", "marks", "stand", "mark"] : List PySem.Str)
def c_lean_e1 : Ce :=
  (.var 3)
def c_lean_t1 : Ce :=
  (.var 4)
def c_lean (u_lean_parts u_Machine : Nat) : Cs :=
  (.cons (.unp (.tp [1, 2]) (.call u_lean_parts (.cons (.var 0) .nil)))
  (.cons (.ret (.call u_Machine (.cons (.var 1) (.cons (.blt .tuple (.cons (.lc1 c_lean_e1 (.tp [3, 4]) (.enum (.var 2)) c_lean_t1 [3, 4]) .nil)) .nil))))
  .nil))
def N__law_all : List PySem.Str := (["_law_letters", "_law_many", "_law_rows", "_law_tables", "_law_letter", "_law_longer", "_law_row", "_law_stand", "_law_table", "_law_found", "_law_good"] : List PySem.Str)
def c__law_all_e1 : Ce :=
  (.bin .add (.var 6) (.tup (.cons (.var 7) .nil)))
def c__law_all_b1 : Cs :=
  (.cons (.asg 5 (.bin .add (.var 5) (.lc0 c__law_all_e1 (.nm 7) (.rg1 (.var 1)) [7])))
  .nil)
def c__law_all_b2 : Cs :=
  (.cons (.asg 5 (.lst .nil))
  (.cons (.for_ (.nm 6) (.seq (.var 2)) c__law_all_b1)
  (.cons (.asg 2 (.var 5))
  .nil)))
def c__law_all_e2 : Ce :=
  (.bin .add (.var 8) (.tup (.cons (.var 6) .nil)))
def c__law_all_b3 : Cs :=
  (.cons (.asg 5 (.bin .add (.var 5) (.lc0 c__law_all_e2 (.nm 6) (.seq (.var 2)) [6])))
  .nil)
def c__law_all_b4 : Cs :=
  (.cons (.asg 5 (.lst .nil))
  (.cons (.for_ (.nm 8) (.seq (.var 3)) c__law_all_b3)
  (.cons (.asg 3 (.var 5))
  .nil)))
def c__law_all_b5 : Cs :=
  (.cons (.app 9 (.tup (.cons (.var 8) (.cons (.var 10) .nil))))
  .nil)
def c__law_all_b6 : Cs :=
  (.cons (.for_ (.nm 10) (.seq (.slHi (.lst (.cons (.tup .nil) (.cons (.tup (.cons (.cst (.int 0)) .nil)) (.cons (.tup (.cons (.cst (.int 1)) .nil)) (.cons (.tup (.cons (.cst (.int 0)) (.cons (.cst (.int 1)) .nil))) .nil))))) (.bin .mul (.cst (.int 2)) (.var 1)))) c__law_all_b5)
  .nil)
def c__law_all : Cs :=
  (.cons (.par [2, 3] (.cons (.lst (.cons (.tup .nil) .nil)) (.cons (.lst (.cons (.tup .nil) .nil)) .nil)))
  (.cons (.for_ (.nm 4) (.rg1 (.var 0)) c__law_all_b2)
  (.cons (.for_ (.nm 7) (.rg1 (.var 1)) c__law_all_b4)
  (.cons (.asg 9 (.lst .nil))
  (.cons (.for_ (.nm 8) (.seq (.var 3)) c__law_all_b6)
  (.cons (.ret (.var 9))
  .nil))))))
def N__law_three : List PySem.Str := (["_law_found", "_law_code", "_law_cells", "_law_left", "_law_line", "_law_k", "_law_table", "_law_stand", "_law_goal"] : List PySem.Str)
def c__law_three_b1 : Cs :=
  (.cons (.app 2 (.bin .mod (.blt .int (.cons (.var 3) .nil)) (.cst (.int 3))))
  (.cons (.asg 3 (.bin .fdiv (.var 3) (.cst (.int 3))))
  .nil))
def c__law_three_b2 : Cs :=
  (.cons (.asg 4 (.bin .add (.var 4) (.ife (.cmp .nin (.var 8) (.var 4)) (.lst (.cons (.var 8) .nil)) (.lst .nil))))
  .nil)
def c__law_three_b3 : Cs :=
  (.cons (.for_ (.nm 8) (.seq (.ife (.cmp .lt (.var 7) (.blt .len (.cons (.var 4) .nil))) (.ix (.var 6) (.ix (.var 4) (.var 7))) (.tup .nil))) c__law_three_b2)
  .nil)
def c__law_three_b4 : Cs :=
  (.cons (.par [2, 3, 4] (.cons (.lst .nil) (.cons (.var 1) (.cons (.lst (.cons (.cst (.int 0)) .nil)) .nil))))
  (.cons (.for_ (.nm 5) (.rg1 (.cst (.int 6))) c__law_three_b1)
  (.cons (.asg 6 (.tup (.cons (.blt .tuple (.cons (.slHi (.var 2) (.cst (.int 2))) .nil)) (.cons (.blt .tuple (.cons (.slBo (.var 2) (.cst (.int 2)) (.cst (.int 4))) .nil)) (.cons (.blt .tuple (.cons (.slLo (.var 2) (.cst (.int 4))) .nil)) .nil)))))
  (.cons (.for_ (.nm 7) (.rg1 (.cst (.int 3))) c__law_three_b3)
  (.cons (.ife (.cmp .eq (.var 4) (.lst (.cons (.cst (.int 0)) (.cons (.cst (.int 1)) (.cons (.cst (.int 2)) .nil))))) (.cons (.app 0 (.var 6))
  .nil) .nil)
  .nil)))))
def c__law_three : Cs :=
  (.cons (.asg 0 (.lst .nil))
  (.cons (.for_ (.nm 1) (.rg1 (.cst (.int 729))) c__law_three_b4)
  (.cons (.ret (.var 0))
  .nil)))
def N__law_long : List PySem.Str := (["_law_h", "_law_parts_here", "_law_found", "_law_k", "_law_row", "_law_letter"] : List PySem.Str)
def c__law_long_e1 (u__law_next : Nat) : Ce :=
  (.call u__law_next (.cons (.var 0) (.cons (.cst (.int 2)) .nil)))
def c__law_long_b1 (u__law_next u__law_end : Nat) : Cs :=
  (.cons (.asg 4 (.blt .tuple (.cons (.lc0 (c__law_long_e1 u__law_next) (.nm 5) (.rg1 (.cst (.int 30))) [5]) .nil)))
  (.cons (.app 2 (.tup (.cons (.var 4) (.cons (.cmp .isin (.call u__law_end (.cons (.var 1) (.cons (.cst (.int 0)) (.cons (.var 4) .nil)))) (.ix (.var 1) (.cst (.int 1)))) .nil))))
  .nil))
def c__law_long (u__law_next u__law_end : Nat) : Cs :=
  (.cons (.asg 2 (.lst .nil))
  (.cons (.for_ (.nm 3) (.rg1 (.cst (.int 12))) (c__law_long_b1 u__law_next u__law_end))
  (.cons (.ret (.var 2))
  .nil)))
def N_with_step : List PySem.Str := (["machine", "stand", "letter", "goal", "steps", "good", "row"] : List PySem.Str)
def c_with_step (u_Machine : Nat) : Cs :=
  (.cons (.unp (.tp [4, 5]) (.attr "Machine" "parts" (.var 0)))
  (.cons (.asg 6 (.bin .add (.bin .add (.slHi (.ix (.var 4) (.var 1)) (.var 2)) (.tup (.cons (.var 3) .nil))) (.slLo (.ix (.var 4) (.var 1)) (.bin .add (.var 2) (.cst (.int 1))))))
  (.cons (.ret (.call u_Machine (.cons (.bin .add (.bin .add (.slHi (.var 4) (.var 1)) (.tup (.cons (.var 6) .nil))) (.slLo (.var 4) (.bin .add (.var 1) (.cst (.int 1))))) (.cons (.var 5) .nil))))
  .nil)))
def N_check_step : List PySem.Str := (["machine", "stand", "letter", "goal"] : List PySem.Str)
def c_check_step (u_check_stand u_is_integer : Nat) : Cs :=
  (.cons (.expr (.call u_check_stand (.cons (.var 0) (.cons (.var 1) .nil))))
  (.cons (.ife (.not (.call u_is_integer (.cons (.var 2) (.cons (.cst (.int 0)) (.cons (.bin .sub (.blt .len (.cons (.ix (.ix (.attr "Machine" "parts" (.var 0)) (.cst (.int 0))) (.cst (.int 0))) .nil)) (.cst (.int 1))) .nil))))) (.cons .stuck
  .nil) .nil)
  (.cons (.expr (.call u_check_stand (.cons (.var 0) (.cons (.var 3) .nil))))
  .nil)))
def N_changed : List PySem.Str := (["machine", "stand", "letter", "goal"] : List PySem.Str)
def c_changed (u_check_step u_with_step : Nat) : Cs :=
  (.cons (.expr (.call u_check_step (.cons (.var 0) (.cons (.var 1) (.cons (.var 2) (.cons (.var 3) .nil))))))
  (.cons (.ret (.call u_with_step (.cons (.var 0) (.cons (.var 1) (.cons (.var 2) (.cons (.var 3) .nil))))))
  .nil))
def N_harmless : List PySem.Str := (["machine", "found", "stand", "row", "letter", "now", "goal"] : List PySem.Str)
def c_harmless_b1 (u_word u_with_step u_MANY : Nat) : Cs :=
  (.cons (.ife (.bop true (.cons (.cmp .ne (.var 6) (.var 5)) (.cons (.cmp .ne (.call u_word (.cons (.var 0) (.cons (.call u_with_step (.cons (.var 0) (.cons (.var 2) (.cons (.var 4) (.cons (.var 6) .nil))))) .nil))) (.glo u_MANY)) .nil))) (.cons (.app 1 (.tup (.cons (.var 2) (.cons (.var 4) (.cons (.var 6) .nil)))))
  .nil) .nil)
  .nil)
def c_harmless_b2 (u_word u_with_step u_MANY : Nat) : Cs :=
  (.cons (.for_ (.nm 6) (.rg1 (.blt .len (.cons (.ix (.attr "Machine" "parts" (.var 0)) (.cst (.int 0))) .nil))) (c_harmless_b1 u_word u_with_step u_MANY))
  .nil)
def c_harmless_b3 (u_word u_with_step u_MANY : Nat) : Cs :=
  (.cons (.for_ (.tp [4, 5]) (.enum (.var 3)) (c_harmless_b2 u_word u_with_step u_MANY))
  .nil)
def c_harmless (u_word u_with_step u_MANY : Nat) : Cs :=
  (.cons (.asg 1 (.lst .nil))
  (.cons (.for_ (.tp [2, 3]) (.enum (.ix (.attr "Machine" "parts" (.var 0)) (.cst (.int 0)))) (c_harmless_b3 u_word u_with_step u_MANY))
  (.cons (.ret (.var 1))
  .nil)))
def N_stand_of : List PySem.Str := (["word", "stands", "stand"] : List PySem.Str)
def c_stand_of_b1 : Cs :=
  (.cons (.ife (.cmp .eq (.var 0) (.blt .str (.cons (.var 2) .nil))) (.cons (.ret (.var 2))
  .nil) .nil)
  .nil)
def c_stand_of : Cs :=
  (.cons (.for_ (.nm 2) (.rg1 (.var 1)) c_stand_of_b1)
  (.cons (.ret (.cst .non))
  .nil))
def N_inner_letters : List PySem.Str := (["one", "other", "pair", "lot", "letter", "goal"] : List PySem.Str)
def c_inner_letters_e1 : Ce :=
  (.var 4)
def c_inner_letters_t1 : Ce :=
  (.cmp .isin (.var 5) (.var 3))
def c_inner_letters (u_goals_of : Nat) : Cs :=
  (.cons (.ret (.lc1 c_inner_letters_e1 (.tp [4, 5]) (.enum (.call u_goals_of (.cons (.var 0) (.cons (.var 1) (.cons (.var 2) .nil))))) c_inner_letters_t1 [4, 5]))
  .nil)
def N_first_fork : List PySem.Str := (["one", "other", "lots", "some", "pair"] : List PySem.Str)
def c_first_fork_e1 : Ce :=
  (.var 4)
def c_first_fork_t1 (u_inner_letters : Nat) : Ce :=
  (.cmp .gt (.blt .len (.cons (.call u_inner_letters (.cons (.var 0) (.cons (.var 1) (.cons (.var 4) (.cons (.ix (.var 2) (.var 4)) .nil))))) .nil)) (.cst (.int 1)))
def c_first_fork (u_lots_of u_inner_letters : Nat) : Cs :=
  (.cons (.asg 2 (.call u_lots_of (.cons (.var 0) (.cons (.var 1) .nil))))
  (.cons (.asg 3 (.lc1 c_first_fork_e1 (.nm 4) (.seq (.var 2)) (c_first_fork_t1 u_inner_letters) [4]))
  (.cons (.ret (.ife (.cmp .ne (.var 3) (.lst .nil)) (.blt .min (.cons (.var 3) .nil)) (.cst .non)))
  .nil)))
def N_rings_ahead : List PySem.Str := (["one", "other", "lots", "pair", "known", "lot", "own", "behind", "here", "goal"] : List PySem.Str)
def c_rings_ahead_b1 (u_rings_ahead : Nat) : Cs :=
  (.cons (.ife (.bop true (.cons (.cmp .isin (.var 9) (.var 2)) (.cons (.cmp .nin (.var 9) (.var 5)) .nil))) (.cons (.app 7 (.call u_rings_ahead (.cons (.var 0) (.cons (.var 1) (.cons (.var 2) (.cons (.var 9) (.cons (.var 4) .nil)))))))
  .nil) .nil)
  .nil)
def c_rings_ahead_b2 (u_goals_of u_rings_ahead : Nat) : Cs :=
  (.cons (.for_ (.nm 9) (.seq (.call u_goals_of (.cons (.var 0) (.cons (.var 1) (.cons (.var 8) .nil))))) (c_rings_ahead_b1 u_rings_ahead))
  .nil)
def c_rings_ahead_b3 : Cs :=
  (.cons (.store 4 (.var 8) (.bin .add (.var 6) (.blt .max (.cons (.var 7) .nil))))
  .nil)
def c_rings_ahead (u_inner_letters u_goals_of u_rings_ahead : Nat) : Cs :=
  (.cons (.ife (.cmp .nin (.var 3) (.var 4)) (.cons (.asg 5 (.ix (.var 2) (.var 3)))
  (.cons (.asg 6 (.ife (.cmp .ne (.call u_inner_letters (.cons (.var 0) (.cons (.var 1) (.cons (.var 3) (.cons (.var 5) .nil))))) (.lst .nil)) (.cst (.int 1)) (.cst (.int 0))))
  (.cons (.asg 7 (.lst (.cons (.cst (.int 0)) .nil)))
  (.cons (.for_ (.nm 8) (.seq (.var 5)) (c_rings_ahead_b2 u_goals_of u_rings_ahead))
  (.cons (.for_ (.nm 8) (.seq (.var 5)) c_rings_ahead_b3)
  .nil))))) .nil)
  (.cons (.ret (.ix (.var 4) (.var 3)))
  .nil))
def N_twins : List PySem.Str := (["one", "other", "fork", "lot", "letters", "ways", "ends", "head", "tail", "goal"] : List PySem.Str)
def c_twins_e1 : Ce :=
  (.tup (.cons (.blt .len (.cons (.ix (.var 5) (.var 9)) .nil)) (.cons (.ix (.var 5) (.var 9)) .nil)))
def c_twins_t1 (u_is_unlike : Nat) : Ce :=
  (.call u_is_unlike (.cons (.var 0) (.cons (.var 1) (.cons (.var 9) .nil))))
def c_twins (u_check_pair u_first_fork u_lots_of u_inner_letters u_ways_from u_is_unlike u_BEGIN u_way_in : Nat) : Cs :=
  (.cons (.expr (.call u_check_pair (.cons (.var 0) (.cons (.var 1) .nil))))
  (.cons (.asg 2 (.call u_first_fork (.cons (.var 0) (.cons (.var 1) .nil))))
  (.cons (.ife (.cmp .is (.var 2) (.cst .non)) (.cons (.ret (.cst .non))
  .nil) .nil)
  (.cons (.asg 3 (.ix (.call u_lots_of (.cons (.var 0) (.cons (.var 1) .nil))) (.var 2)))
  (.cons (.asg 4 (.call u_inner_letters (.cons (.var 0) (.cons (.var 1) (.cons (.var 2) (.cons (.var 3) .nil))))))
  (.cons (.asg 5 (.call u_ways_from (.cons (.var 0) (.cons (.var 1) (.cons (.var 2) .nil)))))
  (.cons (.asg 6 (.lc1 c_twins_e1 (.nm 9) (.seq (.var 5)) (c_twins_t1 u_is_unlike) [9]))
  (.cons (.asg 7 (.ife (.cmp .eq (.var 2) (.glo u_BEGIN)) (.tup .nil) (.ix (.call u_ways_from (.cons (.var 0) (.cons (.var 1) (.cons (.glo u_BEGIN) .nil)))) (.var 2))))
  (.cons (.asg 8 (.ife (.call u_is_unlike (.cons (.var 0) (.cons (.var 1) (.cons (.var 2) .nil)))) (.tup .nil) (.ix (.blt .min (.cons (.var 6) .nil)) (.cst (.int 1)))))
  (.cons (.ret (.tup (.cons (.var 7) (.cons (.call u_way_in (.cons (.var 0) (.cons (.var 1) (.cons (.var 2) (.cons (.ix (.var 4) (.cst (.int 0))) (.cons (.var 3) .nil)))))) (.cons (.call u_way_in (.cons (.var 0) (.cons (.var 1) (.cons (.var 2) (.cons (.ix (.var 4) (.cst (.int 1))) (.cons (.var 3) .nil)))))) (.cons (.var 8) .nil))))))
  .nil))))))))))
def N_check_length : List PySem.Str := (["thing"] : List PySem.Str)
def c_check_length (u_is_integer u_MOST_LONG : Nat) : Cs :=
  (.cons (.ife (.not (.call u_is_integer (.cons (.var 0) (.cons (.cst (.int 0)) (.cons (.glo u_MOST_LONG) .nil))))) (.cons .stuck
  .nil) .nil)
  .nil)
def N_cover : List PySem.Str := (["machine", "length"] : List PySem.Str)
def c_cover (u_check_length u_keeps_of : Nat) : Cs :=
  (.cons (.expr (.call u_check_length (.cons (.var 1) .nil)))
  (.cons (.ret (.blt .len (.cons (.ix (.call u_keeps_of (.cons (.var 0) (.cons (.var 1) .nil))) (.cst (.int 0))) .nil)))
  .nil))
def N_is_short : List PySem.Str := (["machine", "thing", "letter"] : List PySem.Str)
def c_is_short_e1 (u_is_integer : Nat) : Ce :=
  (.call u_is_integer (.cons (.var 2) (.cons (.cst (.int 0)) (.cons (.bin .sub (.blt .len (.cons (.ix (.ix (.attr "Machine" "parts" (.var 0)) (.cst (.int 0))) (.cst (.int 0))) .nil)) (.cst (.int 1))) .nil))))
def c_is_short (u_MOST_SHORT u_is_integer : Nat) : Cs :=
  (.cons (.ife (.bop false (.cons (.not (.isi (.bty "tuple") (.var 1))) (.cons (.cmp .gt (.blt .len (.cons (.var 1) .nil)) (.glo u_MOST_SHORT)) .nil))) (.cons (.ret (.cst (.bl false)))
  .nil) .nil)
  (.cons (.ret (.blt .all (.cons (.lc0 (c_is_short_e1 u_is_integer) (.nm 2) (.seq (.var 1)) [2]) .nil)))
  .nil))
def N_check_rows : List PySem.Str := (["machine", "thing", "index", "row"] : List PySem.Str)
def c_check_rows_b1 (u_is_short : Nat) : Cs :=
  (.cons (.ife (.bop false (.cons (.not (.call u_is_short (.cons (.var 0) (.cons (.var 3) .nil)))) (.cons (.cmp .isin (.var 3) (.slHi (.var 1) (.var 2))) .nil))) (.cons .stuck
  .nil) .nil)
  .nil)
def c_check_rows (u_MOST_ROWS u_is_short : Nat) : Cs :=
  (.cons (.ife (.bop false (.cons (.not (.isiT "list" "tuple" (.var 1))) (.cons (.not (.chain .le .le (.cst (.int 1)) (.blt .len (.cons (.var 1) .nil)) (.glo u_MOST_ROWS))) .nil))) (.cons .stuck
  .nil) .nil)
  (.cons (.for_ (.tp [2, 3]) (.enum (.var 1)) (c_check_rows_b1 u_is_short))
  .nil))
def N_unlike_rows : List PySem.Str := (["one", "other", "many", "found", "length", "counts", "k"] : List PySem.Str)
def c_unlike_rows_w1 : Ce :=
  (.cmp .lt (.blt .len (.cons (.var 3) .nil)) (.var 2))
def c_unlike_rows_e1 (u_row_by u_BEGIN : Nat) : Ce :=
  (.call u_row_by (.cons (.var 0) (.cons (.var 1) (.cons (.glo u_BEGIN) (.cons (.var 4) (.cons (.var 6) (.cons (.var 5) .nil)))))))
def c_unlike_rows_b1 (u_BEGIN u_row_by u_grown : Nat) : Cs :=
  (.cons (.aug false 3 (.lc0 (c_unlike_rows_e1 u_row_by u_BEGIN) (.nm 6) (.rg1 (.ix (.ix (.var 5) (.var 4)) (.glo u_BEGIN))) [6]))
  (.cons (.aug false 4 (.cst (.int 1)))
  (.cons (.asg 5 (.call u_grown (.cons (.var 0) (.cons (.var 1) (.cons (.var 5) .nil)))))
  .nil)))
def c_unlike_rows (u_count_unlike u_MOST_LISTED u_by_length u_BEGIN u_row_by u_grown : Nat) : Cs :=
  (.cons (.asg 2 (.call u_count_unlike (.cons (.var 0) (.cons (.var 1) .nil))))
  (.cons (.ife (.cmp .is (.var 2) (.cst .non)) (.cons (.ret (.cst .non))
  .nil) .nil)
  (.cons (.ife (.cmp .gt (.var 2) (.glo u_MOST_LISTED)) (.cons .stuck
  .nil) .nil)
  (.cons (.par [3, 4, 5] (.cons (.lst .nil) (.cons (.cst (.int 0)) (.cons (.call u_by_length (.cons (.var 0) (.cons (.var 1) (.cons (.glo u_BEGIN) (.cons (.cst (.int 0)) .nil))))) .nil))))
  (.cons (.whl 1000 c_unlike_rows_w1 (c_unlike_rows_b1 u_BEGIN u_row_by u_grown))
  (.cons (.ret (.var 3))
  .nil))))))
def N_least_wrong : List PySem.Str := (["machine"] : List PySem.Str)
def c_least_wrong (u_built : Nat) : Cs :=
  (.cons (.ret (.ix (.call u_built (.cons (.var 0) .nil)) (.cst (.int 0))))
  .nil)
def N_best_lean : List PySem.Str := (["machine", "wrong", "steps", "marks", "stand", "mark"] : List PySem.Str)
def c_best_lean_e1 : Ce :=
  (.var 4)
def c_best_lean_t1 : Ce :=
  (.var 5)
def c_best_lean (u_built u_Machine : Nat) : Cs :=
  (.cons (.unp (.tp [1, 2, 3]) (.call u_built (.cons (.var 0) .nil)))
  (.cons (.ret (.call u_Machine (.cons (.var 2) (.cons (.blt .tuple (.cons (.lc1 c_best_lean_e1 (.tp [4, 5]) (.enum (.var 3)) c_best_lean_t1 [4, 5]) .nil)) .nil))))
  .nil))
def N_check_machines : List PySem.Str := (["thing", "index", "machine"] : List PySem.Str)
def c_check_machines_b1 : Cs :=
  (.cons (.ife (.not (.isi (.own "Machine") (.var 2))) (.cons .stuck
  .nil) .nil)
  .nil)
def c_check_machines_e1 : Ce :=
  (.cmp .ne (.blt .len (.cons (.ix (.ix (.attr "Machine" "parts" (.var 2)) (.cst (.int 0))) (.cst (.int 0))) .nil)) (.blt .len (.cons (.ix (.ix (.attr "Machine" "parts" (.ix (.var 0) (.cst (.int 0)))) (.cst (.int 0))) (.cst (.int 0))) .nil)))
def c_check_machines (u_MOST_MACHINES : Nat) : Cs :=
  (.cons (.ife (.bop false (.cons (.not (.isiT "list" "tuple" (.var 0))) (.cons (.not (.chain .le .le (.cst (.int 1)) (.blt .len (.cons (.var 0) .nil)) (.glo u_MOST_MACHINES))) .nil))) (.cons .stuck
  .nil) .nil)
  (.cons (.for_ (.tp [1, 2]) (.enum (.var 0)) c_check_machines_b1)
  (.cons (.ife (.blt .any (.cons (.lc0 c_check_machines_e1 (.nm 2) (.seq (.var 0)) [2]) .nil)) (.cons .stuck
  .nil) .nil)
  .nil)))
end BF
set_option Elab.async false
set_option linter.all false
set_option autoImplicit false
set_option maxRecDepth 100000
set_option maxHeartbeats 1000000
namespace BF
open PySem PySem.Spec PyProof.Rows L2
theorem size_ge {n : Nat} (h : n ≤ 1000) : n ≤ sizeLine := by rw [sizeLine_eq]; omega
section
variable {G : Type} {K : Env1} {Γ : Gam G}
def IsInt (m : Mir G) : Prop := ∀ i lo hi g, m [.int i, .int lo, .int hi] g = .ok (.bl (decide (lo ≤ i) && decide (i ≤ hi))) g
theorem s_is_integer : IsInt (runF N_is_integer.length (ex K Γ c_is_integer)) := by
  intro i lo hi g
  unfold c_is_integer N_is_integer
  by_cases h : lo ≤ i <;> simp [h]
theorem mem_enumL : ∀ {ds : List D} {c : Int} {d : D}, d ∈ enumL c ds → ∃ i e, e ∈ ds ∧ d = .tup [.int i, e]
  | [], c, d, h => by cases h
  | x :: xs, c, d, h => by
    rcases List.mem_cons.mp (show d ∈ .tup [.int c, x] :: enumL (c + 1) xs from h) with rfl | h
    · exact ⟨c, x, List.mem_cons_self, rfl⟩
    · obtain ⟨i, e, h1, h2⟩ := mem_enumL h
      exact ⟨i, e, List.mem_cons_of_mem _ h1, h2⟩
theorem bls_true (n : Nat) : blsOf (List.replicate n (D.bl true)) = some (List.replicate n true) := by
  have := blsOf_map (List.replicate n true)
  simpa using this
theorem map_const {α : Type} (xs : List α) (d : D) : xs.map (fun _ => d) = List.replicate xs.length d := by
  induction xs with
  | nil => rfl
  | cons x xs ih => simp [ih, List.replicate_succ]
theorem eqB_int (a b : Int) : eqB (.int a) (.int b) = some (decide (a = b)) := rfl
theorem set_back {α : Type} : ∀ {l : List (Option α)} {i : Nat} {x : Option α}, l[i]? = some none → (l.set i x).set i none = l
  | [], i, x, h => by cases h
  | a :: l, 0, x, h => by cases h; rfl
  | a :: l, i + 1, x, h => by
    show a :: (l.set i x).set i none = a :: l
    rw [set_back (l := l) h]
theorem lcL_mapN (f : D → D) {fe : Sg G → Rs G Ov} {i : Nat} {s0 : Sg G} (hs : s0.sl[i]? = some none) (ds : List D) (h : ∀ d ∈ ds, fe (setS s0 i (some (false, d))) = .ok (.vl (f d)) (setS s0 i (some (false, d)))) : lcL (.nm i) (evC (.bl true)) fe [i] ds s0 = .ok (ds.map f) s0 := by
  refine lcL_map _ _ fun d hd => ⟨setS s0 i (some (false, d)), .vl (f d), setS s0 i (some (false, d)), setS s0 i (some (false, d)), ?_, h d hd, rfl, ?_⟩
  · show (if i < s0.sl.length then _ else _) = _
    rw [if_pos (lt_of_get hs)]
  · show (⟨(s0.sl.set i (some (false, d))).set i none, s0.g⟩ : Sg G) = s0
    rw [set_back hs]
theorem s_check_steps {u0 u1 u3 : Nat} {x0 x1 x3 : Str} {m : Mir G} (h0 : Γ[u0]? = some (x0, .cst (.int 8))) (h1 : Γ[u1]? = some (x1, .cst (.int 3))) (h3 : Γ[u3]? = some (x3, .fn 3 m)) (hm : IsInt m) {s : List (List Nat)} {L : Nat} (S : StOk s L) (g : G) :
    runF N_check_steps.length (ex K Γ (c_check_steps u0 u1 u3)) [stepsD s] g = .ok .non g := by
  have a1 : (1 : Int) ≤ (s.length : Int) := by have := S.n1; omega
  have a2 : (s.length : Int) ≤ 8 := by have := S.n8; omega
  refine Exists.elim (forL_ind (t := .tp [1, 2]) (body := ex K Γ (c_check_steps_b1 u1 u3)) (fun ds st => (∀ d ∈ ds, ∃ i r, r ∈ s ∧ d = .tup [.int i, rowD r]) ∧ ∃ x y, st = ⟨[some (false, stepsD s), x, y, none], g⟩) (fun d ds st I => ?_) (enumL 0 (s.map rowD)) ⟨[some (false, stepsD s), none, none, none], g⟩ ⟨fun d hd => ?_, none, none, rfl⟩) fun s' ⟨e, i⟩ => ?_
  rotate_left
  · obtain ⟨i, e, h1, h2⟩ := mem_enumL hd
    obtain ⟨r, hr, rfl⟩ := List.mem_map.mp h1
    exact ⟨i, r, hr, h2⟩
  · obtain ⟨_, x, y, rfl⟩ := i
    unfold c_check_steps N_check_steps
    unfold stepsD at e ⊢
    simp [h0, a1, a2, e]
  · obtain ⟨I, x, y, rfl⟩ := I
    obtain ⟨j, r, hr, rfl⟩ := I _ List.mem_cons_self
    refine ⟨_, ⟨[some (false, stepsD s), some (false, .int j), some (false, rowD r), none], g⟩, rfl, ?_, fun d hd => I d (List.mem_cons_of_mem _ hd), _, _, rfl⟩
    have b1 : (1 : Int) ≤ (L : Int) := by have := S.l1; omega
    have b2 : (L : Int) ≤ 3 := by have := S.l3; omega
    have b3 : L2.atI (s.map rowD) 0 = some (rowD s[0]) := atI_map (j := 0) (by have := S.n1; omega)
    have b4 : s[0].length = L := S.len _ (List.getElem_mem _)
    have b5 := S.len r hr
    have b6 : L ≤ sizeLine := size_ge (by have := S.l3; omega)
    have b7 : lcL (.nm 3) (evC (.bl true)) (ev K Γ (c_check_steps_e1 u3)) [3] (r.map nat) ⟨[some (false, stepsD s), some (false, .int j), some (false, rowD r), none], g⟩ = .ok ((r.map nat).map fun _ => .bl true) ⟨[some (false, stepsD s), some (false, .int j), some (false, rowD r), none], g⟩ := by
      refine lcL_mapN _ rfl _ fun d hd => ?_
      obtain ⟨n, hn, rfl⟩ := List.mem_map.mp hd
      have := S.lt r hr n hn
      have c1 : (n : Int) ≤ (s.length : Int) - 1 := by omega
      unfold c_check_steps_e1 stepsD nat
      simp [h3, hm _ _ _ _, c1]
    rw [map_const, List.length_map] at b7
    unfold c_check_steps_b1
    unfold stepsD rowD at *
    simp [h1, b1, b2, b3, b4, b5, neO, eqB_int, b6, b7, allO, bls_true]
end
end BF
set_option Elab.async false
set_option linter.all false
set_option autoImplicit false
set_option maxRecDepth 100000
set_option maxHeartbeats 1000000
namespace BF
open PySem PySem.Spec PyProof.Rows L2
@[simp] theorem nat_eq (n : Nat) : nat n = .int n := rfl
@[simp] theorem rowD_eq (r : List Nat) : rowD r = .tup (r.map nat) := rfl
@[simp] theorem stepsD_eq (s : List (List Nat)) : stepsD s = .tup (s.map rowD) := rfl
@[simp] theorem partsD_eq (s : List (List Nat)) (good : List Nat) : partsD s good = .tup [stepsD s, rowD good] := rfl
@[simp] theorem machD_eq (s : List (List Nat)) (good : List Nat) : machD s good = .obj "Machine" "parts" (partsD s good) := rfl
@[simp] theorem atI_0 {α : Type} {x : α} {xs : List α} : L2.atI (x :: xs) 0 = some x := atI_nat (j := 0) rfl
@[simp] theorem atI_1 {α : Type} {x y : α} {xs : List α} : L2.atI (x :: y :: xs) 1 = some y := atI_nat (j := 1) rfl
@[simp] theorem atI_2 {α : Type} {x y z : α} {xs : List α} : L2.atI (x :: y :: z :: xs) 2 = some z := atI_nat (j := 2) rfl
theorem StOk.at0 {s : List (List Nat)} {L : Nat} (S : StOk s L) : ∃ r0 : List Nat, r0.length = L ∧ L2.atI (s.map rowD) 0 = some (.tup (r0.map nat)) := ⟨s[0]'S.n1, S.len _ (List.getElem_mem _), atI_map (j := 0) S.n1⟩
/-- where a row leads -/
def runS (s : List (List Nat)) : Nat → List Nat → Nat
  | h, [] => h
  | h, c :: r => runS s ((s.getD h []).getD c 0) r
theorem StOk.step {s : List (List Nat)} {L h c : Nat} (S : StOk s L) (hh : h < s.length) (hc : c < L) : (s.getD h []).getD c 0 < s.length ∧ L2.atI (s.map rowD) (h : Int) = some (rowD (s.getD h [])) ∧ L2.atI ((s.getD h []).map nat) (c : Int) = some (nat ((s.getD h []).getD c 0)) := by
  have e1 : s.getD h [] = s[h] := by rw [List.getD_eq_getElem?_getD, List.getElem?_eq_getElem hh]; rfl
  have m1 : s[h] ∈ s := List.getElem_mem hh
  have hl : c < s[h].length := by rw [S.len _ m1]; exact hc
  have e2 : s[h].getD c 0 = s[h][c] := by rw [List.getD_eq_getElem?_getD, List.getElem?_eq_getElem hl]; rfl
  rw [e1, e2]
  exact ⟨S.lt _ m1 _ (List.getElem_mem hl), atI_map hh, atI_map hl⟩
theorem runS_lt {s : List (List Nat)} {L : Nat} (S : StOk s L) : ∀ (r : List Nat) (h : Nat), h < s.length → (∀ c ∈ r, c < L) → runS s h r < s.length
  | [], h, hh, _ => hh
  | c :: r, h, hh, hr => runS_lt S r _ (S.step hh (hr c List.mem_cons_self)).1 fun c hc => hr c (List.mem_cons_of_mem _ hc)
section
variable {G : Type} {K : Env1} {Γ : Gam G}
theorem s_check_good {u : Nat} {x : Str} {m : Mir G} (h3 : Γ[u]? = some (x, .fn 3 m)) (hm : IsInt m) {n : Nat} {good : List Nat} (S : GdOk n good) (g : G) : runF N_check_good.length (ex K Γ (c_check_good u)) [rowD good, .int n] g = .ok .non g := by
  refine Exists.elim (forL_ind (t := .nm 3) (body := ex K Γ (c_check_good_b1 u)) (fun ds st => ∃ (rest : List Nat) (last : Int) (y : Option (Bool × D)), ds = rest.map nat ∧ (∀ x ∈ rest, last < (x : Int)) ∧ GdOk n rest ∧ st = ⟨[some (false, rowD good), some (false, .int n), some (false, .int last), y], g⟩) (fun d ds st I => ?_) (good.map nat) ⟨[some (false, rowD good), some (false, .int n), some (false, .int (-1)), none], g⟩ ⟨good, -1, none, rfl, fun x _ => by omega, S, rfl⟩) fun s' ⟨e, i⟩ => ?_
  · obtain ⟨rest, last, y, e, h1, h2, rfl⟩ := I
    cases rest with
    | nil => cases e
    | cons c rest =>
      cases e
      have a1 := h1 c List.mem_cons_self
      have a2 := h2.lt c List.mem_cons_self
      have p := List.pairwise_cons.mp h2.inc
      refine ⟨_, ⟨[some (false, rowD good), some (false, .int n), some (false, .int c), some (false, .int c)], g⟩, rfl, ?_, rest, c, _, rfl, fun x hx => by have := p.1 x hx; omega, ⟨p.2, fun x hx => h2.lt x (List.mem_cons_of_mem _ hx)⟩, rfl⟩
      unfold c_check_good_b1
      have b1 : last + 1 ≤ (c : Int) := by omega
      have b2 : (c : Int) ≤ (n : Int) - 1 := by omega
      simp [h3, hm _ _ _ _, b1, b2]
  · obtain ⟨rest, last, y, _, _, _, rfl⟩ := i
    unfold c_check_good N_check_good
    simp at e
    simp [e]
theorem s_Machine {u1 u2 : Nat} {x1 x2 : Str} {m1 m2 : Mir G} (h1 : Γ[u1]? = some (x1, .fn 1 m1)) (h2 : Γ[u2]? = some (x2, .fn 2 m2)) {s : List (List Nat)} {good : List Nat} {g : G} (k1 : m1 [stepsD s] g = .ok .non g) (k2 : m2 [rowD good, .int s.length] g = .ok .non g) :
    runI K Γ N_Machine_init.length (cp_Machine_init u1 u2) ce_Machine_init [stepsD s, rowD good] g = .ok (partsD s good) g := by
  unfold runI cp_Machine_init ce_Machine_init N_Machine_init
  simp at k1 k2
  simp [runIp, h1, h2, k1, k2]
theorem s_check_row {u1 u2 : Nat} {x1 x2 : Str} {m : Mir G} (h1 : Γ[u1]? = some (x1, .cst (.int 40))) (h2 : Γ[u2]? = some (x2, .fn 3 m)) (hm : IsInt m) {s : List (List Nat)} {L : Nat} {good row : List Nat} (S : StOk s L) (hr : ∀ c ∈ row, c < L) (hl : row.length ≤ 40) (g : G) :
    runF N_check_row.length (ex K Γ (c_check_row u1 u2)) [machD s good, rowD row] g = .ok .non g := by
  refine Exists.elim (forL_ind (t := .tp [2, 3]) (body := ex K Γ (c_check_row_b1 u2)) (fun ds st => (∀ d ∈ ds, ∃ (i : Int) (c : Nat), c < L ∧ d = .tup [.int i, nat c]) ∧ ∃ x y, st = ⟨[some (false, machD s good), some (false, rowD row), x, y], g⟩) (fun d ds st I => ?_) (enumL 0 (row.map nat)) ⟨[some (false, machD s good), some (false, rowD row), none, none], g⟩ ⟨fun d hd => ?_, none, none, rfl⟩) fun s' ⟨e, i⟩ => ?_
  · obtain ⟨I, x, y, rfl⟩ := I
    obtain ⟨j, c, hc, rfl⟩ := I _ List.mem_cons_self
    refine ⟨_, ⟨[some (false, machD s good), some (false, rowD row), some (false, .int j), some (false, nat c)], g⟩, rfl, ?_, fun d hd => I d (List.mem_cons_of_mem _ hd), _, _, rfl⟩
    obtain ⟨r0, b4, b3⟩ := S.at0
    have b6 : (c : Int) ≤ (L : Int) - 1 := by omega
    unfold c_check_row_b1
    simp [b3, b4, h2, hm _ _ _ _, b6]
  · obtain ⟨i, e, k1, k2⟩ := mem_enumL hd
    obtain ⟨c, hc, rfl⟩ := List.mem_map.mp k1
    exact ⟨i, c, hr c hc, k2⟩
  · obtain ⟨_, x, y, rfl⟩ := i
    have b1 : ¬ ((40 : Int) < (row.length : Int)) := by omega
    unfold c_check_row N_check_row
    simp at e
    simp [h1, b1, e]
theorem s_stand_behind {u : Nat} {x : Str} {m : Mir G} (h1 : Γ[u]? = some (x, .fn 2 m)) {s : List (List Nat)} {L : Nat} {good row : List Nat} (S : StOk s L) (hr : ∀ c ∈ row, c < L) (g : G) (hm : m [machD s good, rowD row] g = .ok .non g) :
    runF N_stand_behind.length (ex K Γ (c_stand_behind u)) [machD s good, rowD row] g = .ok (nat (runS s 0 row)) g := by
  refine Exists.elim (forL_ind (t := .nm 3) (body := ex K Γ c_stand_behind_b1) (fun ds st => ∃ (rest : List Nat) (h : Nat) (y : Option (Bool × D)), ds = rest.map nat ∧ h < s.length ∧ (∀ c ∈ rest, c < L) ∧ runS s h rest = runS s 0 row ∧ st = ⟨[some (false, machD s good), some (false, rowD row), some (false, nat h), y], g⟩) (fun d ds st I => ?_) (row.map nat) ⟨[some (false, machD s good), some (false, rowD row), some (false, nat 0), none], g⟩ ⟨row, 0, none, rfl, S.n1, hr, rfl, rfl⟩) fun s' ⟨e, i⟩ => ?_
  · obtain ⟨rest, h, y, e, k1, k2, k3, rfl⟩ := I
    cases rest with
    | nil => cases e
    | cons c rest =>
      cases e
      obtain ⟨p1, p2, p3⟩ := S.step k1 (k2 c List.mem_cons_self)
      refine ⟨_, ⟨[some (false, machD s good), some (false, rowD row), some (false, nat ((s.getD h []).getD c 0)), some (false, nat c)], g⟩, rfl, ?_, rest, _, _, rfl, p1, fun c hc => k2 c (List.mem_cons_of_mem _ hc), k3, rfl⟩
      unfold c_stand_behind_b1
      simp at p3 p2
      simp [p2, p3]
  · obtain ⟨rest, h, y, k0, k1, _, k3, rfl⟩ := i
    have : rest = [] := by cases rest with | nil => rfl | cons c r => cases k0
    subst this
    have k3 : h = runS s 0 row := k3
    unfold c_stand_behind N_stand_behind
    simp at e hm
    simp [h1, hm, e, k3]
end
end BF
set_option Elab.async false
set_option linter.all false
set_option autoImplicit false
set_option maxRecDepth 100000
set_option maxHeartbeats 1000000
namespace BF
open PySem PySem.Spec PyProof.Rows L2
@[simp] theorem plain_non (n : Nat) : plain n .non = true := by cases n <;> rfl
@[simp] theorem plain_bl (n : Nat) (b : Bool) : plain n (.bl b) = true := by cases n <;> rfl
@[simp] theorem plain_int (n : Nat) (i : Int) : plain n (.int i) = true := by cases n <;> rfl
@[simp] theorem plain_tup (n : Nat) (xs : List D) : plain (n + 1) (.tup xs) = xs.all (plain n) := rfl
@[simp] theorem plain_lst (n : Nat) (xs : List D) : plain (n + 1) (.lst xs) = xs.all (plain n) := rfl
theorem plain_nats (n : Nat) (r : List Nat) : (r.map nat).all (plain n) = true := by
  rw [List.all_eq_true]
  intro d hd
  obtain ⟨c, _, rfl⟩ := List.mem_map.mp hd
  simp
@[simp] theorem eqD_int (a b : Int) : eqD (.int a) (.int b) = decide (a = b) := by
  unfold eqD
  simp [toPy, PyData.eqv]
  by_cases h : a = b <;> simp [h]
@[simp] theorem eqD_bl (a b : Bool) : eqD (.bl a) (.bl b) = (a == b) := by
  unfold eqD
  simp [toPy, PyData.eqv]
@[simp] theorem eqD_non : eqD .non .non = true := by
  unfold eqD
  simp [toPy, PyData.eqv]
@[simp] theorem eqD_nil : eqD (.lst []) (.lst []) = true := by
  unfold eqD
  simp [toPy, toPys, PyData.eqv, PyData.eqvAll]
theorem any_nat (r : List Nat) (x : Nat) : ((r.map nat).any fun z => eqD z (.int x)) = decide (x ∈ r) := by
  induction r with
  | nil => rfl
  | cons c r ih =>
    rw [List.map_cons, List.any_cons, ih]
    simp
    by_cases h : c = x
    · subst h; simp
    · have h' : ¬ x = c := fun z => h z.symm
      have h2 : ¬ ((c : Int) = (x : Int)) := by omega
      simp [h, h', h2]
section
variable {G : Type} {K : Env1} {Γ : Gam G}
theorem s_lets {u : Nat} {x : Str} {m : Mir G} (h1 : Γ[u]? = some (x, .fn 2 m)) {s : List (List Nat)} {good row : List Nat} {e : Nat} (g : G) (hm : m [machD s good, rowD row] g = .ok (nat e) g) :
    runF N_lets.length (ex K Γ (c_lets u)) [machD s good, rowD row] g = .ok (.bl (decide (e ∈ good))) g := by
  unfold c_lets N_lets
  simp at hm
  have p := plain_nats 59 good
  have q := any_nat good e
  simp [h1, hm, inO, inB, p, q]
/-- data that _law_alike takes, to a depth -/
def okA : Nat → D → Bool
  | 0, _ => false
  | _ + 1, .non => true
  | _ + 1, .bl _ => true
  | _ + 1, .int _ => true
  | _ + 1, .str _ => true
  | n + 1, .lst xs => decide (xs.length ≤ 1000) && xs.all (okA n)
  | n + 1, .tup xs => decide (xs.length ≤ 1000) && xs.all (okA n)
  | _ + 1, _ => false
theorem mem_ints {n : Nat} {d : D} (h : d ∈ intsD 0 n) : ∃ k : Nat, k < n ∧ d = .int k := by
  rw [intsD_nat] at h
  obtain ⟨k, hk, rfl⟩ := List.mem_map.mp h
  exact ⟨k, List.mem_range.mp hk, rfl⟩
@[simp] theorem ints_len (lo : Int) (n : Nat) : (intsD lo n).length = n := by simp [intsD]
theorem s_alike {x : Str} {u : Nat} (hu : Γ.length = u) : ∀ (n : Nat) (d : D), okA n d = true → ∀ g : G, recM K Γ x 2 N__law_alike.length (c__law_alike u) n [d, d] g = .ok (.bl true) g := by
  intro n
  induction n with
  | zero => intro d h; cases h
  | succ n ih =>
    intro d h g
    have hl : (Γ ++ [(x, Gd.fn 2 (recM K Γ x 2 N__law_alike.length (c__law_alike u) n))])[u]? = some (x, .fn 2 (recM K Γ x 2 N__law_alike.length (c__law_alike u) n)) := by
      rw [← hu, List.getElem?_append_right (Nat.le_refl _), Nat.sub_self]; rfl
    have key : ∀ (xs : List D) (q : D), (q = .lst xs ∨ q = .tup xs) → xs.length ≤ 1000 → xs.all (okA n) = true → lcL (.nm 2) (ev K (Γ ++ [(x, Gd.fn 2 (recM K Γ x 2 N__law_alike.length (c__law_alike u) n))]) (c__law_alike_t1 u)) (ev K (Γ ++ [(x, Gd.fn 2 (recM K Γ x 2 N__law_alike.length (c__law_alike u) n))]) c__law_alike_e1) [2] (intsD 0 xs.length) ⟨[some (false, q), some (false, q), none], g⟩ = .ok [] ⟨[some (false, q), some (false, q), none], g⟩ := by
      intro xs q hq hz ha
      refine lcL_none _ fun d hd => ?_
      obtain ⟨k, hk, rfl⟩ := mem_ints hd
      have e1 : L2.atI xs (k : Int) = some xs[k] := atI_nat (List.getElem?_eq_getElem hk)
      have e2 := ih xs[k] (List.all_eq_true.mp ha _ (List.getElem_mem hk)) g
      refine ⟨_, .vl (.bl false), ⟨[some (false, q), some (false, q), some (false, .int k)], g⟩, rfl, ?_, rfl, rfl⟩
      unfold c__law_alike_t1
      generalize recM K Γ x 2 N__law_alike.length (c__law_alike u) n = m at hl e2 ⊢
      rcases hq with rfl | rfl <;> simp [hl, e1, e2]
    unfold recM
    rw [show N__law_alike.length = 3 from rfl] at *
    generalize recM K Γ x 2 3 (c__law_alike u) n = m at key hl ⊢
    cases d with
    | non => unfold c__law_alike; simp [eqO, eqB]
    | bl b => unfold c__law_alike; simp [eqO, eqB]
    | int i => unfold c__law_alike; simp [eqO, eqB]
    | str z => unfold c__law_alike; simp [eqO, eqB]
    | lst xs =>
      obtain ⟨h1, h2⟩ := ba (show (decide (xs.length ≤ 1000) && xs.all (okA n)) = true from h)
      have h1 : xs.length ≤ 1000 := of_decide_eq_true h1
      have k := key xs (.lst xs) (.inl rfl) h1 h2
      have r1 : rgB (xs.length : Int) = true := rgB_small (by omega) (by omega)
      have r3 := size_ge h1
      unfold c__law_alike
      simp [eqO, neO, eqB, r1, r3, k]
    | tup xs =>
      obtain ⟨h1, h2⟩ := ba (show (decide (xs.length ≤ 1000) && xs.all (okA n)) = true from h)
      have h1 : xs.length ≤ 1000 := of_decide_eq_true h1
      have k := key xs (.tup xs) (.inr rfl) h1 h2
      have r1 : rgB (xs.length : Int) = true := rgB_small (by omega) (by omega)
      have r3 := size_ge h1
      unfold c__law_alike
      simp [eqO, neO, eqB, r1, r3, k]
    | dct kvs => cases h
    | obj c f d => cases h
    | ref a => cases h
    | ty n => cases h
end
end BF
set_option Elab.async false
set_option linter.all false
set_option autoImplicit false
set_option maxRecDepth 100000
set_option maxHeartbeats 1000000
namespace BF
open PySem PySem.Spec PyProof.Rows L2
/-- what is known of a draw -/
def Nx (m : Mir Dr) (a0 : Addr) : Prop := ∀ (cap : Int) (g : Dr), 0 < cap → cap < 1073741824 → ∃ (v : Nat) (g' : Dr), m [.ref a0, .int cap] g = .ok (.int v) g' ∧ (v : Int) < cap
theorem nx_next (a0 : Addr) : Nx (mNext a0) a0 := fun cap g h1 h2 => next_eq h1 h2
def Pk (m : Mir Dr) (a0 : Addr) : Prop := ∀ (ds : List D) (g : Dr), ds ≠ [] → ds.length ≤ 1000 → ∃ d ∈ ds, ∃ g', m [.ref a0, .lst ds] g = .ok d g'
theorem all2_nats {n : Nat} {as bs : List D} (h : All2 (fun _ r => ∃ v : Nat, v < n ∧ r = nat v) as bs) : ∃ row : List Nat, bs = row.map nat ∧ row.length = as.length ∧ ∀ x ∈ row, x < n := by
  induction h with
  | nil => exact ⟨[], rfl, rfl, fun _ h => by cases h⟩
  | cons r _ ih =>
    obtain ⟨v, hv, rfl⟩ := r
    obtain ⟨row, h1, h2, h3⟩ := ih
    refine ⟨v :: row, by simp [h1], by simp [h2], fun x hx => ?_⟩
    rcases List.mem_cons.mp hx with rfl | hx
    · exact hv
    · exact h3 x hx
theorem seq_nx {G : Type} {K : Env1} {Γ : Gam G} {s r : Cs} {st st1 : Sg G} (h : ex K Γ s st = .nx st1) : ex K Γ (.cons s r) st = ex K Γ r st1 := by
  show exSeq (ex K Γ s) (ex K Γ r) st = _
  unfold exSeq
  rw [h]
section
variable {K : Env1} {Γ : Gam Dr} {a0 : Addr}
theorem s_pick {u : Nat} {x : Str} {m : Mir Dr} (h : Γ[u]? = some (x, .fn 2 m)) (hm : Nx m a0) : Pk (runF N__law_pick.length (ex K Γ (c__law_pick u))) a0 := by
  intro ds g hd hl
  have h0 : 0 < ds.length := List.length_pos_iff.mpr hd
  obtain ⟨v, g', e1, e2⟩ := hm ds.length g (by omega) (by omega)
  have hv : v < ds.length := by omega
  refine ⟨ds[v], List.getElem_mem hv, g', ?_⟩
  have e3 : L2.atI ds (v : Int) = some ds[v] := atI_nat (List.getElem?_eq_getElem hv)
  unfold c__law_pick N__law_pick
  simp [h, e1, e3]
theorem s_end {s : List (List Nat)} {L : Nat} {good row : List Nat} {h0 : Nat} (S : StOk s L) (hh : h0 < s.length) (hr : ∀ c ∈ row, c < L) (g : Dr) :
    runF N__law_end.length (ex K Γ c__law_end) [partsD s good, nat h0, rowD row] g = .ok (nat (runS s h0 row)) g := by
  refine Exists.elim (forL_ind (t := .nm 3) (body := ex K Γ c__law_end_b1) (fun ds st => ∃ (rest : List Nat) (h : Nat) (y : Option (Bool × D)), ds = rest.map nat ∧ h < s.length ∧ (∀ c ∈ rest, c < L) ∧ runS s h rest = runS s h0 row ∧ st = ⟨[some (false, partsD s good), some (false, nat h), some (false, rowD row), y], g⟩) (fun d ds st I => ?_) (row.map nat) ⟨[some (false, partsD s good), some (false, nat h0), some (false, rowD row), none], g⟩ ⟨row, h0, none, rfl, hh, hr, rfl, rfl⟩) fun s' ⟨e, i⟩ => ?_
  · obtain ⟨rest, h, y, e, k1, k2, k3, rfl⟩ := I
    cases rest with
    | nil => cases e
    | cons c rest =>
      cases e
      obtain ⟨p1, p2, p3⟩ := S.step k1 (k2 c List.mem_cons_self)
      refine ⟨_, ⟨[some (false, partsD s good), some (false, nat ((s.getD h []).getD c 0)), some (false, rowD row), some (false, nat c)], g⟩, rfl, ?_, rest, _, _, rfl, p1, fun c hc => k2 c (List.mem_cons_of_mem _ hc), k3, rfl⟩
      unfold c__law_end_b1
      simp at p3 p2
      simp [p2, p3]
  · obtain ⟨rest, h, y, k0, k1, _, k3, rfl⟩ := i
    have : rest = [] := by cases rest with | nil => rfl | cons c r => cases k0
    subst this
    have k3 : h = runS s h0 row := k3
    unfold c__law_end N__law_end
    simp at e
    simp [e, k3]
/-- rows of draws -/
theorem lc_draws {fe : Sg Dr → Rs Dr Ov} {i : Nat} {sl : List (Option (Bool × D))} {n : Nat} (hs : sl[i]? = some none) (h : ∀ d g, ∃ (v : Nat) (g' : Dr), fe ⟨sl.set i (some (false, d)), g⟩ = .ok (.vl (nat v)) ⟨sl.set i (some (false, d)), g'⟩ ∧ v < n) (L : Nat) (g : Dr) :
    ∃ (row : List Nat) (g' : Dr), lcL (.nm i) (evC (.bl true)) fe [i] (intsD 0 L) ⟨sl, g⟩ = .ok (row.map nat) ⟨sl, g'⟩ ∧ row.length = L ∧ ∀ x ∈ row, x < n := by
  obtain ⟨rs, s', h1, h2, h3⟩ := lcL_all (t := .nm i) (fe := fe) (own := [i]) (fun s => s.sl = sl) (fun _ r => ∃ v : Nat, v < n ∧ r = nat v) (intsD 0 L) ⟨sl, g⟩ (fun d hd s e => by
    obtain ⟨sl', g1⟩ := s
    have e' : sl = sl' := e.symm
    subst e'
    obtain ⟨v, g', k1, k2⟩ := h d g1
    refine ⟨⟨sl.set i (some (false, d)), g1⟩, .vl (nat v), ⟨sl.set i (some (false, d)), g'⟩, nat v, _, ?_, k1, rfl, ?_, v, k2, rfl⟩
    · show (if i < sl.length then _ else _) = _
      rw [if_pos (lt_of_get hs)]
      rfl
    · show (sl.set i (some (false, d))).set i none = sl
      rw [set_back hs]) rfl
  obtain ⟨row, e1, e2, e3⟩ := all2_nats h3
  obtain ⟨sl', g'⟩ := s'
  have e' : sl = sl' := h2.symm
  subst e'
  exact ⟨row, g', by rw [h1, e1], by rw [e2]; simp, e3⟩
theorem s_parts {u1 u2 : Nat} {x1 x2 : Str} {m1 m2 : Mir Dr} (h1 : Γ[u1]? = some (x1, .fn 2 m1)) (hn : Nx m1 a0) (h2 : Γ[u2]? = some (x2, .fn 2 m2)) (hp : Pk m2 a0) {L : Nat} (l1 : 1 ≤ L) (l3 : L ≤ 3) (g : Dr) :
    ∃ s good g', runF N__law_parts.length (ex K Γ (c__law_parts u1 u2)) [.ref a0, .int L] g = .ok (partsD s good) g' ∧ StOk s L ∧ GdOk s.length good := by
  obtain ⟨d, hd, g1, e1⟩ := hp [.int 3, .int 8] g (by simp) (by simp)
  obtain ⟨c, rfl, hc⟩ : ∃ c : Nat, d = .int c ∧ (c = 3 ∨ c = 8) := by
    simp only [List.mem_cons, List.not_mem_nil, or_false] at hd
    rcases hd with rfl | rfl
    · exact ⟨3, rfl, .inl rfl⟩
    · exact ⟨8, rfl, .inr rfl⟩
  obtain ⟨v, g2, e2, hv⟩ := hn c g1 (by omega) (by omega)
  obtain ⟨w, g3, e3, hw⟩ := hn 5 g2 (by omega) (by omega)
  obtain ⟨n, en⟩ : ∃ n : Nat, n = 1 + v := ⟨_, rfl⟩
  have en' : (1 : Int) + (v : Int) = (n : Int) := by omega
  have n8 : n ≤ 8 := by omega
  have n1 : 1 ≤ n := by omega
  let st0 (steps good : D) (x y : Option (Bool × D)) (g : Dr) : Sg Dr := ⟨[some (false, .ref a0), some (false, .int L), some (false, .int n), some (false, .int w), some (true, steps), some (true, good), x, y, none], g⟩
  have turn : ∀ (k : Nat) (s : List (List Nat)) (good : List Nat) (x y : Option (Bool × D)) (g : Dr), k < n → s.length = k → good.length ≤ k → ∃ (row good' : List Nat) (y' : Option (Bool × D)) (g' : Dr), ex K Γ (c__law_parts_b1 u2 u1) (st0 (.lst (s.map rowD)) (.lst (good.map nat)) (some (false, .int k)) y g) = .nx (st0 (.lst ((s ++ [row]).map rowD)) (.lst (good'.map nat)) (some (false, .int k)) y' g') ∧ row.length = L ∧ (∀ x ∈ row, x < n) ∧ (good' = good ∨ good' = good ++ [k]) := by
    intro k s good x y g hk hs hgl
    obtain ⟨low, gl, el, hl⟩ : ∃ (low : Nat) (gl : Dr), ex K Γ (.asg 7 (.ife (.bop true (.cons (.cmp .lt (.var 6) (.var 3)) (.cons (.cmp .lt (.bin .add (.var 6) (.cst (.int 1))) (.var 2)) .nil))) (.bin .add (.var 6) (.cst (.int 1))) (.call u2 (.cons (.var 0) (.cons (.lst (.cons (.cst (.int 0)) (.cons (.blt .min2 (.cons (.var 3) (.cons (.bin .sub (.var 2) (.cst (.int 1))) .nil))) .nil))) .nil))))) (st0 (.lst (s.map rowD)) (.lst (good.map nat)) (some (false, .int k)) y g) = .nx (st0 (.lst (s.map rowD)) (.lst (good.map nat)) (some (false, .int k)) (some (false, .int low)) gl) ∧ low < n := by
      by_cases c1 : (k : Int) < (w : Int) ∧ (k : Int) + 1 < (n : Int)
      · refine ⟨k + 1, g, ?_, by omega⟩
        simp [st0, c1.1, c1.2]
      · obtain ⟨d, hd, gl, el⟩ := hp [.int 0, .int (if (n : Int) - 1 < (w : Int) then (n : Int) - 1 else w)] g (by simp) (by simp)
        obtain ⟨low, rfl, hl⟩ : ∃ low : Nat, d = .int low ∧ low < n := by
          simp only [List.mem_cons, List.not_mem_nil, or_false] at hd
          rcases hd with rfl | rfl
          · exact ⟨0, rfl, by omega⟩
          · split
            · exact ⟨n - 1, by congr 1; omega, by omega⟩
            · exact ⟨w, rfl, by omega⟩
        refine ⟨low, gl, ?_, hl⟩
        by_cases c2 : (k : Int) < (w : Int)
        · have c3 : ¬ ((k : Int) + 1 < (n : Int)) := fun z => c1 ⟨c2, z⟩
          simp [st0, c2, c3, h2, el]
        · simp [st0, c2, h2, el]
    obtain ⟨row, gr, er, rl, rn⟩ := lc_draws (n := n) (fe := ev K Γ (c__law_parts_e1 u1)) (i := 8) (sl := [some (false, .ref a0), some (false, .int L), some (false, .int n), some (false, .int w), some (true, .lst (s.map rowD)), some (true, .lst (good.map nat)), some (false, .int k), some (false, .int low), none]) rfl (fun d g => by
      obtain ⟨v, g', k1, k2⟩ := hn ((n : Int) - low) g (by omega) (by omega)
      refine ⟨low + v, g', ?_, by omega⟩
      unfold c__law_parts_e1
      simp [h1, k1]) L gl
    obtain ⟨b, gb, eb, hb⟩ := hn 2 gr (by omega) (by omega)
    have r1 : rgB (L : Int) = true := rgB_small (by omega) (by omega)
    have r2 : L ≤ sizeLine := size_ge (by omega)
    have r3 : k < sizeLine := by have := size_ge (n := 1000) (by omega); omega
    have r4 : good.length < sizeLine := by have := size_ge (n := 1000) (by omega); omega
    refine ⟨row, if b = 0 then good ++ [k] else good, some (false, .int low), gb, ?_, rl, rn, by split <;> simp⟩
    unfold c__law_parts_b1
    refine (seq_nx el).trans ?_
    refine (seq_nx (st1 := st0 (.lst ((s ++ [row]).map rowD)) (.lst (good.map nat)) (some (false, .int k)) (some (false, .int low)) gr) ?_).trans ?_
    · simp [st0, r1, r2, er, hs, r3]
    · by_cases c : b = 0
      · subst c
        simp [st0, h1, eb, eqO, eqB, r4]
      · have c' : ¬ ((b : Int) = 0) := by omega
        simp [st0, h1, eb, eqO, eqB, c, c']
  refine Exists.elim (forL_ind (t := .nm 6) (body := ex K Γ (c__law_parts_b1 u2 u1)) (fun ds st => ∃ (k : Nat) (s : List (List Nat)) (good : List Nat) (x y : Option (Bool × D)) (g : Dr), ds = (List.range' k (n - k)).map nat ∧ k ≤ n ∧ s.length = k ∧ good.length ≤ k ∧ (∀ r ∈ s, r.length = L) ∧ (∀ r ∈ s, ∀ x ∈ r, x < n) ∧ GdOk k good ∧ st = st0 (.lst (s.map rowD)) (.lst (good.map nat)) x y g) (fun d ds st I => ?_) (intsD 0 n) (st0 (.lst []) (.lst []) none none g3) ⟨0, [], [], none, none, g3, by rw [intsD_nat, List.range_eq_range']; rfl, by omega, rfl, Nat.le_refl _, fun _ h => (by cases h), fun _ h => (by cases h), ⟨.nil, fun _ h => (by cases h)⟩, rfl⟩) fun s' ⟨e, i⟩ => ?_
  · obtain ⟨k, s, good, x, y, g, e, i1, i2, i3, i4, i5, i6, rfl⟩ := I
    cases q : n - k with
    | zero => rw [q] at e; cases e
    | succ m =>
      rw [q, List.range'_succ] at e
      cases e
      obtain ⟨row, good', y', g', t1, t2, t3, t4⟩ := turn k s good x y g (by omega) i2 i3
      refine ⟨st0 (.lst (s.map rowD)) (.lst (good.map nat)) (some (false, .int k)) y g, _, rfl, t1, k + 1, s ++ [row], good', _, _, g', by rw [show n - (k + 1) = m by omega], by omega, by simp [i2], ?_, fun r hr => ?_, fun r hr => ?_, ?_, rfl⟩
      · rcases t4 with rfl | rfl
        · omega
        · simp; omega
      · rcases List.mem_append.mp hr with h | h
        · exact i4 r h
        · cases List.mem_singleton.mp h; exact t2
      · rcases List.mem_append.mp hr with h | h
        · exact i5 r h
        · cases List.mem_singleton.mp h; exact t3
      · rcases t4 with rfl | rfl
        · exact ⟨i6.inc, fun x hx => by have := i6.lt x hx; omega⟩
        · refine ⟨List.pairwise_append.mpr ⟨i6.inc, List.pairwise_singleton _ _, fun a ha b hb => ?_⟩, fun x hx => ?_⟩
          · cases List.mem_singleton.mp hb; exact i6.lt a ha
          · rcases List.mem_append.mp hx with h | h
            · have := i6.lt x h; omega
            · cases List.mem_singleton.mp h; omega
  · obtain ⟨k, s, good, x, y, g', k0, i1, i2, i3, i4, i5, i6, rfl⟩ := i
    have kn : n - k = 0 := by
      cases q : n - k with
      | zero => rfl
      | succ m => rw [q, List.range'_succ] at k0; cases k0
    have kn : k = n := by omega
    subst kn
    refine ⟨s, good, g', ?_, ⟨by omega, by omega, l1, l3, i4, by rw [i2]; exact i5⟩, by rw [i2]; exact i6⟩
    have r1 : rgB (k : Int) = true := rgB_small (by omega) (by omega)
    unfold c__law_parts N__law_parts
    simp [st0] at e
    simp [h1, h2, e1, e2, e3, en', r1, e]
end
end BF
set_option Elab.async false
set_option linter.all false
set_option maxRecDepth 100000
set_option maxHeartbeats 0
namespace L02
open PySem PySem.Spec PyProof.Rows L2 BF
def top (i : Nat) : Stmt := PySem.Challenge.pw_butfewrows_k02_whole_rows.main.body.getD i (.Pass ⟨0, 0, 0, 0⟩)
def cls (i j : Nat) : Stmt := match top i with
  | .ClassDef _ _ _ b _ _ _ _ _ _ _ => b.getD j (.Pass ⟨0, 0, 0, 0⟩)
  | _ => .Pass ⟨0, 0, 0, 0⟩
def M0 : Pm := ⟨[], [], ([] : List PySem.Str), ([("Machine", "parts")] : List (PySem.Str × PySem.Str)), (["all", "bool", "enumerate", "int", "isinstance", "len", "list", "max", "min", "range", "str", "tuple"] : List PySem.Str)⟩
def Γ0 (K : Env1) (a0 : Addr) : Gam Dr := []
def M1 : Pm := { M0 with gn := M0.gn ++ ([("MOST_STANDS", .cst)] : List (PySem.Str × Gk)) }
def Γ1 (K : Env1) (a0 : Addr) : Gam Dr := Γ0 K a0 ++ ([("MOST_STANDS", .cst (.int 8))] : Gam Dr)
def M2 : Pm := { M1 with gn := M1.gn ++ ([("MOST_LETTERS", .cst)] : List (PySem.Str × Gk)) }
def Γ2 (K : Env1) (a0 : Addr) : Gam Dr := Γ1 K a0 ++ ([("MOST_LETTERS", .cst (.int 3))] : Gam Dr)
def M3 : Pm := { M2 with gn := M2.gn ++ ([("MOST_LONG", .cst)] : List (PySem.Str × Gk)) }
def Γ3 (K : Env1) (a0 : Addr) : Gam Dr := Γ2 K a0 ++ ([("MOST_LONG", .cst (.int 40))] : Gam Dr)
theorem sc9 : FnScope N_is_integer (["thing", "low", "high"] : List PySem.Str) (defScope (top 9)) := ⟨rfl, rfl, rfl, by decide +kernel, rfl, by decide +kernel, by decide +kernel⟩
def M4 : Pm := { M3 with gn := M3.gn ++ ([("is_integer", .fn 3)] : List (PySem.Str × Gk)) }
theorem ch9 : chB { M3 with N := N_is_integer } (defScope (top 9)) c_is_integer (defBody (top 9)) = true := by decide +kernel
def m_is_integer (K : Env1) (a0 : Addr) : Mir Dr := runF N_is_integer.length (ex K (Γ3 K a0) c_is_integer)
def Γ4 (K : Env1) (a0 : Addr) : Gam Dr := Γ3 K a0 ++ ([("is_integer", .fn 3 (m_is_integer K a0))] : Gam Dr)
theorem sc10 : FnScope N_check_steps (["thing"] : List PySem.Str) (defScope (top 10)) := ⟨rfl, rfl, rfl, by decide +kernel, rfl, by decide +kernel, by decide +kernel⟩
def M5 : Pm := { M4 with gn := M4.gn ++ ([("check_steps", .fn 1)] : List (PySem.Str × Gk)) }
theorem ch10 : chB { M4 with N := N_check_steps } (defScope (top 10)) (c_check_steps 0 1 3) (defBody (top 10)) = true := by decide +kernel
def m_check_steps (K : Env1) (a0 : Addr) : Mir Dr := runF N_check_steps.length (ex K (Γ4 K a0) (c_check_steps 0 1 3))
def Γ5 (K : Env1) (a0 : Addr) : Gam Dr := Γ4 K a0 ++ ([("check_steps", .fn 1 (m_check_steps K a0))] : Gam Dr)
theorem sc11 : FnScope N_check_good (["thing", "stands"] : List PySem.Str) (defScope (top 11)) := ⟨rfl, rfl, rfl, by decide +kernel, rfl, by decide +kernel, by decide +kernel⟩
def M6 : Pm := { M5 with gn := M5.gn ++ ([("check_good", .fn 2)] : List (PySem.Str × Gk)) }
theorem ch11 : chB { M5 with N := N_check_good } (defScope (top 11)) (c_check_good 3) (defBody (top 11)) = true := by decide +kernel
def m_check_good (K : Env1) (a0 : Addr) : Mir Dr := runF N_check_good.length (ex K (Γ5 K a0) (c_check_good 3))
def Γ6 (K : Env1) (a0 : Addr) : Gam Dr := Γ5 K a0 ++ ([("check_good", .fn 2 (m_check_good K a0))] : Gam Dr)
theorem sc12 : FnScope N_Machine_init (["self", "steps", "good"] : List PySem.Str) (defScope (cls 12 0)) := ⟨rfl, rfl, rfl, by decide +kernel, rfl, by decide +kernel, by decide +kernel⟩
theorem ch12 : chIni { M6 with N := N_Machine_init } (defScope (cls 12 0)) "self" "parts" (cp_Machine_init 4 5) ce_Machine_init (defBody (cls 12 0)) = true := by decide +kernel
def m_Machine (K : Env1) (a0 : Addr) : Mir Dr := runI K (Γ6 K a0) N_Machine_init.length (cp_Machine_init 4 5) ce_Machine_init
def M7 : Pm := { M6 with gn := M6.gn ++ ([("Machine", .fn 2)] : List (PySem.Str × Gk)) }
def Γ7 (K : Env1) (a0 : Addr) : Gam Dr := Γ6 K a0 ++ ([("Machine", .mk "Machine" "parts" 2 (m_Machine K a0))] : Gam Dr)
theorem sc13 : FnScope N_check_row (["machine", "thing"] : List PySem.Str) (defScope (top 13)) := ⟨rfl, rfl, rfl, by decide +kernel, rfl, by decide +kernel, by decide +kernel⟩
def M8 : Pm := { M7 with gn := M7.gn ++ ([("check_row", .fn 2)] : List (PySem.Str × Gk)) }
theorem ch13 : chB { M7 with N := N_check_row } (defScope (top 13)) (c_check_row 2 3) (defBody (top 13)) = true := by decide +kernel
def m_check_row (K : Env1) (a0 : Addr) : Mir Dr := runF N_check_row.length (ex K (Γ7 K a0) (c_check_row 2 3))
def Γ8 (K : Env1) (a0 : Addr) : Gam Dr := Γ7 K a0 ++ ([("check_row", .fn 2 (m_check_row K a0))] : Gam Dr)
theorem sc14 : FnScope N_stand_behind (["machine", "row"] : List PySem.Str) (defScope (top 14)) := ⟨rfl, rfl, rfl, by decide +kernel, rfl, by decide +kernel, by decide +kernel⟩
def M9 : Pm := { M8 with gn := M8.gn ++ ([("stand_behind", .fn 2)] : List (PySem.Str × Gk)) }
theorem ch14 : chB { M8 with N := N_stand_behind } (defScope (top 14)) (c_stand_behind 7) (defBody (top 14)) = true := by decide +kernel
def m_stand_behind (K : Env1) (a0 : Addr) : Mir Dr := runF N_stand_behind.length (ex K (Γ8 K a0) (c_stand_behind 7))
def Γ9 (K : Env1) (a0 : Addr) : Gam Dr := Γ8 K a0 ++ ([("stand_behind", .fn 2 (m_stand_behind K a0))] : Gam Dr)
theorem sc15 : FnScope N_lets (["machine", "row"] : List PySem.Str) (defScope (top 15)) := ⟨rfl, rfl, rfl, by decide +kernel, rfl, by decide +kernel, by decide +kernel⟩
def M10 : Pm := { M9 with gn := M9.gn ++ ([("lets", .fn 2)] : List (PySem.Str × Gk)) }
theorem ch15 : chB { M9 with N := N_lets } (defScope (top 15)) (c_lets 8) (defBody (top 15)) = true := by decide +kernel
def m_lets (K : Env1) (a0 : Addr) : Mir Dr := runF N_lets.length (ex K (Γ9 K a0) (c_lets 8))
def Γ10 (K : Env1) (a0 : Addr) : Gam Dr := Γ9 K a0 ++ ([("lets", .fn 2 (m_lets K a0))] : Gam Dr)
theorem sc17 : FnScope ["_law_script", "_law_seed", "_law_state", "_law_cell"] ["_law_script", "_law_seed"] (defScope (top 17)) := ⟨rfl, rfl, rfl, by decide +kernel, rfl, by decide +kernel, by decide +kernel⟩
def M11 : Pm := { M10 with gn := M10.gn ++ ([("_law_next", .fn 2)] : List (PySem.Str × Gk)) }
def Γ11 (K : Env1) (a0 : Addr) : Gam Dr := Γ10 K a0 ++ ([("_law_next", .fn 2 (mNext a0))] : Gam Dr)
theorem sc18 : FnScope ["_law_h", "_law_cap", "_law_cell"] ["_law_h", "_law_cap"] (defScope (top 18)) := ⟨rfl, rfl, rfl, by decide +kernel, rfl, by decide +kernel, by decide +kernel⟩
theorem sc19 : FnScope N__law_alike (["_law_found", "_law_due"] : List PySem.Str) (defScope (top 19)) := ⟨rfl, rfl, rfl, by decide +kernel, rfl, by decide +kernel, by decide +kernel⟩
def M12 : Pm := { M11 with gn := M11.gn ++ ([("_law_alike", .fn 2)] : List (PySem.Str × Gk)) }
theorem ch19 : chB { M12 with N := N__law_alike } (defScope (top 19)) (c__law_alike 11) (defBody (top 19)) = true := by decide +kernel
def r__law_alike (K : Env1) (a0 : Addr) : Nat → Mir Dr := recM K (Γ11 K a0) "_law_alike" 2 N__law_alike.length (c__law_alike 11)
def m__law_alike (K : Env1) (a0 : Addr) : Mir Dr := r__law_alike K a0 8
def Γ12 (K : Env1) (a0 : Addr) : Gam Dr := Γ11 K a0 ++ ([("_law_alike", .fn 2 (m__law_alike K a0))] : Gam Dr)
theorem sc20 : FnScope N__law_pick (["_law_h", "_law_things"] : List PySem.Str) (defScope (top 20)) := ⟨rfl, rfl, rfl, by decide +kernel, rfl, by decide +kernel, by decide +kernel⟩
def M13 : Pm := { M12 with gn := M12.gn ++ ([("_law_pick", .fn 2)] : List (PySem.Str × Gk)) }
theorem ch20 : chB { M12 with N := N__law_pick } (defScope (top 20)) (c__law_pick 10) (defBody (top 20)) = true := by decide +kernel
def m__law_pick (K : Env1) (a0 : Addr) : Mir Dr := runF N__law_pick.length (ex K (Γ12 K a0) (c__law_pick 10))
def Γ13 (K : Env1) (a0 : Addr) : Gam Dr := Γ12 K a0 ++ ([("_law_pick", .fn 2 (m__law_pick K a0))] : Gam Dr)
theorem sc21 : FnScope N__law_parts (["_law_h", "_law_letters"] : List PySem.Str) (defScope (top 21)) := ⟨rfl, rfl, rfl, by decide +kernel, rfl, by decide +kernel, by decide +kernel⟩
def M14 : Pm := { M13 with gn := M13.gn ++ ([("_law_parts", .fn 2)] : List (PySem.Str × Gk)) }
theorem ch21 : chB { M13 with N := N__law_parts } (defScope (top 21)) (c__law_parts 10 12) (defBody (top 21)) = true := by decide +kernel
def m__law_parts (K : Env1) (a0 : Addr) : Mir Dr := runF N__law_parts.length (ex K (Γ13 K a0) (c__law_parts 10 12))
def Γ14 (K : Env1) (a0 : Addr) : Gam Dr := Γ13 K a0 ++ ([("_law_parts", .fn 2 (m__law_parts K a0))] : Gam Dr)
theorem sc22 : FnScope N__law_end (["_law_parts_here", "_law_stand", "_law_row"] : List PySem.Str) (defScope (top 22)) := ⟨rfl, rfl, rfl, by decide +kernel, rfl, by decide +kernel, by decide +kernel⟩
def M15 : Pm := { M14 with gn := M14.gn ++ ([("_law_end", .fn 3)] : List (PySem.Str × Gk)) }
theorem ch22 : chB { M14 with N := N__law_end } (defScope (top 22)) c__law_end (defBody (top 22)) = true := by decide +kernel
def m__law_end (K : Env1) (a0 : Addr) : Mir Dr := runF N__law_end.length (ex K (Γ14 K a0) c__law_end)
def Γ15 (K : Env1) (a0 : Addr) : Gam Dr := Γ14 K a0 ++ ([("_law_end", .fn 3 (m__law_end K a0))] : Gam Dr)
def N1 : List PySem.Str := (["_law_turn", "_law_letters", "_law_parts_here", "_law_machine", "_law_many", "_law_row", "_law_end_here", "_law_k"] : List PySem.Str)
def c_law_e1 (u__law_next : Nat) : Ce :=
  (.call u__law_next (.cons (.var 1) (.cons (.var 3) .nil)))
def c_law_b1 (u__law_next u__law_end u__law_alike u_stand_behind u_lets : Nat) : Cs :=
  (.cons (.asg 7 (.blt .tuple (.cons (.lc0 (c_law_e1 u__law_next) (.nm 9) (.rg1 (.var 6)) [9]) .nil)))
  (.cons (.asg 8 (.call u__law_end (.cons (.var 4) (.cons (.cst (.int 0)) (.cons (.var 7) .nil)))))
  (.cons (.ife (.not (.call u__law_alike (.cons (.lst (.cons (.call u_stand_behind (.cons (.var 5) (.cons (.var 7) .nil))) (.cons (.call u_lets (.cons (.var 5) (.cons (.var 7) .nil))) .nil))) (.cons (.lst (.cons (.var 8) (.cons (.cmp .isin (.var 8) (.ix (.var 4) (.cst (.int 1)))) .nil))) .nil)))) (.cons (.ret (.cst (.bl false)))
  .nil) .nil)
  .nil)))
def c_law_b2 (u__law_next u__law_parts u_Machine u__law_pick u__law_end u__law_alike u_stand_behind u_lets : Nat) : Cs :=
  (.cons (.asg 3 (.bin .add (.cst (.int 1)) (.call u__law_next (.cons (.var 1) (.cons (.cst (.int 3)) .nil)))))
  (.cons (.asg 4 (.call u__law_parts (.cons (.var 1) (.cons (.var 3) .nil))))
  (.cons (.asg 5 (.call u_Machine (.cons (.ix (.var 4) (.cst (.int 0))) (.cons (.ix (.var 4) (.cst (.int 1))) .nil))))
  (.cons (.for_ (.nm 6) (.seq (.lst (.cons (.cst (.int 0)) (.cons (.cst (.int 1)) (.cons (.cst (.int 2)) (.cons (.cst (.int 5)) (.cons (.call u__law_pick (.cons (.var 1) (.cons (.lst (.cons (.cst (.int 10)) (.cons (.cst (.int 40)) .nil))) .nil))) .nil))))))) (c_law_b1 u__law_next u__law_end u__law_alike u_stand_behind u_lets))
  .nil))))
def c_law0 (u__law_next u__law_parts u_Machine u__law_pick u__law_end u__law_alike u_stand_behind u_lets : Nat) : Cs :=
  (.cons (.for_ (.nm 2) (.rg1 (.cst (.int 4))) (c_law_b2 u__law_next u__law_parts u_Machine u__law_pick u__law_end u__law_alike u_stand_behind u_lets))
  (.cons (.ret (.cst (.bl true)))
  .nil))
abbrev c_law : Cs := c_law0 10 13 6 12 14 11 8 9
theorem sc23 : FnScope ("_law_script" :: "_law_h" :: N1) ["_law_script"] (defScope (top 23)) := ⟨rfl, rfl, rfl, by decide +kernel, rfl, by decide +kernel, by decide +kernel⟩
theorem ch23 : chB { M15 with N := "_law_script" :: "_law_h" :: N1 } (defScope (top 23)) c_law (defBody (top 23)).tail = true := by decide +kernel
end L02
set_option linter.all false
set_option maxRecDepth 100000
set_option maxHeartbeats 1000000
namespace L02
open PySem PySem.Spec PyProof.Rows L2 BF
theorem q_pick (K : Env1) (a0 : Addr) : Pk (m__law_pick K a0) a0 := s_pick (x := "_law_next") rfl (nx_next a0)
theorem q_parts (K : Env1) (a0 : Addr) {L : Nat} (l1 : 1 ≤ L) (l3 : L ≤ 3) (g : Dr) : ∃ s good g', m__law_parts K a0 [.ref a0, .int L] g = .ok (partsD s good) g' ∧ StOk s L ∧ GdOk s.length good := s_parts (x1 := "_law_next") (x2 := "_law_pick") rfl (nx_next a0) rfl (q_pick K a0) l1 l3 g
theorem q_int (K : Env1) (a0 : Addr) : IsInt (m_is_integer K a0) := s_is_integer
theorem q_machine (K : Env1) (a0 : Addr) {s : List (List Nat)} {L : Nat} {good : List Nat} (S : StOk s L) (hg : GdOk s.length good) (g : Dr) : m_Machine K a0 [stepsD s, rowD good] g = .ok (partsD s good) g :=
  s_Machine (x1 := "check_steps") (x2 := "check_good") (m1 := m_check_steps K a0) (m2 := m_check_good K a0) rfl rfl (s_check_steps (x0 := "MOST_STANDS") (x1 := "MOST_LETTERS") (x3 := "is_integer") rfl rfl rfl (q_int K a0) S g) (s_check_good (x := "is_integer") rfl (q_int K a0) hg g)
theorem q_behind (K : Env1) (a0 : Addr) {s : List (List Nat)} {L : Nat} {good row : List Nat} (S : StOk s L) (hr : ∀ c ∈ row, c < L) (hl : row.length ≤ 40) (g : Dr) : m_stand_behind K a0 [machD s good, rowD row] g = .ok (nat (runS s 0 row)) g :=
  s_stand_behind (x := "check_row") (m := m_check_row K a0) rfl S hr g (s_check_row (x1 := "MOST_LONG") (x2 := "is_integer") rfl rfl (q_int K a0) S hr hl g)
theorem q_lets (K : Env1) (a0 : Addr) {s : List (List Nat)} {L : Nat} {good row : List Nat} (S : StOk s L) (hr : ∀ c ∈ row, c < L) (hl : row.length ≤ 40) (g : Dr) : m_lets K a0 [machD s good, rowD row] g = .ok (.bl (decide (runS s 0 row ∈ good))) g :=
  s_lets (x := "stand_behind") (m := m_stand_behind K a0) rfl g (q_behind K a0 S hr hl g)
theorem q_alike (K : Env1) (a0 : Addr) (d : D) (h : okA 8 d = true) (g : Dr) : m__law_alike K a0 [d, d] g = .ok (.bl true) g := s_alike (Γ := Γ11 K a0) rfl 8 d h g
theorem q_end (K : Env1) (a0 : Addr) {s : List (List Nat)} {L : Nat} {good row : List Nat} (S : StOk s L) (hr : ∀ c ∈ row, c < L) (g : Dr) : m__law_end K a0 [partsD s good, nat 0, rowD row] g = .ok (nat (runS s 0 row)) g := s_end S S.n1 hr g
section
variable (K : Env1) (a a0 : Addr)
def st (L s : D) (m x6 x7 x8 : Option (Bool × D)) (g : Dr) (x2 : Option (Bool × D)) : Sg Dr := ⟨[some (false, .ref a), some (false, .ref a0), x2, some (false, L), some (false, s), m, x6, x7, x8, none], g⟩
theorem inner {L k : Nat} {s : List (List Nat)} {good : List Nat} (S : StOk s L) (hk : k ≤ 40) (x7 x8 x2 : Option (Bool × D)) (g : Dr) :
    ∃ y7 y8 g', ex K (Γ15 K a0) (c_law_b1 10 14 11 8 9) (st a a0 (.int L) (partsD s good) (some (false, machD s good)) (some (false, .int k)) x7 x8 g x2) = .nx (st a a0 (.int L) (partsD s good) (some (false, machD s good)) (some (false, .int k)) y7 y8 g' x2) := by
  have l1 := S.l1
  have l3 := S.l3
  obtain ⟨row, gr, er, rl, rn⟩ := lc_draws (n := L) (fe := ev K (Γ15 K a0) (c_law_e1 10)) (i := 9) (sl := [some (false, .ref a), some (false, .ref a0), x2, some (false, .int L), some (false, partsD s good), some (false, machD s good), some (false, .int k), x7, x8, none]) rfl (fun d g => by
    obtain ⟨v, g', k1, k2⟩ := nx_next a0 L g (by omega) (by omega)
    refine ⟨v, g', ?_, by omega⟩
    have h : (Γ15 K a0)[10]? = some (("_law_next" : PySem.Str), Gd.fn 2 (mNext a0)) := rfl
    unfold c_law_e1
    simp [h, k1]) k g
  have h10 : (Γ15 K a0)[10]? = some (("_law_next" : PySem.Str), Gd.fn 2 (mNext a0)) := rfl
  have h14 : (Γ15 K a0)[14]? = some (("_law_end" : PySem.Str), Gd.fn 3 (m__law_end K a0)) := rfl
  have h11 : (Γ15 K a0)[11]? = some (("_law_alike" : PySem.Str), Gd.fn 2 (m__law_alike K a0)) := rfl
  have h8 : (Γ15 K a0)[8]? = some (("stand_behind" : PySem.Str), Gd.fn 2 (m_stand_behind K a0)) := rfl
  have h9 : (Γ15 K a0)[9]? = some (("lets" : PySem.Str), Gd.fn 2 (m_lets K a0)) := rfl
  have e1 := q_end K a0 (good := good) S rn gr
  have e2 := q_behind K a0 (good := good) S rn (by omega) gr
  have e3 := q_lets K a0 (good := good) S rn (by omega) gr
  have e4 := q_alike K a0 (.lst [.int (runS s 0 row), .bl (decide (runS s 0 row ∈ good))]) rfl gr
  have p := plain_nats 59 good
  have q := any_nat good (runS s 0 row)
  have r1 : rgB (k : Int) = true := rgB_small (by omega) (by omega)
  have r2 : k ≤ sizeLine := size_ge (by omega)
  refine ⟨some (false, rowD row), some (false, nat (runS s 0 row)), gr, ?_⟩
  unfold c_law_b1
  simp at e1 e2 e3 er
  simp [st, r1, r2, er, h14, e1, h8, e2, h9, e3, inO, inB, p, q, h11, e4]
theorem outer (x2 x3 x4 x5 x6 x7 x8 : Option (Bool × D)) (g : Dr) : ∃ y3 y4 y5 y6 y7 y8 g', ex K (Γ15 K a0) (c_law_b2 10 13 6 12 14 11 8 9) ⟨[some (false, .ref a), some (false, .ref a0), x2, x3, x4, x5, x6, x7, x8, none], g⟩ = .nx ⟨[some (false, .ref a), some (false, .ref a0), x2, y3, y4, y5, y6, y7, y8, none], g'⟩ := by
  obtain ⟨v, g1, k1, k2⟩ := nx_next a0 3 g (by omega) (by omega)
  obtain ⟨L, eL⟩ : ∃ L : Nat, L = 1 + v := ⟨_, rfl⟩
  have eL' : (1 : Int) + (v : Int) = (L : Int) := by omega
  obtain ⟨s, good, g2, k3, S, hgd⟩ := q_parts K a0 (L := L) (by omega) (by omega) g1
  have k4 := q_machine K a0 S hgd g2
  obtain ⟨d, hd, g3, k5⟩ := q_pick K a0 [.int 10, .int 40] g2 (by simp) (by simp)
  obtain ⟨c, rfl, hc⟩ : ∃ c : Nat, d = .int c ∧ c ≤ 40 := by
    simp only [List.mem_cons, List.not_mem_nil, or_false] at hd
    rcases hd with rfl | rfl
    · exact ⟨10, rfl, by omega⟩
    · exact ⟨40, rfl, by omega⟩
  have h10 : (Γ15 K a0)[10]? = some (("_law_next" : PySem.Str), Gd.fn 2 (mNext a0)) := rfl
  have h13 : (Γ15 K a0)[13]? = some (("_law_parts" : PySem.Str), Gd.fn 2 (m__law_parts K a0)) := rfl
  have h6 : (Γ15 K a0)[6]? = some (("Machine" : PySem.Str), Gd.mk "Machine" "parts" 2 (m_Machine K a0)) := rfl
  have h12 : (Γ15 K a0)[12]? = some (("_law_pick" : PySem.Str), Gd.fn 2 (m__law_pick K a0)) := rfl
  refine Exists.elim (forL_ind (t := .nm 6) (body := ex K (Γ15 K a0) (c_law_b1 10 14 11 8 9)) (fun ds t => (∀ d ∈ ds, ∃ k : Nat, k ≤ 40 ∧ d = .int k) ∧ ∃ x6 x7 x8 g, t = st a a0 (.int L) (partsD s good) (some (false, machD s good)) x6 x7 x8 g x2) (fun d ds t I => ?_) [.int 0, .int 1, .int 2, .int 5, .int c] (st a a0 (.int L) (partsD s good) (some (false, machD s good)) x6 x7 x8 g3 x2) ⟨fun d hd => ?_, _, _, _, _, rfl⟩) fun s' ⟨e, i⟩ => ?_
  · obtain ⟨I, y6, y7, y8, g, rfl⟩ := I
    obtain ⟨k, hk, rfl⟩ := I _ List.mem_cons_self
    obtain ⟨z7, z8, g', ez⟩ := inner K a a0 (good := good) S hk y7 y8 x2 g
    exact ⟨_, _, rfl, ez, fun d hd => I d (List.mem_cons_of_mem _ hd), _, _, _, _, rfl⟩
  · simp only [List.mem_cons, List.not_mem_nil, or_false] at hd
    rcases hd with rfl | rfl | rfl | rfl | rfl
    · exact ⟨0, by omega, rfl⟩
    · exact ⟨1, by omega, rfl⟩
    · exact ⟨2, by omega, rfl⟩
    · exact ⟨5, by omega, rfl⟩
    · exact ⟨c, hc, rfl⟩
  · obtain ⟨_, y6, y7, y8, g', rfl⟩ := i
    refine ⟨some (false, .int L), some (false, partsD s good), some (false, machD s good), y6, y7, y8, g', ?_⟩
    unfold c_law_b2
    simp [st] at e k3 k4
    simp [h10, k1, eL', h13, k3, h6, k4, h12, k5, e]
end
theorem hrun (K : Env1) (a a0 : Addr) (g : Dr) : ∃ g', ex K (Γ15 K a0) c_law ⟨some (false, .ref a) :: some (false, .ref a0) :: List.replicate N1.length none, g⟩ = .rt (.bl true) g' := by
  refine Exists.elim (forL_ind (t := .nm 2) (body := ex K (Γ15 K a0) (c_law_b2 10 13 6 12 14 11 8 9)) (fun ds t => ∃ x2 x3 x4 x5 x6 x7 x8 g, t = ⟨[some (false, .ref a), some (false, .ref a0), x2, x3, x4, x5, x6, x7, x8, none], g⟩) (fun d ds t I => ?_) (intsD 0 4) ⟨[some (false, .ref a), some (false, .ref a0), none, none, none, none, none, none, none, none], g⟩ ⟨_, _, _, _, _, _, _, _, rfl⟩) fun s' ⟨e, i⟩ => ?_
  · obtain ⟨x2, x3, x4, x5, x6, x7, x8, g, rfl⟩ := I
    obtain ⟨y3, y4, y5, y6, y7, y8, g', ez⟩ := outer K a a0 (some (false, d)) x3 x4 x5 x6 x7 x8 g
    exact ⟨_, _, rfl, ez, _, _, _, _, _, _, _, _, rfl⟩
  · obtain ⟨x2, x3, x4, x5, x6, x7, x8, g', rfl⟩ := i
    refine ⟨g', ?_⟩
    have r1 : rgB 4 = true := rfl
    unfold c_law c_law0 N1
    simp [r1, e]
end L02
set_option Elab.async false
set_option linter.all false
set_option maxRecDepth 100000
set_option maxHeartbeats 0
namespace L02
open PySem PySem.Spec PyProof.Rows L2 BF
def d_is_integer : He.DefD := ⟨("is_integer", none), "is_integer", "is_integer", defArgs (top 9), defBody (top 9), defScope (top 9), [], []⟩
def d_check_steps : He.DefD := ⟨("check_steps", none), "check_steps", "check_steps", defArgs (top 10), defBody (top 10), defScope (top 10), [], []⟩
def d_check_good : He.DefD := ⟨("check_good", none), "check_good", "check_good", defArgs (top 11), defBody (top 11), defScope (top 11), [], []⟩
def d_Machine : He.DefD := ⟨("Machine", some "__init__"), "__init__", "Machine.__init__", defArgs (cls 12 0), defBody (cls 12 0), defScope (cls 12 0), [], []⟩
def d_check_row : He.DefD := ⟨("check_row", none), "check_row", "check_row", defArgs (top 13), defBody (top 13), defScope (top 13), [], []⟩
def d_stand_behind : He.DefD := ⟨("stand_behind", none), "stand_behind", "stand_behind", defArgs (top 14), defBody (top 14), defScope (top 14), [], []⟩
def d_lets : He.DefD := ⟨("lets", none), "lets", "lets", defArgs (top 15), defBody (top 15), defScope (top 15), [], []⟩
def d__law_mix : He.DefD := ⟨("_law_mix", none), "_law_mix", "_law_mix", defArgs (top 17), defBody (top 17), defScope (top 17), [], []⟩
def d__law_next : He.DefD := ⟨("_law_next", none), "_law_next", "_law_next", defArgs (top 18), defBody (top 18), defScope (top 18), [], []⟩
def d__law_alike : He.DefD := ⟨("_law_alike", none), "_law_alike", "_law_alike", defArgs (top 19), defBody (top 19), defScope (top 19), [], []⟩
def d__law_pick : He.DefD := ⟨("_law_pick", none), "_law_pick", "_law_pick", defArgs (top 20), defBody (top 20), defScope (top 20), [], []⟩
def d__law_parts : He.DefD := ⟨("_law_parts", none), "_law_parts", "_law_parts", defArgs (top 21), defBody (top 21), defScope (top 21), [], []⟩
def d__law_end : He.DefD := ⟨("_law_end", none), "_law_end", "_law_end", defArgs (top 22), defBody (top 22), defScope (top 22), [], []⟩
def d_law : He.DefD := ⟨("law", none), "law", "law", defArgs (top 23), defBody (top 23), defScope (top 23), [], []⟩
def fn : List He.DefD := [d_is_integer, d_check_steps, d_check_good, d_Machine, d_check_row, d_stand_behind, d_lets, d__law_mix, d__law_next, d__law_alike, d__law_pick, d__law_parts, d__law_end, d_law]
def fa : List He.Fa := [.int "MOST_STANDS" 8, .int "MOST_LETTERS" 3, .int "MOST_LONG" 40, .glo "is_integer", .glo "check_steps", .glo "check_good", .glo "Machine", .cls "Machine", .mkr "Machine", .glo "check_row", .glo "stand_behind", .glo "lets", .glo "_law_mix", .glo "_law_next", .glo "_law_alike", .glo "_law_pick", .glo "_law_parts", .glo "_law_end", .glo "law", .free "all", .free "bool", .free "enumerate", .free "int", .free "isinstance", .free "len", .free "list", .free "max", .free "min", .free "range", .free "str", .free "tuple", .noat "Machine" "parts"]
def loose : List PySem.Str := (["MachineError", "BadSteps", "BadGood", "BadRow", "MOST_STANDS", "MOST_LETTERS", "MOST_LONG", "is_integer", "check_steps", "check_good", "Machine", "check_row", "stand_behind", "lets", "_law_mix", "_law_next", "_law_alike", "_law_pick", "_law_parts", "_law_end"] : List PySem.Str)
abbrev R : PySem.W.OpenRow := PySem.W.OpenLaw.row PySem.Challenge.rw_butfewrows_k02_whole_rows
abbrev hk : PySem.W.Hook := He.hookD 5 fa fn
def ob (s : PySem.W.SharedT) : He.AlD := He.obsDG 5 fa fn (HandSHeadRun.getT s)
theorem ob_eq (s : PySem.W.SharedT) : ob s = hk.obs s.abs := He.obsDG_eq (HandSHeadRun.getT_eq s)
theorem run (w : World) : HandSHeadRun.RunEq R (PySem.W.view R.prog [23]) hk ob 4000 loose w := by
  intro os
  kernel_rfl
end L02
set_option Elab.async false
set_option linter.all false
set_option maxRecDepth 100000
set_option maxHeartbeats 0
namespace L02
open PySem PySem.Spec PyProof.Rows L2 BF
theorem facts {P : Program} {w : World} {Kf : PySem.W.Frag} {h : Heap} {mg : PySem.Str → Option Value} {f : Addr} (X : Kf.In h) (G : h.Ns mainGlobals mg) (hfa : mg ("law" : PySem.Str) = some (.ref f)) (c : He.SaysD fa fn Kf) :
    ∃ fd : FuncData, (∀ (s : Shared) (v : Value), BindsTo s fd ⟨[v], []⟩ [("_law_script", v)]) ∧ ∀ base : Heap, Kf.In base → base.Ns mainGlobals mg → FnOk P w Kf mg base (L2.CX P w) 21 f fd ["_law_script"] (spLaw Kf) := by
  obtain ⟨fd_is_integer, F_is_integer⟩ := c.def_ 0 (d := d_is_integer) rfl
  obtain ⟨fd_check_steps, F_check_steps⟩ := c.def_ 1 (d := d_check_steps) rfl
  obtain ⟨fd_check_good, F_check_good⟩ := c.def_ 2 (d := d_check_good) rfl
  obtain ⟨fd_Machine, F_Machine⟩ := c.def_ 3 (d := d_Machine) rfl
  obtain ⟨fd_check_row, F_check_row⟩ := c.def_ 4 (d := d_check_row) rfl
  obtain ⟨fd_stand_behind, F_stand_behind⟩ := c.def_ 5 (d := d_stand_behind) rfl
  obtain ⟨fd_lets, F_lets⟩ := c.def_ 6 (d := d_lets) rfl
  obtain ⟨fd__law_mix, F__law_mix⟩ := c.def_ 7 (d := d__law_mix) rfl
  obtain ⟨fd__law_next, F__law_next⟩ := c.def_ 8 (d := d__law_next) rfl
  obtain ⟨fd__law_alike, F__law_alike⟩ := c.def_ 9 (d := d__law_alike) rfl
  obtain ⟨fd__law_pick, F__law_pick⟩ := c.def_ 10 (d := d__law_pick) rfl
  obtain ⟨fd__law_parts, F__law_parts⟩ := c.def_ 11 (d := d__law_parts) rfl
  obtain ⟨fd__law_end, F__law_end⟩ := c.def_ 12 (d := d__law_end) rfl
  obtain ⟨fd_law, F_law⟩ := c.def_ 13 (d := d_law) rfl
  have e := hfa.symm.trans (He.glo_ok X G (c.fact 18 (f := .glo "law") rfl))
  cases e
  have b := FunD.bindsA (ps := ["_law_script"]) F_law fun _ _ _ _ _ _ us hl => match us, hl with | [_], _ => rfl
  refine ⟨fd_law, fun s v => b s [v] rfl, fun base _ _ => ?_⟩
  let K : Env1 := ⟨Kf, He.ga Kf, ([] : List PySem.Str)⟩
  have h : ∀ a0 a1 (hne : a0 ≠ a1), G0 P w mg base K (drT a0 a1 hne) 20 M15 (Γ15 K a0) := by
    intro a0 a1 hne
    have g0 : G0 P w mg base K (drT a0 a1 hne) 0 M0 (Γ0 K a0) := G0.nil (List.forall_mem_cons.mpr ⟨(He.free_ok X G (c.fact 19 (f := .free "all") rfl)), (List.forall_mem_cons.mpr ⟨(He.free_ok X G (c.fact 20 (f := .free "bool") rfl)), (List.forall_mem_cons.mpr ⟨(He.free_ok X G (c.fact 21 (f := .free "enumerate") rfl)), (List.forall_mem_cons.mpr ⟨(He.free_ok X G (c.fact 22 (f := .free "int") rfl)), (List.forall_mem_cons.mpr ⟨(He.free_ok X G (c.fact 23 (f := .free "isinstance") rfl)), (List.forall_mem_cons.mpr ⟨(He.free_ok X G (c.fact 24 (f := .free "len") rfl)), (List.forall_mem_cons.mpr ⟨(He.free_ok X G (c.fact 25 (f := .free "list") rfl)), (List.forall_mem_cons.mpr ⟨(He.free_ok X G (c.fact 26 (f := .free "max") rfl)), (List.forall_mem_cons.mpr ⟨(He.free_ok X G (c.fact 27 (f := .free "min") rfl)), (List.forall_mem_cons.mpr ⟨(He.free_ok X G (c.fact 28 (f := .free "range") rfl)), (List.forall_mem_cons.mpr ⟨(He.free_ok X G (c.fact 29 (f := .free "str") rfl)), (List.forall_mem_cons.mpr ⟨(He.free_ok X G (c.fact 30 (f := .free "tuple") rfl)), (fun _ h => absurd h List.not_mem_nil)⟩)⟩)⟩)⟩)⟩)⟩)⟩)⟩)⟩)⟩)⟩)⟩) rfl (fun _ h => absurd h List.not_mem_nil) (fun _ h => absurd h List.not_mem_nil) (List.forall_mem_cons.mpr ⟨⟨He.cls_ok (c.fact 7 (f := .cls "Machine") rfl), He.noat_ok (c.fact 31 (f := .noat "Machine" "parts") rfl)⟩, (fun _ h => absurd h List.not_mem_nil)⟩)
    obtain ⟨t0, e0⟩ := He.int_ok X G (c.fact 0 (f := .int "MOST_STANDS" 8) rfl)
    have g1 : G0 P w mg base K (drT a0 a1 hne) 0 M1 (Γ1 K a0) := g0.snocC e0 (v := .int 8) ⟨_, rfl⟩ (fun _ => .int _)
    obtain ⟨t1, e1⟩ := He.int_ok X G (c.fact 1 (f := .int "MOST_LETTERS" 3) rfl)
    have g2 : G0 P w mg base K (drT a0 a1 hne) 0 M2 (Γ2 K a0) := g1.snocC e1 (v := .int 3) ⟨_, rfl⟩ (fun _ => .int _)
    obtain ⟨t2, e2⟩ := He.int_ok X G (c.fact 2 (f := .int "MOST_LONG" 40) rfl)
    have g3 : G0 P w mg base K (drT a0 a1 hne) 0 M3 (Γ3 K a0) := g2.snocC e2 (v := .int 40) ⟨_, rfl⟩ (fun _ => .int _)
    have b3 : Binds Kf fd_is_integer (["thing", "low", "high"] : List PySem.Str) [] := F_is_integer.bindsN fun _ _ _ _ _ _ us hl => match us, hl with | [_, _, _], _ => rfl
    have g4 : G0 P w mg base K (drT a0 a1 hne) 1 M4 (Γ4 K a0) := g3.snoc (by omega) (by omega) (def_ok g3 F_is_integer sc9 ch9) (He.glo_ok X G (c.fact 3 (f := .glo "is_integer") rfl)) F_is_integer.kp b3
    have b4 : Binds Kf fd_check_steps (["thing"] : List PySem.Str) [] := F_check_steps.bindsN fun _ _ _ _ _ _ us hl => match us, hl with | [_], _ => rfl
    have g5 : G0 P w mg base K (drT a0 a1 hne) 2 M5 (Γ5 K a0) := g4.snoc (by omega) (by omega) (def_ok g4 F_check_steps sc10 ch10) (He.glo_ok X G (c.fact 4 (f := .glo "check_steps") rfl)) F_check_steps.kp b4
    have b5 : Binds Kf fd_check_good (["thing", "stands"] : List PySem.Str) [] := F_check_good.bindsN fun _ _ _ _ _ _ us hl => match us, hl with | [_, _], _ => rfl
    have g6 : G0 P w mg base K (drT a0 a1 hne) 3 M6 (Γ6 K a0) := g5.snoc (by omega) (by omega) (def_ok g5 F_check_good sc11 ch11) (He.glo_ok X G (c.fact 5 (f := .glo "check_good") rfl)) F_check_good.kp b5
    have b6 : Binds Kf fd_Machine (["self", "steps", "good"] : List PySem.Str) [] := F_Machine.bindsN fun _ _ _ _ _ _ us hl => match us, hl with | [_, _, _], _ => rfl
    have g7 : G0 P w mg base K (drT a0 a1 hne) 5 M7 (Γ7 K a0) := g6.snocM (by omega) (kf := 4) (by omega) (by omega) (ini_ok (self := "self") g6 F_Machine sc12 rfl rfl (by decide +kernel) (by decide +kernel) (He.cls_ok (c.fact 7 (f := .cls "Machine") rfl)) (He.noat_ok (c.fact 31 (f := .noat "Machine" "parts") rfl)) ch12) (He.glo_ok X G (c.fact 6 (f := .glo "Machine") rfl)) (He.mkr_ok (c.fact 8 (f := .mkr "Machine") rfl)) b6
    have b7 : Binds Kf fd_check_row (["machine", "thing"] : List PySem.Str) [] := F_check_row.bindsN fun _ _ _ _ _ _ us hl => match us, hl with | [_, _], _ => rfl
    have g8 : G0 P w mg base K (drT a0 a1 hne) 6 M8 (Γ8 K a0) := g7.snoc (by omega) (by omega) (def_ok g7 F_check_row sc13 ch13) (He.glo_ok X G (c.fact 9 (f := .glo "check_row") rfl)) F_check_row.kp b7
    have b8 : Binds Kf fd_stand_behind (["machine", "row"] : List PySem.Str) [] := F_stand_behind.bindsN fun _ _ _ _ _ _ us hl => match us, hl with | [_, _], _ => rfl
    have g9 : G0 P w mg base K (drT a0 a1 hne) 7 M9 (Γ9 K a0) := g8.snoc (by omega) (by omega) (def_ok g8 F_stand_behind sc14 ch14) (He.glo_ok X G (c.fact 10 (f := .glo "stand_behind") rfl)) F_stand_behind.kp b8
    have b9 : Binds Kf fd_lets (["machine", "row"] : List PySem.Str) [] := F_lets.bindsN fun _ _ _ _ _ _ us hl => match us, hl with | [_, _], _ => rfl
    have g10 : G0 P w mg base K (drT a0 a1 hne) 8 M10 (Γ10 K a0) := g9.snoc (by omega) (by omega) (def_ok g9 F_lets sc15 ch15) (He.glo_ok X G (c.fact 11 (f := .glo "lets") rfl)) F_lets.kp b9
    have b10 : Binds Kf fd__law_next ["_law_h", "_law_cap"] [] := F__law_next.bindsN fun _ _ _ _ _ _ us hl => match us, hl with | [_, _], _ => rfl
    have g11 : G0 P w mg base K (drT a0 a1 hne) 8 M11 (Γ11 K a0) := g10.snoc (by omega) (by omega) (ok_next (K := K) F__law_next sc18 (by decide +kernel) (by decide +kernel) (by decide +kernel) (by decide +kernel) (He.free_ok X G (c.fact 22 (f := .free "int") rfl)) (He.free_ok X G (c.fact 26 (f := .free "max") rfl)) (He.free_ok X G (c.fact 24 (f := .free "len") rfl)) rfl) (He.glo_ok X G (c.fact 13 (f := .glo "_law_next") rfl)) F__law_next.kp b10
    have b11 : Binds Kf fd__law_alike (["_law_found", "_law_due"] : List PySem.Str) [] := F__law_alike.bindsN fun _ _ _ _ _ _ us hl => match us, hl with | [_, _], _ => rfl
    have g12 : G0 P w mg base K (drT a0 a1 hne) 17 M12 (Γ12 K a0) := g11.snoc (by omega) (by omega) (rec_ok g11 F__law_alike sc19 (He.glo_ok X G (c.fact 14 (f := .glo "_law_alike") rfl)) F__law_alike.kp b11 ch19 8) (He.glo_ok X G (c.fact 14 (f := .glo "_law_alike") rfl)) F__law_alike.kp b11
    have b12 : Binds Kf fd__law_pick (["_law_h", "_law_things"] : List PySem.Str) [] := F__law_pick.bindsN fun _ _ _ _ _ _ us hl => match us, hl with | [_, _], _ => rfl
    have g13 : G0 P w mg base K (drT a0 a1 hne) 18 M13 (Γ13 K a0) := g12.snoc (by omega) (by omega) (def_ok g12 F__law_pick sc20 ch20) (He.glo_ok X G (c.fact 15 (f := .glo "_law_pick") rfl)) F__law_pick.kp b12
    have b13 : Binds Kf fd__law_parts (["_law_h", "_law_letters"] : List PySem.Str) [] := F__law_parts.bindsN fun _ _ _ _ _ _ us hl => match us, hl with | [_, _], _ => rfl
    have g14 : G0 P w mg base K (drT a0 a1 hne) 19 M14 (Γ14 K a0) := g13.snoc (by omega) (by omega) (def_ok g13 F__law_parts sc21 ch21) (He.glo_ok X G (c.fact 16 (f := .glo "_law_parts") rfl)) F__law_parts.kp b13
    have b14 : Binds Kf fd__law_end (["_law_parts_here", "_law_stand", "_law_row"] : List PySem.Str) [] := F__law_end.bindsN fun _ _ _ _ _ _ us hl => match us, hl with | [_, _, _], _ => rfl
    have g15 : G0 P w mg base K (drT a0 a1 hne) 20 M15 (Γ15 K a0) := g14.snoc (by omega) (by omega) (def_ok g14 F__law_end sc22 ch22) (He.glo_ok X G (c.fact 17 (f := .glo "_law_end") rfl)) F__law_end.kp b14
    exact g15
  have bm : Binds Kf fd__law_mix ["_law_script", "_law_seed"] [] := F__law_mix.bindsN fun _ _ _ _ _ _ us hl => match us, hl with | [_, _], _ => rfl
  exact law_ok (K := K) (rest := (defBody (top 23)).tail) (code := c_law) (seed := 2) h F_law sc23 (by decide +kernel) (by decide +kernel) (ok_mix (K := K) F__law_mix sc17 (by decide +kernel) (by decide +kernel) (by decide +kernel) (by decide +kernel) (He.free_ok X G (c.fact 22 (f := .free "int") rfl)) (He.free_ok X G (c.fact 25 (f := .free "list") rfl)) rfl) (by omega) (He.glo_ok X G (c.fact 12 (f := .glo "_law_mix") rfl)) F__law_mix.kp bm ch23 (hrun K)
end L02
open PySem PySem.W PySem.Calls PyProof.Rows
theorem PySem.Challenge.cw_butfewrows_k02_whole_rows_holds : PySem.Challenge.rw_butfewrows_k02_whole_rows.Holds := by
  w_on; o_law
  refine HandSHeadRun.head_any (r := OpenLaw.row PySem.Challenge.rw_butfewrows_k02_whole_rows) (q := view (OpenLaw.row PySem.Challenge.rw_butfewrows_k02_whole_rows).prog [23]) (H := L02.hk) (ob := L02.ob) (M := 4000) (loose := L02.loose) (d := HandSHeadRun.topDef (OpenLaw.row PySem.Challenge.rw_butfewrows_k02_whole_rows).prog 23) (kwd := []) L02.ob_eq
    (by kernel_rfl) (fun s => by kernel_rfl) L02.run (by kernel_rfl) (by kernel_rfl) (by kernel_rfl) (by rfl) (by first | assumption | decide +kernel) (by decide +kernel) ⟨rfl, rfl, rfl, rfl, rfl, by decide +kernel⟩ ?hw ?hc
  case hw => w_witness2
  case hc =>
    refine L2.walk_ofE (l := PySem.Challenge.rw_butfewrows_k02_whole_rows) (n := 63) (k := 21) (x := "_law_script") (CX := L2.CX0) rfl (by decide) (by kernel_rfl) ⟨rfl, by decide, by decide⟩ ?F (fun _ _ _ _ z => z)
    intro w mg fa h Y G hmg0
    obtain ⟨K, KX, c⟩ := Y
    have hmg : mg ("law" : PySem.Str) = some (.ref fa) := by
      have e : (HandSHeadRun.topDef (OpenLaw.row PySem.Challenge.rw_butfewrows_k02_whole_rows).prog 23).name = ("law" : PySem.Str) := by kernel_rfl
      rw [← e]
      exact hmg0
    obtain ⟨fd, hb, hF⟩ := L02.facts (P := PySem.Challenge.rw_butfewrows_k02_whole_rows.prog) (w := w) KX G hmg c
    exact ⟨K, fd, BF.spLaw K, KX, hb, fun H a ns hl _ hS => ⟨a, ns, rfl, hl, hS, fun _ => rfl⟩, fun base h1 h2 => BF.law0 (hF base h1 h2)⟩
